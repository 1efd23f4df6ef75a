/- Own work: part of the proof; the first line of each part says what it tells. -/
import Derived.Test.YtfoedjifcmfogaaDoorLb3
import Derived.ProofKit
import Derived.Deep.Slices


namespace Go.Proofs.YtfoedjifcmfogaaDoor.X
open Go
set_option linter.unusedVariables false
set_option linter.unusedSimpArgs false
variable {T:Told} {P:Program} {tb:Tb} {env:Env}
theorem qjX:∀ {l:List Nat},qk5 l=true->l.Nodup
 | [],_=>List.nodup_nil
 | n::r,h=>by
  simp only[qk5,Bool.and_eq_true,Bool.not_eq_true'] at h;exact List.nodup_cons.2 ⟨qbW.1 h.1,qjX h.2⟩
theorem qgP:∀ {l:List (Nat×SH)} {x:HL (tysS l)},qab (mkSl l x).2=qh2 l
 | [],_=>rfl
 | (n,.v t)::r,(x,z)=>qgP (l:=r) (x:=z)
 | (n,.o e key)::r,(x,z)=>by simp only[mkSl,qab,List.map_cons,qh2];exact congrArg _ (qgP (l:=r) (x:=z))
 | (n,.l e key)::r,(x,z)=>by simp only[mkSl,qab,List.map_cons,qh2];exact congrArg _ (qgP (l:=r) (x:=z))
 | (n,.p k i off)::r,z=>qgP (l:=r) (x:=z)
 | (n,.h)::r,z=>qgP (l:=r) (x:=z)
 | (n,.f e key)::r,(x,z)=>by simp only[mkSl,qab,List.map_cons,qh2];exact congrArg _ (qgP (l:=r) (x:=z))
theorem qio:∀ {l:List SH} {x:HL (tysL l)},qab (mkL l x).2=qgc l
 | [],_=>rfl
 | .v t::r,(x,z)=>qio (l:=r) (x:=z)
 | .o e key::r,(x,z)=>by simp only[mkL,qab,List.map_cons,qgc];exact congrArg _ (qio (l:=r) (x:=z))
 | .l e key::r,(x,z)=>by simp only[mkL,qab,List.map_cons,qgc];exact congrArg _ (qio (l:=r) (x:=z))
 | .p k i off::r,z=>qio (l:=r) (x:=z)
 | .h::r,z=>qio (l:=r) (x:=z)
 | .f e key::r,(x,z)=>by simp only[mkL,qab,List.map_cons,qgc];exact congrArg _ (qio (l:=r) (x:=z))
theorem qsV:∀ {l:List (Nat×List SH)} {x:BL l},qab (mkB l x)=qpG l
 | [],_=>rfl
 | (k,l)::r,(x,z)=>by
  have h1:=qio (l:=l) (x:=x);have h2:=qsV (l:=r) (x:=z);simp only[qab] at h1 h2;simp only[mkB,qab,List.cons_append,List.map_cons,List.map_append,qpG,h1,h2]
theorem qxG {h:Hp}:∀ {t:Ty} {r:List PV} {x:t.den} {r':List PV},dec h t (.junk::r)=some (x,r')->r'=.junk::r:=by
 intro t
 induction t with
 | pair a b iha ihb =>
  intro r x r' h1;simp only[dec] at h1;split at h1
  · rename_i y r1 e1;have:=iha e1;subst this;split at h1
    · rename_i z r2 e2;have:=ihb e2;subst this;injection h1 with h1
      injection h1 with _ h1
      exact h1.symm
    · cases h1
  · cases h1
 | unit=>intro r x r' h1;simp only[dec] at h1;injection h1 with h1;injection h1 with _ h1;exact h1.symm
 | int k=>intro r x r' h1;simp [dec] at h1
 | bool=>intro r x r' h1;simp [dec] at h1
 | str | os _ _ | op _ _=>intro r x r' h1;simp [dec] at h1
 | sl e ih=>intro r x r' h1;simp [dec] at h1
theorem qq9 {h:Hp} {t:Ty} {x:t.den}:decA h t [.junk]≠some x:=by
 intro h1;unfold decA at h1;split at h1
 · rename_i y e1;have:=qxG e1;cases this
 · cases h1
theorem TRel.down {w:World} {S:Foot} {J:Con} {g:Hp} {pv:PV} {v:Value} (h:TRel w S J g pv v) (h1:∀ q,pv≠.agg q) (h2:∀ q,pv≠.tup q) (h3:∀ f q,pv≠.clo f q):qac w S J g pv v:=by
 cases pv<;>first | exact h | exact absurd rfl (h1 _) | exact absurd rfl (h2 _) | exact absurd rfl (h3 _ _)
theorem qi1 {α:Type} {l:List (Nat×(α×Option Nat))} (h:(l.filterMap fun e=>e.2.2).Nodup):∀ {n n':Nat} {a a':α} {k:Nat},(n,(a,some k))∈l->(n',(a',some k))∈l->n=n':=by
 induction l with
 | nil=>intro n n' a a' k h1;simp at h1
 | cons x l ih =>
  intro n n' a a' k h1 h2;obtain⟨m,b,old⟩:=x;have mem:∀ {n a},(n,(a,some k))∈l->k∈l.filterMap fun e=>e.2.2:=fun h=>List.mem_filterMap.2 ⟨_,h,rfl⟩
  cases old with
  | none =>
   have hh:(l.filterMap fun e=>e.2.2).Nodup:=by simpa using h
   rcases List.mem_cons.1 h1 with e | g1
   · simp at e
   · rcases List.mem_cons.1 h2 with e | g2
     · simp at e
     · exact ih hh g1 g2
  | some k0 =>
   have hh:k0 ∉ (l.filterMap fun e=>e.2.2)/\(l.filterMap fun e=>e.2.2).Nodup:=by simpa using h
   rcases List.mem_cons.1 h1 with e | g1
   · simp only [Prod.mk.injEq, Option.some.injEq] at e;obtain⟨rfl,rfl,rfl⟩:=e;rcases List.mem_cons.1 h2 with e' | g2
     · simp only[Prod.mk.injEq] at e';exact e'.1.symm
     · exact absurd (mem g2) hh.1
   · rcases List.mem_cons.1 h2 with e' | g2
     · simp only [Prod.mk.injEq, Option.some.injEq] at e';obtain⟨_,_,rfl⟩:=e';exact absurd (mem g1) hh.1
     · exact ih hh.2 g1 g2
theorem qji {α:Type} {l:List (Nat×α)} (h:(l.map (·.1)).Nodup) {n:Nat} {a:α} (hm:(n,a)∈l):get l n=some a:=by
 induction l with
 | nil=>simp at hm
 | cons x l ih =>
  obtain⟨m,b⟩:=x;simp only[List.map_cons,List.nodup_cons] at h;rw[q6q];rcases List.mem_cons.1 hm with e | hm
  · injection e with e1 e2;subst e1;subst e2;simp
  · rw [if_neg, ih h.2 hm];rintro rfl;exact h.1 (List.mem_map.2 ⟨_,hm,rfl⟩)
theorem qyc (l:List It):oks l=(ens l).filterMap fun e=>e.2.2:=by
 induction l with
 | nil=>rfl
 | cons it l ih =>
  simp only[oks,ens,List.flatMap_cons,List.filterMap_append] at ih ⊢;rw[ih];rfl
theorem qjE (a b:List It):ens (a++b)=ens a++ens b:=by simp [ens]
theorem qxQ {bs:List (Nat×List It)} {e:Nat×(Ob×Option Nat)} (h:e∈bens bs):e∈ens (bits bs)\/∃ b∈bs,e=(b.1,(.box (b.2.map It.nv),some b.1)):=by
 induction bs with
 | nil=>simp [bens] at h
 | cons b bs ih =>
  obtain⟨k,its⟩:=b;simp only[bens,List.mem_cons,List.mem_append] at h;have eb:ens (bits ((k,its)::bs))=ens its++ens (bits bs):=by simp [bits,qjE]
  rw[eb];rcases h with h | h | h
  · exact .inr ⟨_,List.mem_cons_self,h⟩
  · exact .inl (List.mem_append.2 (.inl h))
  · rcases ih h with h | ⟨b, hb, h⟩
    · exact .inl (List.mem_append.2 (.inr h))
    · exact .inr ⟨b,List.mem_cons_of_mem _ hb,h⟩
theorem qsS {bs:List (Nat×List It)} {b:Nat×List It} (h:b∈bs):(b.1,(.box (b.2.map It.nv),some b.1))∈bens bs:=by
 induction bs with
 | nil=>simp at h
 | cons q bs ih =>
  obtain⟨k,its⟩:=q;simp only[bens,List.mem_cons,List.mem_append];rcases List.mem_cons.1 h with rfl | h
  · exact .inl rfl
  · exact .inr (.inr (ih h))
theorem qqK {bs:List (Nat×List It)} {e:Nat×(Ob×Option Nat)} (h:e∈ens (bits bs)):e∈bens bs:=by
 induction bs with
 | nil=>simp [bits,ens] at h
 | cons q bs ih =>
  obtain⟨k,its⟩:=q;have eb:ens (bits ((k,its)::bs))=ens its++ens (bits bs):=by simp [bits,qjE]
  rw[eb] at h;simp only[bens,List.mem_cons,List.mem_append];rcases List.mem_append.1 h with h | h
  · exact .inr (.inl h)
  · exact .inr (.inr (ih h))
theorem qfl {bs:List Nat}:∀ {l:List (Nat×SH)},qqj bs l=true->∀ {n k i off:Nat},(n,SH.p k i off)∈l->k∈bs
 | (m,.p k' i' off')::r,h,n,k,i,off,hm=>by
  simp only[qqj,Bool.and_eq_true] at h;rcases List.mem_cons.1 hm with e | hm
  · injection e with _ e;injection e with e _ _;subst e;exact qim.1 h.1
  · exact qfl h.2 hm
 | (m,.h)::r,h,n,k,i,off,hm=>by
  rcases List.mem_cons.1 hm with e | hm
  · injection e with _ e;cases e
  · exact qfl (l:=r) h hm
 | (m,.v t)::r,h,n,k,i,off,hm=>by
  rcases List.mem_cons.1 hm with e | hm
  · injection e with _ e;cases e
  · exact qfl (l:=r) h hm
 | (m,.o t q)::r,h,n,k,i,off,hm=>by
  rcases List.mem_cons.1 hm with e | hm
  · injection e with _ e;cases e
  · exact qfl (l:=r) h hm
 | (m,.l t q)::r,h,n,k,i,off,hm=>by
  rcases List.mem_cons.1 hm with e | hm
  · injection e with _ e;cases e
  · exact qfl (l:=r) h hm
 | (m,.f t q)::r,h,n,k,i,off,hm=>by
  rcases List.mem_cons.1 hm with e | hm
  · injection e with _ e;cases e
  · exact qfl (l:=r) h hm
theorem qez {bs:List Nat}:∀ {l:List SH},qnd bs l=true->∀ {k i off:Nat},SH.p k i off∈l->k∈bs
 | .p k' i' off'::r,h,k,i,off,hm=>by
  simp only[qnd,Bool.and_eq_true] at h;rcases List.mem_cons.1 hm with e | hm
  · injection e with e _ _;subst e;exact qim.1 h.1
  · exact qez h.2 hm
 | .h::r,h,k,i,off,hm=>by
  rcases List.mem_cons.1 hm with e | hm
  · cases e
  · exact qez (l:=r) h hm
 | .v t::r,h,k,i,off,hm=>by
  rcases List.mem_cons.1 hm with e | hm
  · cases e
  · exact qez (l:=r) h hm
 | .o t q::r,h,k,i,off,hm=>by
  rcases List.mem_cons.1 hm with e | hm
  · cases e
  · exact qez (l:=r) h hm
 | .l t q::r,h,k,i,off,hm=>by
  rcases List.mem_cons.1 hm with e | hm
  · cases e
  · exact qez (l:=r) h hm
 | .f t q::r,h,k,i,off,hm=>by
  rcases List.mem_cons.1 hm with e | hm
  · cases e
  · exact qez (l:=r) h hm
theorem qne {bs:List Nat}:∀ {l:List (Nat×List SH)},qo8 bs l=true->∀ {q:Nat×List SH} {k i off:Nat},q∈l->SH.p k i off∈q.2->k∈bs
 | (m,sl)::r,h,q,k,i,off,hm,hq=>by
  simp only[qo8,Bool.and_eq_true] at h;rcases List.mem_cons.1 hm with rfl | hm
  · exact qez h.1 hq
  · exact qne h.2 hm hq
theorem qyu {l:List (Nat×SH)} {its:List It} {Rr:Nat×SH->It->Prop} (h:All2 Rr l its) {n:Nat} {pv:PV} (hm:(n,pv)∈List.zipWith (fun p (it:It)=>(p.1,it.nv)) l its) :
  ∃ p it,p∈l/\it∈its/\Rr p it/\n=p.1/\pv=it.nv:=by
 induction l generalizing its with
 | nil=>simp at hm
 | cons p l ih =>
  cases its with
  | nil=>exact h.elim
  | cons it its =>
   simp only[List.zipWith_cons_cons,List.mem_cons] at hm;rcases hm with hm | hm
   · injection hm with e1 e2;exact⟨p,it,List.mem_cons_self,List.mem_cons_self,h.1,e1,e2⟩
   · obtain ⟨p', it', a1, a2, a3⟩ := ih h.2 hm;exact⟨p',it',List.mem_cons_of_mem _ a1,List.mem_cons_of_mem _ a2,a3⟩
theorem qzR {α:Type} (xs:List α) (len:Option Nat):(win xs 0 len).length<=xs.length:=by
 cases len<;>simp [win];omega
theorem qun {B:Base} {w:World} {S:Foot} {J:Con} {s:St} {a:Act} (R:Rel T B w S J s a) {g:SG} {v:g.V} (h:qwe g s=some v):∃ S' J',Rel T B w S' J' (mkS0 g v) a /\
   (∀ (K:Nat) (l l':List PV) (i:Nat) (pv nv:PV),get s.h K=some (.box l)->get (mkS0 g v).h K=some (.box l')->l[i]?=some pv->l'[i]?=some nv->∀ u,TRel w S J (get s.h) pv u->TRel w S' J' (get (mkS0 g v).h) nv u) /\
   (∀ K∈qit g.boxes,∀ u,qac w S J (get s.h) (.ptr K 0 0) u->qac w S' J' (get (mkS0 g v).h) (.ptr K 0 0) u) /\
   (∀ n t xs,get (mkS0 g v).h n=some (.rows t xs .lent)->get s.h n=some (.rows t xs .lent)/\∀ u,qac w S J (get s.h) (.osl n 0 none) u->qac w S' J' (get (mkS0 g v).h) (.osl n 0 none) u) /\
   ∀ n l,get (mkS0 g v).h n=some (.box l)->∃ l0,get s.h n=some (.box l0):=by
 unfold qwe at h;obtain⟨hok,h⟩:=q8q h;split at h
 · rename_i x used hx;split at h
   · rename_i y used' hy;injection h with h
     subst h;obtain⟨its,c1,c2,c3,c4,c5⟩:=qwg hx;obtain⟨bs,d1,d2,d3,d4,d5⟩:=qxL hy;simp only[SG.ok,Bool.and_eq_true] at hok;obtain⟨⟨⟨hdis,hp1⟩,hp2⟩,hdt⟩:=hok;have hI:=CanI.append c1 d1;obtain⟨k1,k2,_⟩:=hI.keys;have hmem:=hI.mem;obtain⟨S1,R1,hS1,hS1n,hdec⟩:=R.frz (hp:=get s.h) (fun _ _ h=>h) (dks (its++bits bs));generalize hE:ens its++bens bs=E;have hmk:(mkS0 g (x,y)).h=objs E:=by
       show(mkSl g.slots x).2++mkB g.boxes y=objs E;rw[c4,d2,<- hE,qgG]
     have hmke:(mkS0 g (x,y)).e=List.zipWith (fun p it=>(p.1,it.nv)) g.slots its:=c3;have hEn:(E.map (·.1)).Nodup:=by
       have e1:E.map (·.1)=qab (objs E):=by simp [qab,objs]
       rw[e1,<- hmk];show(qab ((mkSl g.slots x).2++mkB g.boxes y)).Nodup;have:qab ((mkSl g.slots x).2++mkB g.boxes y)=qab (mkSl g.slots x).2++qab (mkB g.boxes y):=by simp [qab]
       rw[this,qgP,qsV];exact qjX hdis
     let J':Con:=fun n=>match get E n with | some (_,some k)=>J k | _=>none
     have hβ':∀ {n ob old},(n,(ob,old))∈E->J' n=(match old with | some k=>J k | none=>none):=by
       intro n ob old hm;simp only[J',qji hEn hm];cases old<;>rfl
     have hg':∀ {n ob old},(n,(ob,old))∈E->get (mkS0 g (x,y)).h n=some ob:=by
       intro n ob old hm;rw[hmk,qs3,qji hEn hm];rfl
     have hEI:∀ {e},e∈ens (its++bits bs)->e∈E:=by
       intro e he;rw[qjE] at he;rw[<- hE];rcases List.mem_append.1 he with he | he
       · exact List.mem_append.2 (.inl he)
       · exact List.mem_append.2 (.inr (qqK he))
     have hIE:∀ {e},e∈E->e∈ens (its++bits bs)\/∃ b∈bs,e=(b.1,(.box (b.2.map It.nv),some b.1)):=by
       intro e he;rw[qjE];rw[<- hE] at he;rcases List.mem_append.1 he with he | he
       · exact .inl (List.mem_append.2 (.inl he))
       · exact(qxQ he).imp (fun h=>List.mem_append.2 (.inr h)) id
     have hiten:∀ {it e},it∈its++bits bs->e∈it.en->e∈E:=fun h1 h2=>hEI (List.mem_flatMap.2 ⟨_,h1,h2⟩)
     have hent:∀ {n ob old},(n,(ob,old))∈E->(∃ e,ob=.rows e [] .own/\old=none) \/
         (∃ k e ys len,ob=.rows e (win ys 0 len) .own/\old=some k/\get s.h k=some (.rows e ys .own)/\k∈oks (its++bits bs)/\(n,(ob,old))∈ens (its++bits bs)) \/
         (∃ e ys,ob=.rows e ys .lent/\old=some n/\get s.h n=some (.rows e ys .lent)/\n∈oks (its++bits bs)/\(n,(ob,old))∈ens (its++bits bs)) \/
         (∃ l:List It,ob=.box (l.map It.nv)/\old=some n/\get s.h n=some (.box (l.map It.pv))/\(∀ it∈l,it∈its++bits bs)/\∀ it∈l,∀ q,it.nv≠.agg q):=by
       intro n ob old hm;rcases hIE hm with hm | ⟨b,hb,e⟩
       · obtain ⟨it, hit, he⟩ := List.mem_flatMap.1 hm;obtain⟨u,u',hc⟩:=hmem it hit;have hko:∀ k,old=some k->k∈oks (its++bits bs):=fun k hk=>List.mem_flatMap.2 ⟨it,hit,List.mem_filterMap.2 ⟨_,he,hk⟩⟩
         cases hc with
         | v _ _ _=>simp at he
         | p=>simp at he
         | h=>simp at he
         | nil=>simp only[List.mem_singleton,Prod.mk.injEq] at he;obtain⟨rfl,rfl,rfl⟩:=he;exact .inl ⟨_,rfl,rfl⟩
         | o g1 g2=>simp only[List.mem_singleton,Prod.mk.injEq] at he;obtain⟨rfl,rfl,rfl⟩:=he;exact .inr (.inl ⟨_,_,_,_,rfl,rfl,g2,hko _ rfl,hm⟩)
         | l g1 g2=>simp only[List.mem_singleton,Prod.mk.injEq] at he;obtain⟨rfl,rfl,rfl⟩:=he;exact .inr (.inr (.inl ⟨_,_,rfl,rfl,g2,hko _ rfl,hm⟩))
         | fl g1 g2=>simp only[List.mem_singleton,Prod.mk.injEq] at he;obtain⟨rfl,rfl,rfl⟩:=he;exact .inr (.inr (.inl ⟨_,_,rfl,rfl,g2,hko _ rfl,hm⟩))
       · simp only [Prod.mk.injEq] at e;obtain⟨rfl,rfl,rfl⟩:=e;exact .inr (.inr (.inr ⟨b.2,rfl,rfl,(d3 b hb).1,fun it hit=>List.mem_append.2 (.inr (List.mem_flatMap.2 ⟨b,hb,hit⟩)),(d3 b hb).2⟩))
     have hrk:∀ {k},k∈oks (its++bits bs)->get (frzW (get s.h) (dks (its++bits bs))++s.h) k=get s.h k:=by
       intro k hk;rw[q2q,qjj (k2 k hk).2];rfl
     have hbk:∀ {n l},get s.h n=some (.box l)->get (frzW (get s.h) (dks (its++bits bs))++s.h) n=some (.box l):=by
       intro n l hn;rw[q2q];cases hq:get (frzW (get s.h) (dks (its++bits bs))) n with
       | none=>simpa using hn
       | some ob' =>
         obtain⟨ob,q1,q2⟩:=qe8 hq;rw[hn] at q1;injection q1 with q1;subst q1;subst q2;rfl
     have hval:∀ {it:It} {u:Value},it∈its++bits bs->TRel w S J (get s.h) it.pv u->TRel w S1 J' (get (mkS0 g (x,y)).h) it.nv u:=by
       intro it u hit hu;obtain⟨u1,u2,hc⟩:=hmem it hit;cases hc with
       | @v t pv x0 g1 g2 g3 =>
         exact(qsl g3 g2 hu fun vs hvs=>hdec _ vs t x0 (fun k hk=>List.mem_flatMap.2 ⟨_,hit,hk⟩) hvs g3).up
       | @nil e key =>
         have hm:=hiten hit List.mem_cons_self;have:qac w S1 J' (get (mkS0 g (x,y)).h) (.osl key 0 none) u:=by
           simp only[qac,hg' hm];have hu:u=.slice none 0 0:=hu;exact⟨by simp [qf1],by simp only[OslV,hβ' hm];exact⟨trivial,by simp [wlen],hu⟩⟩
         exact this.up
       | @o e key k len ys g1 g2 =>
         have hm:=hiten hit List.mem_cons_self;have hu0:qac w S J (get s.h) (.osl k 0 len) u:=hu;simp only[qac,g2] at hu0;obtain⟨hw,hu0⟩:=hu0;have hwl:=qbt hw;have:qac w S1 J' (get (mkS0 g (x,y)).h) (.osl key 0 none) u:=by
           simp only[qac,hg' hm];refine⟨by simp [qf1],?_⟩;simp only[OslV,hβ' hm] at hu0 ⊢;cases hb:J k with
           | none=>rw[hb] at hu0;simp only at hu0 ⊢;exact⟨trivial,by simp [wlen,hwl];exact hu0.2.1,hu0.2.2⟩
           | some p =>
             obtain⟨b,o⟩:=p;rw[hb] at hu0;simp only at hu0 ⊢;obtain⟨x0,cap,q1,q2,q3,q4⟩:=hu0;exact⟨x0,cap,by rw[q1];simp [wlen,hwl],by simp [wlen,hwl];exact q2,q3,q4⟩
         exact this.up
       | @l e key ys g1 g2 =>
         have hm:=hiten hit List.mem_cons_self;have hu0:qac w S J (get s.h) (.osl key 0 none) u:=hu;simp only[qac,g2] at hu0;have:qac w S1 J' (get (mkS0 g (x,y)).h) (.osl key 0 none) u:=by
           simp only[qac,hg' hm,hβ' hm];exact hu0
         exact this.up
       | @fl e key ys g1 g2 =>
         have hm:=hiten hit List.mem_cons_self;have hu0:qac w S J (get s.h) (.fx key) u:=hu;simp only[qac,g2] at hu0;have:qac w S1 J' (get (mkS0 g (x,y)).h) (.fx key) u:=by
           simp only[qac,hg' hm,hβ' hm];exact hu0
         exact this.up
       | h=>trivial
       | @p k i off =>
         have hkb:k∈qit g.boxes:=by
           rcases List.mem_append.1 hit with hit | hit
           · obtain ⟨n, hn⟩ := c5 _ hit k i off rfl;exact qfl hp1 hn
           · obtain ⟨q, q1, q2⟩ := d5 _ hit k i off rfl;exact qne hp2 q1 q2
         rw[<- d4] at hkb;obtain⟨b,hb,rfl⟩:=List.mem_map.1 hkb;have hm:(b.1,(Ob.box (b.2.map It.nv),some b.1))∈E:=by rw[<- hE];exact List.mem_append.2 (.inr (qsS hb))
         have hu0:qac w S J (get s.h) (.ptr b.1 i off) u:=hu;simp only[qac,(d3 b hb).1] at hu0;have:qac w S1 J' (get (mkS0 g (x,y)).h) (.ptr b.1 i off) u:=by
           simp only[qac,hg' hm,hβ' hm];exact hu0
         exact this.up
     have hobm:∀ {n ob},get (mkS0 g (x,y)).h n=some ob->∃ old,(n,(ob,old))∈E:=by
       intro n ob hn;rw[hmk,qs3] at hn;cases hq:get E n with
       | none=>rw[hq] at hn;cases hn
       | some p =>
         obtain⟨ob',old⟩:=p;rw[hq] at hn;simp only[Option.map_some] at hn;injection hn with hn
         subst hn;exact⟨old,qaT hq⟩
     have hptr:∀ K∈qit g.boxes,∀ u,qac w S J (get s.h) (.ptr K 0 0) u->qac w S1 J' (get (mkS0 g (x,y)).h) (.ptr K 0 0) u:=by
       intro K hkb u hu0;rw[<- d4] at hkb;obtain⟨b,hb,rfl⟩:=List.mem_map.1 hkb;have hm:(b.1,(Ob.box (b.2.map It.nv),some b.1))∈E:=by rw[<- hE];exact List.mem_append.2 (.inr (qsS hb))
       simp only[qac,(d3 b hb).1] at hu0;simp only[qac,hg' hm,hβ' hm];exact hu0
     have hbox0:∀ {it:It},it∈its++bits bs->(∀ q,it.nv≠.tup q)/\∀ f q,it.nv≠.clo f q:=by
       intro it hit;obtain⟨u1,u2,hc⟩:=hmem it hit;cases hc with
       | @v t pv x0 _ _ _=>constructor<;>intros<;>cases t<;>simp [toPV]
       | nil=>constructor<;>intros<;>simp
       | o _ _=>constructor<;>intros<;>simp
       | l _ _=>constructor<;>intros<;>simp
       | fl _ _=>constructor<;>intros<;>simp
       | p=>constructor<;>intros<;>simp
       | h=>constructor<;>intros<;>simp
     have hlold:∀ {n ob b o},get (mkS0 g (x,y)).h n=some ob->ob.live=true->J' n=some (b,o)->∃ k0 ob0,get s.h k0=some ob0/\ob0.live=true/\J k0=some (b,o)/\get (frzW (get s.h) (dks (its++bits bs))++s.h) k0=some ob0 /\
         ((∃ ob',(n,(ob',some k0))∈ens (its++bits bs)/\∃ t xs m,ob0=.rows t xs m)\/(n=k0/\∃ l,ob0=.box l))/\((∀ t xs,ob≠.rows t xs .lent)->∀ t xs,ob0≠.rows t xs .lent):=by
       intro n ob b o hn hl hb;obtain⟨old,hm⟩:=hobm hn;rw[hβ' hm] at hb;rcases hent hm with ⟨e,rfl,rfl⟩ | ⟨k,e,ys,len,rfl,rfl,h1,h2,h3⟩ | ⟨e,ys,rfl,rfl,h1,h2,h3⟩ | ⟨l,rfl,rfl,h1,h2,h3⟩
       · cases hb
       · exact⟨k,_,h1,rfl,hb,by rw[hrk h2];exact h1,.inl ⟨_,h3,_,_,_,rfl⟩,fun _ t xs e=>by cases e⟩
       · exact⟨n,_,h1,rfl,hb,by rw[hrk h2];exact h1,.inl ⟨_,h3,_,_,_,rfl⟩,fun hq t xs e=>hq _ _ rfl⟩
       · exact⟨n,_,h1,rfl,hb,hbk h1,.inr ⟨rfl,_,rfl⟩,fun _ t xs e=>by cases e⟩
     refine⟨S1,J',⟨R.defers,R.size,fun n pv hn=>?_,fun n ob hn=>?_,?_,R1.Slt,R1.S0,R1.Snew,R.olds,R.grow,R.lent,fun n t xs hn=>?_,R.told,R.toldS,R.ltinj,fun n ob b o hn hl hnl hb=>?_,R.calm,fun n l hn=>?_,?_,R.pbn⟩,fun K l l' i pv nv hK hK' hi hi' u hu=>?_,hptr,fun n t xs hn=>?_,fun n l hn=>?_⟩
     · have hn := qaT hn;rw[hmke] at hn;obtain⟨p,it,q1,q2,q3,rfl,rfl⟩:=qyu c2 hn;obtain⟨⟨q3,_⟩,q3h⟩:=q3;have hit:it∈its++bits bs:=List.mem_append.2 (.inl q2);cases he:get s.e p.1 with
       | none =>
         rw[he] at q3;simp only[Option.getD_none] at q3;obtain⟨u1,u2,hc⟩:=hmem it hit;cases hc with
         | v g1 g2 g3=>simp only at q3;subst q3;exact absurd g3 qq9
         | nil=>cases q3
         | o _ _=>cases q3
         | l _ _=>cases q3
         | fl _ _=>cases q3
         | p=>cases q3
         | h=>exact absurd rfl q3h
       | some pv0 =>
         rw[he] at q3;simp only[Option.getD_some] at q3;obtain⟨u,hu1,hu2⟩:=R.tmps p.1 pv0 he;exact⟨u,hu1,hval hit (by rw[q3];exact hu2)⟩
     · obtain ⟨old, hm⟩ := hobm hn;rcases hent hm with ⟨e,rfl,rfl⟩ | ⟨k,e,ys,len,rfl,rfl,h1,h2,h3⟩ | ⟨e,ys,rfl,rfl,h1,h2,h3⟩ | ⟨l,rfl,rfl,h1,h2,h3⟩
       · simp only[ORel,hβ' hm]
       · have hob := R.obs k _ h1;simp only[ORel,hβ' hm] at hob ⊢;cases hb:J k with
         | none=>rw[hb] at hob;simp only at hob ⊢;subst hob;cases len<;>simp [win]
         | some p =>
           obtain⟨b,o⟩:=p;rw[hb] at hob;simp only at hob ⊢;obtain⟨⟨c,q1,q2⟩,q3,q4,q5,q6⟩:=hob;have hle:=Nat.mul_le_mul_right e.size (qzR ys len);refine⟨⟨c,q1,by omega⟩,fun i z hz=>?_,by simp,fun _=>R1.liveS (by rw[hrk h2];exact h1) rfl hb,q6⟩;obtain⟨ds,e1,e2⟩:=q3 i z (by have:=qhY hz;rwa [Nat.zero_add] at this)
           exact⟨ds,e1.mono hS1 (fun _ _=>rfl),e2⟩
       · have hob := R.obs n _ h1;simp only[ORel,hβ' hm] at hob ⊢;cases hb:J n with
         | none=>rw[hb] at hob;exact hob
         | some p =>
           obtain⟨b,o⟩:=p;rw[hb] at hob;simp only at hob ⊢;obtain⟨q1,q3,q4,q5,q6⟩:=hob;exact⟨q1,q3.mono hS1 (fun _ _=>rfl) rfl,by simp,fun _=>R1.liveS (by rw[hrk h2];exact h1) rfl hb,q6⟩
       · obtain ⟨b, c, q1, q2, q3, q4, q5⟩ := R.obs n _ h1;have hlv:=R1.liveS (hbk h1) rfl q1;refine⟨b,c,by rw[hβ' hm];exact q1,q2,?_,hlv.1,hlv.2⟩;have:∀ {l:List It} {us:List Value},(∀ it∈l,it∈its++bits bs)->(∀ it∈l,∀ q,it.nv≠.agg q)->All2 (qac w S J (get s.h)) (l.map It.pv) us->All2 (qac w S1 J' (get (mkS0 g (x,y)).h)) (l.map It.nv) us:=by
           intro l
           induction l with
           | nil =>
             intro us _ _ h;cases us with
             | nil=>trivial
             | cons _ _=>exact h.elim
           | cons it l ih =>
             intro us g1 g2 g3;cases us with
             | nil=>exact g3.elim
             | cons u us =>
              have hit:=g1 it List.mem_cons_self;exact⟨(hval hit g3.1.up).down (g2 it List.mem_cons_self) (hbox0 hit).1 (hbox0 hit).2,ih (fun i hi=>g1 i (List.mem_cons_of_mem _ hi)) (fun i hi=>g2 i (List.mem_cons_of_mem _ hi)) g3.2⟩
         exact this h2 h3 q3
     · intro n n' ob ob' b o o' hn hl hn' hl' hb hb';obtain⟨k0,ob0,e1,e2,e3,_,e4,_⟩:=hlold hn hl hb;obtain⟨k0',ob0',e1',e2',e3',_,e4',_⟩:=hlold hn' hl' hb';have:=R.inj k0 k0' ob0 ob0' b o o' e1 e2 e1' e2' e3 e3';subst this;rw[e1] at e1';injection e1' with e1'
       subst e1';rcases e4 with ⟨o1,m1,t,xs,m,r1⟩ | ⟨rfl,l,r1⟩
       · rcases e4' with ⟨o2, m2, _⟩ | ⟨rfl, l, r2⟩
         · exact qi1 (by rw[<- qyc];exact k1) m1 m2
         · rw[r1] at r2;cases r2
       · rcases e4' with ⟨o2, m2, t, xs, m, r2⟩ | ⟨rfl, l', r2⟩
         · rw[r1] at r2;cases r2
         · rfl
     · obtain ⟨old, hm⟩ := hobm hn;rcases hent hm with ⟨e,h0,_⟩ | ⟨k,e,ys,len,h0,_⟩ | ⟨e,ys,h0,rfl,h1,h2,h3⟩ | ⟨l,h0,_⟩
       · cases h0
       · cases h0
       · rw [hβ' hm];injection h0 with e1 e2 e3
         subst e1;have e2:=eq_of_heq e2;subst e2;exact R.lentk n t xs h1
       · cases h0
     · obtain ⟨k0, ob0, e1, e2, e3, _, _, e5⟩ := hlold hn hl hb;exact R.sep k0 ob0 b o e1 e2 (e5 hnl) e3
     · obtain ⟨old, hm⟩ := hobm hn;rcases hent hm with ⟨e,h0,_⟩ | ⟨k,e,ys,len,h0,_⟩ | ⟨e,ys,h0,rfl,h1,h2,h3⟩ | ⟨l',h0,rfl,h1,h2,h3⟩
       · cases h0
       · cases h0
       · cases h0
       · injection h0 with h0
         subst h0;refine(R.boxk n _ h1).turn (hβ' hm) fun p i v _ hi hv=>⟨?_,rfl⟩
         rw[List.getElem?_map] at hi ⊢;cases hq:l'[i]? with
         | none=>rw[hq] at hi;cases hi
         | some it =>
           rw[hq] at hi;simp only[Option.map_some,Option.some.injEq] at hi;obtain⟨u1,u2,hc⟩:=hmem it (h2 it (List.mem_of_getElem? hq));rw[<- hi] at hv;cases hc with
           | @v t pv x0 _ _ _=>rw[show PV.stays (It.nv ⟨pv,toPV t x0,[],qag pv.cells⟩)=PV.stays (toPV t x0) from rfl,qof] at hv;cases hv
           | nil=>cases hv
           | o _ _=>cases hv
           | l _ _=>cases hv
           | p=>cases hv
           | h=>exact⟨_,rfl,rfl⟩
           | fl _ _=>exact⟨_,rfl,rfl⟩
     · obtain ⟨O, D⟩ := R1.deep;have hsrc:∀ {n:Nat} {b:Nat},b∈(match get E n with | some (.rows _ _ .own,some k)=>O k | _=>[])->∃ k t xs,(n,(Ob.rows t xs .own,some k))∈E/\b∈O k:=by
         intro n b hb;split at hb
         · rename_i t xs k hq;exact⟨k,t,xs,qaT hq,hb⟩
         · simp at hb
       refine⟨fun n=>match get E n with | some (.rows _ _ .own,some k)=>O k | _=>[],fun n t xs b o hn hb=>?_,fun n b hb=>?_,fun n n' b hb hb'=>?_⟩
       · obtain ⟨old, hm⟩ := hobm hn;rcases hent hm with ⟨e,h0,h00⟩ | ⟨k,e,ys,len,h0,h00,h1,h2,h3⟩ | ⟨e,ys,h0,_⟩ | ⟨l,h0,_⟩
         · injection h0 with e1 e2
           subst e1;have e2:=eq_of_heq e2;subst e2;exact .inr ⟨[],rfl,List.nodup_nil,fun b hb=>by simp at hb,fun i x Fi hx=>by simp at hx⟩
         · injection h0 with e1 e2
           subst e1;have e2:=eq_of_heq e2;subst e2;subst h00;rw[hβ' hm] at hb;have:=(D.row k t ys b o (by rw[hrk h2];exact h1) hb).win len;rw[qji hEn hm];exact this
         · cases h0
         · cases h0
       · obtain ⟨k, t, xs, hm, hb⟩ := hsrc hb;obtain⟨a1,a2,a3,a4,a5⟩:=D.off k b hb;refine⟨a1,a2,a3,fun n' ob o hn' hl hb'=>?_,a5⟩;obtain⟨k0,ob0,_,e2,e3,e4,_,_⟩:=hlold hn' hl hb';exact a4 k0 ob0 o e4 e2 e3
       · obtain ⟨k, t, xs, hm, hb⟩ := hsrc hb;obtain⟨k',t',xs',hm',hb'⟩:=hsrc hb';have:=D.one k k' b hb hb';subst this;have hen:∀ {n:Nat} {t:Ty} {xs:List t.den},(n,(Ob.rows t xs .own,some k))∈E->∃ ob',(n,(ob',some k))∈ens (its++bits bs):=by
           intro n t xs hm;rcases hIE hm with hm | ⟨b,_,e⟩
           · exact⟨_,hm⟩
           · simp only [Prod.mk.injEq] at e;obtain⟨_,e,_⟩:=e;cases e
         obtain⟨o1,m1⟩:=hen hm;obtain⟨o2,m2⟩:=hen hm';exact qi1 (by rw[<- qyc];exact k1) m1 m2
     · obtain ⟨old, hm⟩ := hobm hK';rcases hent hm with ⟨e,h0,_⟩ | ⟨k,e,ys,len,h0,_⟩ | ⟨e,ys,h0,rfl,h1,h2,h3⟩ | ⟨l0,h0,rfl,h1,h2,h3⟩
       · cases h0
       · cases h0
       · cases h0
       · injection h0 with h0
         subst h0;rw[hK] at h1;injection h1 with h1
         injection h1 with h1
         subst h1;rw[List.getElem?_map] at hi hi';cases hq:l0[i]? with
         | none=>rw[hq] at hi;cases hi
         | some it =>
           rw[hq] at hi hi';simp only[Option.map_some,Option.some.injEq] at hi hi';subst hi;subst hi';exact hval (h2 it (List.mem_of_getElem? hq)) hu
     · obtain ⟨old, hm⟩ := hobm hn;rcases hent hm with ⟨e,h0,_⟩ | ⟨k,e,ys,len,h0,_⟩ | ⟨e,ys,h0,rfl,h1,h2,h3⟩ | ⟨l0,h0,rfl,h1,h2,h3⟩
       · cases h0
       · cases h0
       · rw [<- h0] at h1;refine⟨h1,fun u hu=>?_⟩;simp only[qac,h1] at hu;simp only[qac,hn,hβ' hm];exact hu
       · cases h0
     · obtain ⟨old, hm⟩ := hobm hn;rcases hent hm with ⟨e,h0,_⟩ | ⟨k,e,ys,len,h0,_⟩ | ⟨e,ys,h0,rfl,h1,h2,h3⟩ | ⟨l0,h0,rfl,h1,h2,h3⟩
       · cases h0
       · cases h0
       · cases h0
       · exact⟨_,h1⟩
   · cases h
 · cases h
theorem qtu {p q:PV} (h:qoU p q=true):∃ k,p=.osl k 0 none/\q=.osl k 0 none:=by
 unfold qoU at h;split at h
 · rename_i k k';exact⟨k,rfl,by rw[Nat.eq_of_beq_eq_true h]⟩
 · cases h
theorem qtg {s:St}:∀ {l:List (Nat×(Nat×Nat))},alOk s l=true->∀ {n K i:Nat},(n,(K,i))∈l->qoU ((get s.e n).getD .junk) (qox (get s.h) K i)=true
 | (m,(K',i'))::r,h,n,K,i,hm=>by
  simp only[alOk,Bool.and_eq_true] at h;rcases List.mem_cons.1 hm with e | hm
  · injection e with e1 e2
    injection e2 with e2 e3
    subst e1;subst e2;subst e3;exact h.1
  · exact qtg h.2 hm
theorem qwr {h:Hp}:∀ {l:List (Nat×(Nat×Nat))} {n:Nat} {pv:PV},get (alS h l) n=some pv->∃ K i,(n,(K,i))∈l/\pv=qox h K i
 | [],n,pv,hg=>by simp [alS,get] at hg
 | (m,(K,i))::r,n,pv,hg=>by
  rw[alS,q6q] at hg;split at hg
  · rename_i e;subst e;injection hg with hg
    exact⟨K,i,List.mem_cons_self,hg.symm⟩
  · obtain ⟨K', i', h1, h2⟩ := qwr hg;exact⟨K',i',List.mem_cons_of_mem _ h1,h2⟩
theorem qnI {h:Hp} {K i:Nat} {pv:PV} (hc:qox h K i=pv) (hp:pv≠.junk):(∃ l,h K=some (.box l)/\l[i]?=some pv)\/∃ t xs,h K=some (.rows t xs .lent)/\pv=.osl K 0 none:=by
 unfold qox at hc;split at hc
 · rename_i l hl;refine .inl ⟨l,hl,?_⟩;cases hq:l[i]? with
   | none=>rw[hq] at hc;exact absurd hc.symm hp
   | some q=>rw[hq] at hc;simp at hc;rw[hc]
 · rename_i t xs hl;exact .inr ⟨t,xs,hl,hc.symm⟩
 · exact absurd hc.symm hp
theorem qm2:∀ {ks:List Nat} {l:List PV},qmz ks l=true->l=ks.map fun k=>.ptr k 0 0
 | [],[],_=>rfl
 | [],_::_,h=>by cases h
 | _::_,[],h=>by cases h
 | k::ks,v::vs,h=>by
  simp only[qmz,Bool.and_eq_true] at h;rw[qlj h.1,qm2 h.2];rfl
theorem qtv {f:FuncId} {ks:List Nat} {v:PV} (h:qry f ks v=true):v=.clo f (ks.map fun k=>.ptr k 0 0):=by
 unfold qry at h;split at h
 · simp only [Bool.and_eq_true] at h;rw[Nat.eq_of_beq_eq_true h.1,qm2 h.2]
 · cases h
theorem qrc {s:St} {bs:List Nat}:∀ {l:List (Nat×(FuncId×List Nat))},qxJ s bs l=true->∀ {n:Nat} {f:FuncId} {ks:List Nat},(n,(f,ks))∈l->(get s.e n).getD .junk=.clo f (ks.map fun k=>.ptr k 0 0)/\∀ k∈ks,k∈bs
 | (m,(f',ks'))::r,h,n,f,ks,hm=>by
  simp only[qxJ,Bool.and_eq_true] at h;rcases List.mem_cons.1 hm with e | hm
  · injection e with e1 e2
    injection e2 with e2 e3
    subst e1;subst e2;subst e3;exact⟨qtv h.1.1,qsB.1 h.1.2⟩
  · exact qrc h.2 hm
theorem qwb:∀ {l:List (Nat×(FuncId×List Nat))} {n:Nat} {pv:PV},get (clS l) n=some pv->∃ f ks,(n,(f,ks))∈l/\pv=.clo f (ks.map fun k=>.ptr k 0 0)
 | [],n,pv,hg=>by simp [clS,get] at hg
 | (m,(f,ks))::r,n,pv,hg=>by
  rw[clS,q6q] at hg;split at hg
  · rename_i e;subst e;injection hg with hg
    exact⟨f,ks,List.mem_cons_self,hg.symm⟩
  · obtain ⟨f', ks', h1, h2⟩ := qwb hg;exact⟨f',ks',List.mem_cons_of_mem _ h1,h2⟩
theorem qqi {w w':World} {S S':Foot} {J J':Con} {g g':Hp}:∀ {ks:List Nat} {us:List Value},(∀ k∈ks,∀ u,qac w S J g (.ptr k 0 0) u->qac w' S' J' g' (.ptr k 0 0) u)->All2 (qac w S J g) (ks.map fun k=>.ptr k 0 0) us->All2 (qac w' S' J' g') (ks.map fun k=>.ptr k 0 0) us
 | [],[],_,_=>trivial
 | [],_::_,_,h=>h.elim
 | _::_,[],_,h=>h.elim
 | k::ks,u::us,hk,h=>⟨hk k List.mem_cons_self u h.1,qqi (fun k' h'=>hk k' (List.mem_cons_of_mem _ h')) h.2⟩
theorem qum {B:Base} {w:World} {S:Foot} {J:Con} {s:St} {a:Act} (R:Rel T B w S J s a) {g:SG} {v:g.V} (h:qwd g s=some v):∃ S' J',Rel T B w S' J' (mkS g v) a:=by
 unfold qwd at h;obtain⟨hal,h⟩:=q8q h;simp only[Bool.and_eq_true] at hal;obtain⟨hal,hcl⟩:=hal;obtain⟨S',J',R',hc,hp,hL,hB⟩:=qun R h;refine⟨S',J',⟨R'.defers,R'.size,fun n pv hn=>?_,R'.obs,R'.inj,R'.Slt,R'.S0,R'.Snew,R'.olds,R'.grow,R'.lent,R'.lentk,R'.told,R'.toldS,R'.ltinj,R'.sep,R'.calm,R'.boxk,R'.deep,R'.pbn⟩⟩;have hn:get (clS g.cls++(alS (get (mkS0 g v).h) g.als++(mkS0 g v).e)) n=some pv:=hn;rw[q2q] at hn;cases hcq:get (clS g.cls) n with
 | some pc =>
  rw[hcq] at hn;have hn:=Option.some.inj hn;subst hn;obtain⟨f,ks,h1,rfl⟩:=qwb hcq;obtain⟨e1,hks⟩:=qrc hcl h1;cases he:get s.e n with
  | none=>rw[he] at e1;cases e1
  | some pv0 =>
   rw[he] at e1;have e1:pv0=_:=e1;subst e1;obtain⟨u,hu1,hu2⟩:=R.tmps n _ he;obtain⟨us,hu3,hu4⟩:=hu2;exact⟨u,hu1,us,hu3,qqi (fun k hk u hu=>hp k (hks k hk) u hu) hu4⟩
 | none =>
 rw[hcq] at hn;have hn:get (alS (get (mkS0 g v).h) g.als++(mkS0 g v).e) n=some pv:=hn;rw[q2q] at hn;cases hq:get (alS (get (mkS0 g v).h) g.als) n with
 | none=>rw[hq] at hn;exact R'.tmps n pv hn
 | some pv' =>
  rw[hq] at hn;injection hn with hn
  subst hn;obtain⟨K,i,h1,h2⟩:=qwr hq;obtain⟨k,e1,e2⟩:=qtu (qtg hal h1);have hcs:=qnI e2 (by simp);cases he:get s.e n with
  | none=>rw[he] at e1;cases e1
  | some pv0 =>
   rw[he] at e1;have e1:pv0=.osl k 0 none:=e1;subst e1;obtain⟨u,hu1,hu2⟩:=R.tmps n _ he;refine⟨u,hu1,?_⟩;by_cases hj:pv'=.junk
   · rw[hj];trivial
   · rcases qnI h2.symm hj with ⟨l', hl', hli'⟩ | ⟨t, xs, hl', rfl⟩
     · obtain ⟨l0, hl0⟩ := hB K l' hl';rcases hcs with ⟨l,hl,hli⟩ | ⟨t,xs,hl,_⟩
       · exact hc K l l' i _ _ hl hl' hli hli' u hu2
       · rw[hl0] at hl;cases hl
     · obtain ⟨q1, q2⟩ := hL K t xs hl';rcases hcs with ⟨l,hl,hli⟩ | ⟨t,xs,hl,q3⟩
       · rw[q1] at hl;cases hl
       · injection q3 with q3 _ _
         subst q3;exact(q2 u hu2).up
theorem qk7 {B:Base} {w:World} {S:Foot} {J:Con} {s:St} {a:Act} (R:Rel T B w S J s a) {g:SG} {v:g.V} (h:qwf g s=some v):∃ S' J',Rel T B w S' J' (mkS g v) a:=by
 obtain⟨J1,R1⟩:=Rel.renS g.rn R;exact qum R1 h
variable {T:Told} {P:Program} {tb:Tb} {env:Env}
def exOf:Ex->Exit
 | .normal=>.normal
 | .exit n=>.exit n
 | .ret=>.ret
def qwu:(os:List (Ex×SG))->OT os->Ex->St->Prop
 | [],_,_,_=>False
 | [o],v,x,s=>x=o.1/\s=mkS o.2 v
 | o::o'::os,.inl v,x,s=>x=o.1/\s=mkS o.2 v
 | _::o'::os,.inr v,x,s=>qwu (o'::os) v x s
def q12q (T:Told) (P:Program) (nt:Nat) (c:Code) (lc:LC):Prop :=
 ∀ (v:lc.inS.V) (t:OT lc.outs),lc.F v=some t->∀ (B:Base),B.nt=nt->∀ Q:Exit->Act->World->Prop,
  (∀ x s',qwu lc.outs t x s'->Post T B s' (Q (exOf x)))->Post T B (mkS lc.inS v) (c.wp P Q)
def LHok (T:Told) (P:Program) (nt:Nat) (lh:LH):Code->Prop
 | .seq a b=>LHok T P nt lh a/\LHok T P nt lh b
 | .cond c a b=>match lh (qiB (.cond c a b)) with
  | some lc=>q12q T P nt (.cond c a b) lc
  | none=>LHok T P nt lh a/\LHok T P nt lh b
 | .block id b=>match lh (qiB (.block id b)) with
  | some lc=>q12q T P nt (.block id b) lc
  | none=>LHok T P nt lh b
 | .loop b=>match lh (qiB (.loop b)) with
  | some lc=>q12q T P nt (.loop b) lc
  | none=>True
 | _=>True
section
variable {R:Type}
theorem qvd:∀ {os:List (Ex×SG)} {t:OT os} {K:Ex->St->Option R} {out:R},outK os t K=some out->∃ x s',K x s'=some out/\qwu os t x s'
 | [],t,K,out,h=>by cases h
 | [o],t,K,out,h=>⟨o.1,_,h,rfl,rfl⟩
 | o::o'::os,.inl v,K,out,h=>⟨o.1,_,h,rfl,rfl⟩
 | _::o'::os,.inr v,K,out,h=>qvd (os:=o'::os) h
theorem qvc:∀ {os:List (Ex×SG)} {t:OT os} {x:Ex} {s':St},qwu os t x s'->∀ {K:Ex->St->Option R},outK os t K=K x s'
 | [],t,x,s',h,K=>h.elim
 | [o],t,x,s',⟨h1,h2⟩,K=>by subst h1;subst h2;rfl
 | o::o'::os,.inl v,x,s',⟨h1,h2⟩,K=>by subst h1;subst h2;rfl
 | _::o'::os,.inr v,x,s',h,K=>qvc (os:=o'::os) h
theorem qse {c:Code} {lh:LH} {key:Nat} {lc:LC} (hl:lh key=some lc) {B:Base} (hP:q12q T P B.nt c lc) {s:St} {K:Ex->St->Option R} {other:Option R} {out:R} {Q:Exit->Act->World->Prop}
   (h:cutC lh key s K other=some out) (hK:∀ x s',K x s'=some out->Post T B s' (Q (exOf x))):Post T B s (c.wp P Q):=by
 unfold cutC at h;rw[hl] at h;simp only at h;split at h
 · rename_i v hv;cases hF:lc.F v with
   | none=>rw[hF] at h;cases h
   | some t =>
    rw[hF] at h;simp only[Option.bind_some] at h;intro w S J a Rl;obtain⟨S',J',R'⟩:=qk7 Rl hv;obtain⟨x,s',hk,ho⟩:=qvd h;exact hP v t hF B rfl Q (fun x1 s1 h1=>hK x1 s1 (by rw[<- qvc h1 (K:=K)];exact h)) w S' J' a R'
 · cases h
theorem qyS {B:Base} {w:World} {S:Foot} {J:Con} {s:St} {a:Act} (Rl:Rel T B w S J s a) {c:Operand} {b:Bool} (h:s.pv c=.val .bool b):a.eval c=.bool b:=by
 have:=q14q Rl c;rw[h] at this;exact this.bool
theorem qrz (hT:TbOk P tb) (hE:qas T P env) (hm:P.follows .mixedOrders=true) {lh:LH} {B:Base}:∀ {c:Code} {R:Type} {s:St} {K:Ex->St->Option R} {out:R} {Q:Exit->Act->World->Prop},run tb env B.nt lh c s K=some out ->
  LHok T P B.nt lh c->(∀ x s',K x s'=some out->Post T B s' (Q (exOf x)))->Post T B s (c.wp P Q):=by
 intro c
 induction c with
 | skip=>intro R s K out Q h _ hK w S J a Rl;exact wp_skip (hK .normal s h w S J a Rl)
 | label l=>intro R s K out Q h _ hK w S J a Rl;exact wp_label (hK .normal s h w S J a Rl)
 | region id ops draw =>
  intro R s K out Q h _ hK;cases draw with
  | false=>exact qoh hT hE hm (draw:=false) h fun sf hs=>hK .normal sf hs
  | true=>exact qoh hT hE hm (draw:=true) h fun sf hs=>hK .normal sf hs
 | seq x y ihx ihy =>
  intro R s K out Q h hl hK w S J a Rl;refine wp_seq (ihx h hl.1 (fun e s' he=>?_) w S J a Rl);cases e with
  | normal=>exact ihy he hl.2 hK
  | exit n=>exact hK (.exit n) s' he
  | ret=>exact hK .ret s' he
 | cond c x y ihx ihy =>
  intro R s K out Q h hl hK w S J a Rl;simp only[run] at h;simp only[LHok] at hl;cases hlh:lh (qiB (.cond c x y)) with
  | some lc=>rw[hlh] at hl;exact qse hlh hl h hK w S J a Rl
  | none =>
   rw[hlh] at hl;simp only[cutC,hlh] at h;split at h
   · rename_i v hv;refine wp_cond (qyS Rl hv) ?_;cases v with
     | true=>exact ihx h hl.1 hK w S J a Rl
     | false=>exact ihy h hl.2 hK w S J a Rl
   · cases h
 | block id x ih =>
  intro R s K out Q h hl hK w S J a Rl;simp only[run] at h;simp only[LHok] at hl;cases hlh:lh (qiB (.block id x)) with
  | some lc=>rw[hlh] at hl;exact qse hlh hl h hK w S J a Rl
  | none =>
   rw[hlh] at hl;simp only[cutC,hlh] at h;refine wp_block (ih h hl (fun e s' he=>?_) w S J a Rl);cases e with
   | normal=>exact hK .normal s' he
   | ret=>exact hK .ret s' he
   | exit j =>
     simp only at he;by_cases hj:j=id
     · subst hj;rw[Nat.beq_refl] at he;intro w' S' J' a' R';show Exit.inBlock j Q (.exit j) a' w';simp only[Exit.inBlock,if_true];exact hK .normal s' he w' S' J' a' R'
     · have : Nat.beq j id = false := by
        cases hb:Nat.beq j id with
        | false=>rfl
        | true=>exact absurd (Nat.eq_of_beq_eq_true hb) hj
       rw[this] at he;intro w' S' J' a' R';show Exit.inBlock id Q (.exit j) a' w';simp only[Exit.inBlock,if_neg hj];exact hK (.exit j) s' he w' S' J' a' R'
 | loop x ih =>
  intro R s K out Q h hl hK w S J a Rl;simp only[run] at h;simp only[LHok] at hl;cases hlh:lh (qiB (.loop x)) with
  | some lc=>rw[hlh] at hl;exact qse hlh hl h hK w S J a Rl
  | none=>simp only[cutC,hlh] at h;cases h
 | exit id=>intro R s K out Q h _ hK w S J a Rl;exact wp_exit (hK (.exit id) s h w S J a Rl)
 | ret=>intro R s K out Q h _ hK w S J a Rl;exact wp_ret (hK .ret s h w S J a Rl)
 | _=>intros;rename_i h _ _;first | (exact absurd h (by simp [run])) | (cases h)
theorem Ex.same_eq {x y:Ex} (h:x.same y=true):x=y:=by
 cases x<;>cases y<;>first | rfl | cases h | (rw[Nat.eq_of_beq_eq_true h])
theorem qpv {B:Base} {Q:Exit->Act->World->Prop}:∀ {os:List (Ex×SG)} {x:Ex} {s:St} {t:OT os},qvS os x s=some t->(∀ x s',qwu os t x s'->Post T B s' (Q (exOf x)))->Post T B s (Q (exOf x))
 | [],x,s,t,h,hQ=>by cases h
 | [o],x,s,t,h,hQ=>by
  simp only[qvS] at h;obtain⟨h1,h⟩:=q8q h;have h1:=Ex.same_eq h1;intro w S J a Rl;obtain⟨S',J',R'⟩:=qk7 Rl h;rw[<- h1];exact hQ o.1 _ ⟨rfl,rfl⟩ w S' J' a R'
 | o::o'::os,x,s,t,h,hQ=>by
  simp only[qvS] at h;cases h1:o.1.same x with
  | true =>
   rw[h1] at h;simp only[cond_true] at h;have h1:=Ex.same_eq h1;split at h
   · rename_i v hv;injection h with h
     subst h;intro w S J a Rl;obtain⟨S',J',R'⟩:=qk7 Rl hv;rw[<- h1];exact hQ o.1 _ ⟨rfl,rfl⟩ w S' J' a R'
   · cases h
  | false =>
   rw[h1] at h;simp only[cond_false] at h;split at h
   · rename_i v hv;injection h with h
     subst h;exact qpv (os:=o'::os) hv fun x s' ho=>hQ x s' ho
   · cases h
theorem qxi {p:Nat->Prop} (h:∃ n,p n):∃ m,p m/\∀ k,p k->m<=k:=by
 obtain⟨n,hn⟩:=h
 induction n using Nat.strongRecOn with
 | _ n ih =>
  by_cases hh:∃ k,k<n/\p k
  · obtain⟨k,hk,hp⟩:=hh;exact ih k hk hp
  · exact⟨n,hn,fun k hk=>Nat.le_of_not_lt fun hlt=>hh ⟨k,hlt,hk⟩⟩
theorem q7q (hT:TbOk P tb) (hE:qas T P env) (hm:P.follows .mixedOrders=true) {lh:LH} {nt:Nat} {b:Code} (hl:LHok T P nt lh b) {inS:SG} {outs:List (Ex×SG)}
  {step:(inS.V->Option (OT outs))->inS.V->Option (OT outs)} (hs:∀ g v,q10q tb env nt lh b inS outs g v=step g v) (n:Nat):q12q T P nt (.loop b) ⟨inS,outs,lp step n⟩:=by
 intro v t hF B hB Q hQ w S J a Rl;subst hB
 classical
 let I:Nat->Act->World->Prop:=fun n a w=>∃ v S J,lp step n v=some t/\Rel T B w S J (mkS inS v) a
 have hI:∃ n,I n a w:=⟨n,v,S,J,hF,Rl⟩;refine wp_loop (fun a w=>∃ n,I n a w) (fun a w=>if h:∃ n,I n a w then Classical.choose (qxi h) else 0) hI fun a w hI=>?_
 have hf:=(Classical.choose_spec (qxi hI)).1;generalize hn:Classical.choose (qxi hI)=m at hf;obtain⟨v,S,J,hF,Rl⟩:=hf;cases m with
 | zero=>cases hF
 | succ m =>
  simp only[lp] at hF;rw[<- hs] at hF;unfold q10q at hF;refine qrz hT hE hm hF hl (fun x s' hx=>?_) w S J a Rl;cases x with
  | normal =>
   simp only at hx;split at hx
   · rename_i v' hv';intro w' S' J' a' R';obtain⟨S2,J2,R2⟩:=qk7 R' hv';have hI':I m a' w':=⟨v',S2,J2,hx,R2⟩;have hex:∃ n,I n a' w':=⟨m,hI'⟩;refine⟨hex,?_⟩;simp only[dif_pos hex,dif_pos hI,hn];exact Nat.lt_succ_of_le ((Classical.choose_spec (qxi hex)).2 m hI')
   · cases hx
  | exit j=>exact qpv (Q:=Q) (x:=.exit j) hx hQ
  | ret=>exact qpv (Q:=Q) (x:=.ret) hx hQ
end
variable {T:Told} {P:Program} {tb:Tb} {env:Env}
def ltOf (J:Con):(ps:List (Ty×PM))->Nat->HL (fsts ps)->Nat->Option (Nat×Nat×Nat)
 | [],_,_,_=>none
 | (.sl e,.lent)::ps,i,(x,r),k=>if k=i*8 then (J (i*8)).map fun p=>(p.1,p.2,List.length (α:=e.den) x*e.size) else ltOf J ps (i+1) r k
 | (_,_)::ps,i,(_,r),k=>ltOf J ps (i+1) r k
theorem qkR {J:Con}:∀ {ps:List (Ty×PM)} {i:Nat} {x:HL (fsts ps)} {k b o n:Nat},ltOf J ps i x k=some (b,o,n)->k∈qdo ps i/\J k=some (b,o):=by
 intro ps
 induction ps with
 | nil=>intro i x k b o n h;cases h
 | cons p ps ih =>
  intro i x k b o n h;obtain⟨t,m⟩:=p;obtain⟨x,r⟩:=x;cases m with
  | imm=>exact ih (by cases t<;>exact h)
  | own=>exact ih (by cases t<;>exact h)
  | lent =>
   cases t with
   | sl e =>
    simp only[ltOf] at h;split at h
    · rename_i e1;subst e1;cases hb:J (i*8) with
      | none=>rw[hb] at h;cases h
      | some p =>
       obtain⟨b',o'⟩:=p;rw[hb] at h;simp only[Option.map_some,Option.some.injEq,Prod.mk.injEq] at h;obtain⟨rfl,rfl,_⟩:=h;exact⟨List.mem_cons_self,rfl⟩
    · obtain ⟨h1, h2⟩ := ih h;exact⟨List.mem_cons_of_mem _ h1,h2⟩
   | int _=>obtain⟨h1,h2⟩:=ih h;exact⟨List.mem_cons_of_mem _ h1,h2⟩
   | bool=>obtain⟨h1,h2⟩:=ih h;exact⟨List.mem_cons_of_mem _ h1,h2⟩
   | str | os _ | op _=>obtain⟨h1,h2⟩:=ih h;exact⟨List.mem_cons_of_mem _ h1,h2⟩
   | unit=>obtain⟨h1,h2⟩:=ih h;exact⟨List.mem_cons_of_mem _ h1,h2⟩
   | pair _ _=>obtain⟨h1,h2⟩:=ih h;exact⟨List.mem_cons_of_mem _ h1,h2⟩
theorem qsY {w:World} {S:Foot} {J:Con}:∀ {ps:List (Ty×PM)} {i:Nat} {x:HL (fsts ps)} {vs:List Value},qnP w S J ps i x vs ->
  vs.length=ps.length /\
  (∀ n pv, get (qcS ps x i).1 n = some pv->i <= n /\ ∃ v, vs[n - i]? = some v /\ ((∃ (t : Ty) (y : t.den), pv = toPV t y /\ VRel w S t y v) \/
   (∃ (e:Ty) (y:List e.den),pv=.osl (n*8) 0 none/\get (qcS ps x i).2 (n*8)=some (.rows e y .own)/\OwnV w S (J (n*8)) e y v) \/
   (∃ (e:Ty) (y:List e.den),pv=.osl (n*8) 0 none/\get (qcS ps x i).2 (n*8)=some (.rows e y .lent)/\qrk w S (J (n*8)) e y v))) /\
  (∀ k ob, get (qcS ps x i).2 k = some ob->i * 8 <= k /\ ((∃ (e : Ty) (y : List e.den) (v : Value), ob = .rows e y .own /\ OwnV w S (J k) e y v /\ k ∈ ownK ps i) \/
   (∃ (e:Ty) (y:List e.den) (v:Value),ob=.rows e y .lent/\qrk w S (J k) e y v/\k∈qdo ps i/\ltOf J ps i x k=(J k).map fun p=>(p.1,p.2,y.length*e.size)))):=by
 intro ps
 induction ps with
 | nil =>
  intro i x vs h;cases vs with
  | nil=>exact⟨rfl,fun n pv h=>by simp [qcS,get] at h,fun k ob h=>by simp [qcS,get] at h⟩
  | cons _ _=>exact h.elim
 | cons p ps ih =>
  intro i x vs h;obtain⟨t,m⟩:=p;obtain⟨x,r⟩:=x;cases vs with
  | nil=>exfalso;cases t<;>cases m<;>exact h
  | cons v vs =>
   have sh:∀ {n:Nat},i+1<=n->(v::vs)[n-i]?=vs[n-(i+1)]?:=fun {n} hn=>by
    rw[show n-i=(n-(i+1))+1 by omega,List.getElem?_cons_succ]
   cases m with
   | imm =>
    have h:VRel w S t x v/\qnP w S J ps (i+1) r vs:=by cases t<;>exact h
    have e1:(qcS ((t,PM.imm)::ps) (x,r) i)=((i,toPV t x)::(qcS ps r (i+1)).1,(qcS ps r (i+1)).2):=by cases t<;>rfl
    have e2:ltOf J ((t,PM.imm)::ps) i (x,r)=ltOf J ps (i+1) r:=by cases t<;>rfl
    obtain⟨a1,a2,a3⟩:=ih h.2;rw[e1,e2];refine⟨by simp [a1],fun n pv hn=>?_,fun k ob hk=>?_⟩
    · rw [q6q] at hn;split at hn
      · rename_i e; subst e; injection hn with hn; subst hn
        exact⟨Nat.le_refl _,v,by simp,.inl ⟨t,x,rfl,h.1⟩⟩
      · obtain ⟨b1, u, b2, b3⟩ := a2 n pv hn;exact⟨by omega,u,by rw[sh b1];exact b2,b3⟩
    · obtain ⟨b1, b2⟩ := a3 k ob hk;exact⟨by omega,b2⟩
   | own =>
    cases t with
    | sl e =>
      obtain⟨h1,h⟩:=h;obtain⟨a1,a2,a3⟩:=ih h;refine⟨by simp [a1],fun n pv hn=>?_,fun k ob hk=>?_⟩
      · simp only [qcS, q6q] at hn ⊢;split at hn
        · rename_i e; subst e; injection hn with hn; subst hn
          exact⟨Nat.le_refl _,v,by simp,.inr (.inl ⟨_,x,rfl,by simp,h1⟩)⟩
        · obtain ⟨b1, u, b2, b3⟩ := a2 n pv hn;exact⟨by omega,u,by rw[sh b1];exact b2,by rw[if_neg (by omega)];exact b3⟩
      · simp only [qcS, q6q] at hk;split at hk
        · rename_i e; subst e; injection hk with hk; subst hk
          exact⟨Nat.le_refl _,.inl ⟨_,x,v,rfl,h1,List.mem_cons_self⟩⟩
        · obtain ⟨b1, b2⟩ := a3 k ob hk;exact⟨by omega,b2.imp (fun⟨e,y,u,c1,c2,c3⟩=>⟨e,y,u,c1,c2,List.mem_cons_of_mem _ c3⟩) id⟩
    | int _=>exact h.elim
    | bool=>exact h.elim
    | str | os _ | op _=>exact h.elim
    | unit=>exact h.elim
    | pair _ _=>exact h.elim
   | lent =>
    cases t with
    | sl e =>
      obtain⟨h1,h⟩:=h;obtain⟨a1,a2,a3⟩:=ih h;refine⟨by simp [a1],fun n pv hn=>?_,fun k ob hk=>?_⟩
      · simp only [qcS, q6q] at hn ⊢;split at hn
        · rename_i e; subst e; injection hn with hn; subst hn
          exact⟨Nat.le_refl _,v,by simp,.inr (.inr ⟨_,x,rfl,by simp,h1⟩)⟩
        · obtain ⟨b1, u, b2, b3⟩ := a2 n pv hn;exact⟨by omega,u,by rw[sh b1];exact b2,by rw[if_neg (by omega)];exact b3⟩
      · simp only [qcS, q6q] at hk;split at hk
        · rename_i e; subst e; injection hk with hk; subst hk
          exact⟨Nat.le_refl _,.inr ⟨_,x,v,rfl,h1,List.mem_cons_self,by simp [ltOf]⟩⟩
        · obtain ⟨b1, b2⟩ := a3 k ob hk;exact⟨by omega,b2.imp id fun⟨e,y,u,c1,c2,c3,c4⟩=>⟨e,y,u,c1,c2,List.mem_cons_of_mem _ c3,by simp only[ltOf,if_neg (show ¬ k=i*8 by omega)];exact c4⟩⟩
    | int _=>exact h.elim
    | bool=>exact h.elim
    | str | os _ | op _=>exact h.elim
    | unit=>exact h.elim
    | pair _ _=>exact h.elim
def qnM (nt:Nat) (w:World) (S:Foot) (J:Con) (ps:List (Ty×PM)) (x:HL (fsts ps)):Base:=⟨nt,w,S,fun b=>∃ k o,J k=some (b,o),ltOf J ps 0 x,[]⟩
theorem qos:∀ {ps:List (Ty×PM)} {x:HL (fsts ps)} {i:Nat},qlJ ps=true->∀ k t xs,get (qcS ps x i).2 k=some (.rows t xs .own)->t.flat=true:=by
 intro ps
 induction ps with
 | nil=>intro x i _ k t xs h;simp [qcS,get] at h
 | cons p ps ih =>
  intro x i hf k t xs h;obtain⟨t0,m0⟩:=p;obtain⟨x,r⟩:=x;have skip:get (qcS ps r (i+1)).2 k=some (.rows t xs .own)->qlJ ps=true->t.flat=true:=fun h hf=>ih hf k t xs h
  cases t0 with
  | sl e =>
   cases m0 with
   | imm=>exact skip h hf
   | own =>
    simp only[qlJ,Bool.and_eq_true] at hf;simp only[qcS] at h;rw[q6q] at h;split at h
    · injection h with h;injection h with h;subst h;exact hf.1
    · exact skip h hf.2
   | lent =>
    simp only[qlJ,Bool.and_eq_true] at hf;simp only[qcS] at h;rw[q6q] at h;split at h
    · injection h with h;injection h with _ _ h;cases h
    · exact skip h hf.2
  | int _=>cases m0<;>exact skip h hf
  | bool=>cases m0<;>exact skip h hf
  | str=>cases m0<;>exact skip h hf
  | unit=>cases m0<;>exact skip h hf
  | pair _ _=>cases m0<;>exact skip h hf
  | os _=>cases m0<;>exact skip h hf
  | op _=>cases m0<;>exact skip h hf
theorem qsJ {w:World} {S:Foot} {J:Con} {ps:List (Ty×PM)} {x:HL (fsts ps)} {vs:List Value} (E:qsr T w S J ps x vs) {nt:Nat} (hnt:ps.length<=nt) (hfl:qlJ ps=true) :
   Rel T (qnM nt w S J ps x) w S J ⟨(qcS ps x 0).1,(qcS ps x 0).2⟩ { tmps:=vs.toArray++Array.replicate (nt-vs.toArray.size) undef,defers:=[] }:=by
 obtain⟨h1,h2,h3⟩:=qsY E.args;have hS:∀ {b k o},J k=some (b,o)->∀ {e:Ty} {y:List e.den} {v:Value},OwnV w S (J k) e y v\/qrk w S (J k) e y v->¬ S b:=by
   intro b k o hb e y v h;rw[hb] at h;rcases h with h | h
   · exact h.2.1
   · exact h.1
 refine⟨rfl,?_,fun n pv hn=>?_,fun k ob hk=>?_,?_,E.Slt,fun b h=>h,fun b h=>.inl h,fun b _ _=>rfl,Nat.le_refl _,fun k b o n hL=>?_,fun k t xs hk=>?_,E.told,E.toldS,fun k k' b o n o' n' hL hL'=>?_,fun k ob b o hk hl hnl hb k' o' n hL=>?_,Calm.refl w,fun k l hk=>?_,Deep.none fun k t xs hk=>qos hfl k t xs hk,by simp [qnM]⟩
 · simp [qnM];omega
 · obtain ⟨_, v, hv, hr⟩ := h2 n pv hn;have hlt:=(List.getElem?_eq_some_iff.1 hv).1;simp only[Nat.sub_zero] at hv hlt;refine⟨v,by rw[Array.getElem?_append_left (by simpa using hlt)];simpa using hv,?_⟩;rcases hr with ⟨t,y,rfl,hy⟩ | ⟨e,y,rfl,hg,ho⟩ | ⟨e,y,rfl,hg,ho⟩
   · exact hy.up
   · have : qac w S J (get (qcS ps x 0).2) (.osl (n * 8) 0 none) v := by
      simp only[qac,hg];refine⟨by simp [qf1],?_⟩;simp only[OwnV] at ho;simp only[OslV];cases hb:J (n*8) with
      | none=>rw[hb] at ho;obtain⟨rfl,rfl⟩:=ho;simp [wlen]
      | some p =>
       obtain⟨b,o⟩:=p;rw[hb] at ho;obtain⟨rfl,_,x0,cap,c,rfl,q1,q2,q3,q4,_⟩:=ho;exact⟨x0,cap,by simp [wlen],by simpa [wlen] using q1,by simpa using q2,fun _=>⟨c,q3,by simpa using q4⟩⟩
     exact this.up
   · have : qac w S J (get (qcS ps x 0).2) (.osl (n * 8) 0 none) v := by
      simp only[qac,hg];refine⟨by simp [qf1],?_⟩;simp only[qrk] at ho;simp only[OslV];cases hb:J (n*8) with
      | none=>rw[hb] at ho;obtain⟨rfl,rfl⟩:=ho;simp [wlen]
      | some p =>
       obtain⟨b,o⟩:=p;rw[hb] at ho;obtain⟨_,x0,cap,c,rfl,q1,q2,q3,q4,_⟩:=ho;exact⟨x0,cap,by simp [wlen],by simpa [wlen] using q1,by simpa using q2,by simp⟩
     exact this.up
 · obtain ⟨_, h⟩ := h3 k ob hk;rcases h with ⟨e,y,v,rfl,ho,_⟩ | ⟨e,y,v,rfl,ho,_⟩
   · simp only [ORel];cases hb:J k with
     | none=>rw[hb] at ho;exact ho.1
     | some p =>
      obtain⟨b,o⟩:=p;rw[hb] at ho;obtain⟨rfl,q0,x0,cap,c,rfl,q1,q2,q3,q4,q5⟩:=ho;have hm:=Nat.mul_le_mul_right e.size q1;exact⟨⟨c,q3,by omega⟩,q5,by simp,fun _=>⟨q0,.inr ⟨k,0,hb⟩⟩,fun _=>rfl⟩
   · simp only [ORel];cases hb:J k with
     | none=>rw[hb] at ho;exact ho.1
     | some p =>
      obtain⟨b,o⟩:=p;rw[hb] at ho;obtain⟨q0,x0,cap,c,rfl,q1,q2,q3,q4,q5⟩:=ho;exact⟨⟨c,q3,q4⟩,q5,by simp,fun _=>⟨q0,.inr ⟨k,o,hb⟩⟩,by simp⟩
 · intro k k' ob ob' b o o' _ _ _ _ hb hb';exact E.inj k k' b o o' hb hb'
 · have hL : ltOf J ps 0 x k = some (b, o, n) := hL;obtain⟨hk,hb⟩:=qkR hL;have:∃ c,Blk w b c:=by
     have:∀ {ps:List (Ty×PM)} {i:Nat} {x:HL (fsts ps)} {vs:List Value},qnP w S J ps i x vs->k∈qdo ps i->∃ (e:Ty) (y:List e.den) (v:Value),qrk w S (J k) e y v:=by
      intro ps
      induction ps with
      | nil=>intro i x vs h hk;simp [qdo] at hk
      | cons p ps ih =>
       intro i x vs h hk;obtain⟨t,m⟩:=p;obtain⟨x,r⟩:=x;cases vs with
       | nil=>exfalso;cases t<;>cases m<;>exact h
       | cons v vs =>
        cases m with
        | imm=>exact ih (vs:=vs) (by cases t<;>exact h.2) hk
        | own=>exact ih (vs:=vs) (by cases t<;>first | exact h.2 | exact h.elim) hk
        | lent =>
         cases t with
         | sl e =>
          rcases List.mem_cons.1 hk with rfl | hk
          · exact⟨e,x,v,h.1⟩
          · exact ih h.2 hk
         | int _=>exact h.elim
         | bool=>exact h.elim
         | str | os _ | op _=>exact h.elim
         | unit=>exact h.elim
         | pair _ _=>exact h.elim
     obtain⟨e,y,v,hv⟩:=this E.args hk;rw[hb] at hv;obtain⟨_,_,_,c,_,_,_,hc,_⟩:=hv;exact⟨c,hc⟩
   obtain⟨c,hc⟩:=this;exact⟨c,c,hc,hc,rfl,fun _ _=>rfl⟩
 · obtain ⟨_, h⟩ := h3 k _ hk;rcases h with ⟨e,y,v,h0,_⟩ | ⟨e,y,v,h0,ho,hkl,hlt⟩
   · cases h0
   · injection h0 with e1 e2 _
     subst e1;have e2:=eq_of_heq e2;subst e2;cases hb:J k with
     | none=>exact .inl ⟨rfl,by show ltOf J ps 0 x k=none;rw[hlt,hb];rfl⟩
     | some p=>obtain⟨b,o⟩:=p;exact .inr ⟨b,o,by show ltOf J ps 0 x k=_;rw[hlt,hb];rfl,rfl⟩
 · exact E.inj k k' b o o' (qkR hL).2 (qkR hL').2
 · obtain ⟨hk1, hb1⟩ := qkR hL;have:=E.inj k k' b o o' hb hb1;subst this;obtain⟨_,h⟩:=h3 k ob hk;rcases h with ⟨e,y,v,_,_,hko⟩ | ⟨e,y,v,rfl,_⟩
   · exact qhJ hko hk1
   · exact hnl _ _ rfl
 · obtain ⟨_, h⟩ := h3 k _ hk;rcases h with ⟨_,_,_,h,_⟩ | ⟨_,_,_,h,_⟩<;>cases h
variable {T:Told} {P:Program} {tb:Tb} {env:Env}
def qgY:List (Ty×Bool)->List PV->List Nat
 | (_,false)::rs,v::vs=>qag v.cells++qgY rs vs
 | (_,true)::rs,_::vs=>qgY rs vs
 | _,_=>[]
def qcA:List (Ty×Bool)->List PV->Nat->List (Nat×(Nat×Nat))
 | (_,true)::rs,.osl k _ _::vs,j=>(j,(k,0))::qcA rs vs (j+1)
 | (_,true)::rs,_::vs,j=>qcA rs vs (j+1)
 | (_,false)::rs,_::vs,j=>qcA rs vs j
 | _,_,_=>[]
theorem qsI:∀ {rs:List (Ty×Bool)} {vs:List PV} {j n:Nat} {p:Nat×Nat},get (qcA rs vs j) n=some p->j<=n:=by
 intro rs
 induction rs with
 | nil=>intro vs j n p h;cases vs<;>simp [qcA,get] at h
 | cons r rs ih =>
  intro vs j n p h;obtain⟨t,m⟩:=r;cases vs with
  | nil=>cases m<;>simp [qcA,get] at h
  | cons v vs =>
   have tl:get (qcA rs vs (j+1)) n=some p->j<=n:=fun h=>by have:=ih h;omega
   have hd:∀ q,get ((j,q)::qcA rs vs (j+1)) n=some p->j<=n:=by
    intro q h;rw[q6q] at h;split at h
    · omega
    · exact tl h
   cases m with
   | false=>cases v<;>exact ih h
   | true=>cases v<;>first | exact tl h | exact hd _ h
theorem qqW {B:Base} {w:World} {S S2:Foot} {J:Con} {s:St} {a:Act} (Rl:Rel T B w S J s a) (hS2:∀ b,S b->S2 b) {K:List Nat}
  (hdec:∀ (pvs:List PV) (vs:List Value) (t:Ty) (x:t.den),(∀ k∈qag pvs,k∈K)->All2 (qac w S J (get s.h)) pvs vs->decA (get s.h) t pvs=some x->Cell w S2 t x vs) {ρ:Con} :
  ∀ {rs:List (Ty×Bool)} {vs:List PV} {us:List Value} {used used':List Nat} {y:HL (fsts rs)} {j:Nat},qax (get s.h) rs vs used=some (y,used')->All2 (TRel w S J (get s.h)) vs us->(∀ k∈qgY rs vs,k∈K) ->
   (useK (qcA rs vs j)).Nodup/\(∀ k∈useK (qcA rs vs j),k ∉ used/\k ∉ qgY rs vs)/\(∀ k∈qgY rs vs,k ∉ used)/\(∀ n k o,(n,(k,o))∈qcA rs vs j->∃ t xs,get s.h k=some (.rows t xs .own)) /\
   ((∀ n k o,(n,(k,o))∈qcA rs vs j->∀ b o',J k=some (b,o')->¬ S2 b)->(∀ n,j<=n->ρ n=qck J (qcA rs vs j) n)->ResV w S2 ρ rs j y us):=by
 intro rs
 induction rs with
 | nil =>
  intro vs us used used' y j h hl hK;cases vs with
  | nil =>
   cases us with
   | nil=>exact⟨List.nodup_nil,by simp [qcA,useK],by simp [qgY],by simp [qcA],fun _ _=>trivial⟩
   | cons _ _=>exact hl.elim
  | cons _ _=>simp [qax] at h
 | cons r rs ih =>
  intro vs us used used' y j h hl hK;obtain⟨t,m⟩:=r;cases vs with
  | nil=>cases t<;>cases m<;>simp [qax] at h
  | cons v vs =>
   cases us with
   | nil=>exact hl.elim
   | cons u us =>
   obtain⟨hu,hl⟩:=hl;cases m with
   | false =>
    have h:(bif anyN (qag v.cells) used || !fits t v then none else
        (match decA (get s.h) t v.cells with
        | some x=>(match qax (get s.h) rs vs (qag v.cells++used) with | some (r,u)=>some ((x,r),u) | none=>none)
        | none=>none):Option (HL (fsts ((t,false)::rs))×List Nat))=some (y,used'):=by cases t<;>exact h
    obtain⟨h0,h⟩:=qbg h;simp only[Bool.or_eq_false_iff,Bool.not_eq_false'] at h0;split at h
    · rename_i x hx;split at h
      · rename_i r u' hr;injection h with h
        injection h with h1 h2
        subst h1;have e1:qcA ((t,false)::rs) (v::vs) j=qcA rs vs j:=by cases v<;>rfl
        have e2:qgY ((t,false)::rs) (v::vs)=qag v.cells++qgY rs vs:=rfl;rw[e2] at hK ⊢;rw[e1];obtain⟨a1,a2,a3,a4,a5⟩:=ih (j:=j) hr hl (fun k hk=>hK k (List.mem_append.2 (.inr hk)));have g1:=qd8.1 h0.1;refine⟨a1,fun k hk=>?_,fun k hk=>?_,a4,fun hq hρ=>?_⟩
        · obtain ⟨b1, b2⟩ := a2 k hk;simp only[List.mem_append,not_or] at b1 ⊢;exact⟨b1.2,b1.1,b2⟩
        · rcases List.mem_append.1 hk with hk | hk
          · exact g1 k hk
          · exact fun h=>a3 k hk (List.mem_append.2 (.inr h))
        · have hv : VRel w S2 t x u := qsl hx h0.2 hu fun vs hvs => hdec _ vs t x (fun k hk => hK k (List.mem_append.2 (.inl hk))) hvs hx
          have ht:=a5 hq (fun n hn=>hρ n (by omega));cases t<;>exact⟨hv,ht⟩
      · cases h
    · cases h
   | true =>
    cases t with
    | sl e =>
      cases v with
      | nil =>
        simp only[qax] at h;split at h
        · rename_i r u' hr;injection h with h
          injection h with h1 h2
          subst h1;obtain⟨a1,a2,a3,a4,a5⟩:=ih (j:=j+1) hr hl hK;refine⟨a1,a2,a3,a4,fun hq hρ=>⟨?_,a5 hq (fun n hn=>hρ n (by omega))⟩⟩;have e0:ρ j=none:=by
            rw[hρ j (Nat.le_refl _)];show qck J (qcA rs vs (j+1)) j=none;unfold qck;cases hg:get (qcA rs vs (j+1)) j with
            | none=>rfl
            | some p=>have:=qsI hg;omega
          simp only[OwnV,e0];exact⟨trivial,hu⟩
        · cases h
      | osl k off len =>
        cases off with
        | succ off=>simp [qax] at h
        | zero =>
          simp only[qax] at h;obtain⟨h0,h⟩:=qbg h;have h0:=qbW.1 h0;split at h
          · rename_i t' xs hk;split at h
            · rename_i ys hys;obtain⟨rfl,rfl⟩:=qda hys;split at h
              · rename_i r u' hr;injection h with h
                injection h with h1 h2
                subst h1;obtain⟨a1,a2,a3,a4,a5⟩:=ih (j:=j+1) hr hl hK;simp only[qcA,qgY,useK,List.map_cons,List.nodup_cons,List.mem_cons] at a1 a2 a3 a4 a5 ⊢;refine⟨⟨fun h=>(a2 k h).1 (.inl rfl),a1⟩,fun k' hk'=>?_,fun k' hk' h=>a3 k' hk' (.inr h),?_,fun hq hρ=>⟨?_,a5 (fun n k o hm=>hq n k o (.inr hm)) (fun n hn=>?_)⟩⟩
                · rcases hk' with rfl | hk'
                  · exact⟨h0,fun h=>a3 _ h (.inl rfl)⟩
                  · exact⟨fun h=>(a2 k' hk').1 (.inr h),(a2 k' hk').2⟩
                · rintro n k' o (hm | hm)
                  · injection hm with _ hm;injection hm with hm _;subst hm;exact⟨_,_,hk⟩
                  · exact a4 n k' o hm
                · obtain ⟨hwin, h2⟩ := qdS Rl hk hu;have hlen:=qbt hwin;have e0:ρ j=(J k).map fun p=>(p.1,p.2+0):=by
                    rw[hρ j (Nat.le_refl _)];simp [qck,q6q]
                  rcases h2 with ⟨hb,_,h3,rfl⟩ | ⟨b,o,x0,cap,hb,rfl,hcap,hx,hown⟩
                  · simp only [OwnV, e0, hb, Option.map_none];exact⟨List.eq_nil_of_length_eq_zero (by rw[hlen,h3]),trivial⟩
                  · have hor := Rl.obs k _ hk;simp only[ORel,hb] at hor;obtain⟨⟨c,hc,hcsz⟩,hrow,_,_,ho0⟩:=hor;obtain rfl:=ho0 trivial;obtain⟨c2,hc2,hcapsz⟩:=hown rfl;simp only[OwnV,e0,hb,Option.map_some];refine⟨trivial,hq j k 0 (.inl rfl) b 0 hb,x0,cap,c2,by rw[hlen],by rw[hlen];exact hcap,by simpa using hx,hc2,by simpa using hcapsz,fun i z hz=>?_⟩;obtain⟨ds,d1,d2⟩:=hrow i z (by have:=qhY hz;rwa [Nat.zero_add] at this)
                    exact⟨ds,d1.mono hS2 (fun _ _=>rfl),d2⟩
                · rw [hρ n (by omega)];simp only[qck,q6q,if_neg (show ¬ j=n by omega)]
              · cases h
            · cases h
          · cases h
      | junk=>simp [qax] at h
      | val _ _=>simp [qax] at h
      | ptr _ _ _=>simp [qax] at h
      | iptr _ _ _=>simp [qax] at h
      | nilp=>simp [qax] at h
      | vw _ _=>simp [qax] at h
      | vp _ _ _ _=>simp [qax] at h
      | fx _=>simp [qax] at h
      | agg _=>simp [qax] at h
      | tup _=>simp [qax] at h
      | clo _ _=>simp [qax] at h
    | int _=>simp [qax] at h
    | bool=>simp [qax] at h
    | str | os _ | op _=>simp [qax] at h
    | unit=>simp [qax] at h
    | pair _ _=>simp [qax] at h
theorem qxw {h:Hp}:∀ {rs:List (Ty×Bool)} {vs:List PV} {used used':List Nat} {y:HL (fsts rs)},qax h rs vs used=some (y,used')->∀ (j n:Nat) (e:Ty) (xs:List e.den),resG rs j y n=some (.rows e xs .own) ->
  (∃ k len zs,get (qcA rs vs j) n=some (k,0)/\h k=some (.rows e zs .own)/\xs=win zs 0 len)\/(xs=[]/\get (qcA rs vs j) n=none):=by
 intro rs
 induction rs with
 | nil=>intro vs used used' y _ j n e xs hg;simp [resG] at hg
 | cons r rs ih =>
  intro vs used used' y hh j n e xs hg;obtain⟨t,m⟩:=r;cases vs with
  | nil=>cases t<;>cases m<;>simp [qax] at hh
  | cons v vs =>
   cases m with
   | false =>
    have hh:(bif anyN (qag v.cells) used || !fits t v then none else
        (match decA h t v.cells with
        | some x=>(match qax h rs vs (qag v.cells++used) with | some (r,u)=>some ((x,r),u) | none=>none)
        | none=>none):Option (HL (fsts ((t,false)::rs))×List Nat))=some (y,used'):=by cases t<;>exact hh
    obtain⟨_,hh⟩:=qbg hh;split at hh
    · split at hh
      · rename_i r u' hr;injection hh with hh
        injection hh with h1 _
        subst h1;have e1:qcA ((t,false)::rs) (v::vs) j=qcA rs vs j:=by cases v<;>rfl
        rw[e1];refine ih hr j n e xs ?_;cases t<;>exact hg
      · cases hh
    · cases hh
   | true =>
    cases t with
    | sl e0 =>
      cases v with
      | nil =>
        simp only[qax] at hh;split at hh
        · rename_i r u' hr;injection hh with hh
          injection hh with h1 _
          subst h1;simp only[resG] at hg;split at hg
          · rename_i e1;injection hg with hg
            injection hg with g1 g2 _
            subst g1;have g2:=eq_of_heq g2;refine .inr ⟨g2.symm,?_⟩;show get (qcA rs vs (j+1)) n=none;cases hq:get (qcA rs vs (j+1)) n with
            | none=>rfl
            | some p=>have:=qsI hq;omega
          · exact ih hr (j+1) n e xs hg
        · cases hh
      | osl k off len =>
        cases off with
        | succ off=>simp [qax] at hh
        | zero =>
          simp only[qax] at hh;obtain⟨_,hh⟩:=qbg hh;split at hh
          · rename_i t' zs hk;split at hh
            · rename_i ys hys;obtain⟨rfl,rfl⟩:=qda hys;split at hh
              · rename_i r u' hr;injection hh with hh
                injection hh with h1 _
                subst h1;simp only[resG] at hg;simp only[qcA,q6q];split at hg
                · rename_i e1;injection hg with hg
                  injection hg with g1 g2 _
                  subst g1;have g2:=eq_of_heq g2;exact .inl ⟨k,len,_,by rw[if_pos e1.symm],hk,g2.symm⟩
                · rename_i e1;rw[if_neg (Ne.symm e1)];exact ih hr (j+1) n e xs hg
              · cases hh
            · cases hh
          · cases hh
      | _=>simp [qax] at hh
    | _=>simp [qax] at hh
theorem qsZ:∀ {ps:List (Ty×PM)} {i:Nat},immP ps=true->ownK ps i=[]/\qdo ps i=[]:=by
 intro ps
 induction ps with
 | nil=>intro i _;exact⟨rfl,rfl⟩
 | cons p ps ih =>
  intro i h;obtain⟨t,m⟩:=p;cases m with
  | imm=>exact ih h
  | own=>cases h
  | lent=>cases h
theorem qta {B:Base} {w:World} {S S2:Foot} {J:Con} {s:St} {a:Act} (Rl:Rel T B w S J s a) (hS2:∀ b,S b->S2 b) {rs:List (Ty×Bool)} {vs:List PV}
   (hS2n:∀ b,S2 b->S b\/∃ k∈qgY rs vs,∃ ob o,get s.h k=some ob/\ob≠.gone/\J k=some (b,o)) (hMo:∀ b,B.Mo b->B.w0.heap.size<=b)
   {used used':List Nat} {y:HL (fsts rs)} (h:qax (get s.h) rs vs used=some (y,used')) (hnd:(useK (qcA rs vs 0)).Nodup)
   (hown:∀ n k o,(n,(k,o))∈qcA rs vs 0->∃ t xs,get s.h k=some (.rows t xs .own)):qx2 w S2 B.w0.heap.size (qck J (qcA rs vs 0)) (resG rs 0 y):=by
 obtain⟨O,D⟩:=Rl.deep;have hφ:∀ j b,b∈(match get (qcA rs vs 0) j with | some p=>O p.1 | none=>[])->∃ k off,get (qcA rs vs 0) j=some (k,off)/\b∈O k:=fun j b hb=>by
   cases hq:get (qcA rs vs 0) j with
   | none=>rw[hq] at hb;simp at hb
   | some p=>rw[hq] at hb;exact⟨p.1,p.2,rfl,hb⟩
 refine⟨fun j=>match get (qcA rs vs 0) j with | some p=>O p.1 | none=>[],fun j e xs b o hg hρ=>?_,fun j b hb=>?_,fun j j' b h1 h2=>?_⟩
 · rcases qxw h 0 j e xs hg with ⟨k, len, zs, g1, g2, rfl⟩ | ⟨rfl, _⟩
   · simp only [g1];unfold qck at hρ;rw[g1] at hρ;simp only at hρ;cases hb:J k with
     | none=>rw[hb] at hρ;cases hρ
     | some p =>
       obtain⟨b1,o1⟩:=p;rw[hb] at hρ;simp only[Option.map_some,Option.some.injEq,Prod.mk.injEq] at hρ;obtain⟨rfl,_⟩:=hρ;exact((D.row k e zs _ o1 g2 hb).win len).mono hS2 (fun _ _=>rfl) (fun _ _=>rfl) rfl
   · exact DRow.nil
 · obtain ⟨k, off, g1, hb⟩ := hφ j b hb;obtain⟨a1,a2,a3,a4,a5⟩:=D.off k b hb;refine⟨fun hS=>?_,hMo b a2,a3,fun j' o hc=>?_⟩
   · rcases hS2n b hS with h | ⟨k', _, ob, o, q1, q2, q3⟩
     · exact a1 h
     · cases hl : ob.live with
       | true=>exact a4 k' ob o q1 hl q3
       | false =>
        cases ob with
        | gone=>exact q2 rfl
        | box l=>cases hl
        | rows t xs m =>
         cases m with
         | frz=>exact a1 (Rl.frzS q1 q3)
         | own=>cases hl
         | lent=>cases hl
   · unfold qck at hc;split at hc
     · rename_i k' off' hg;cases hb':J k' with
       | none=>rw[hb'] at hc;cases hc
       | some p =>
        obtain⟨b1,o1⟩:=p;rw[hb'] at hc;simp only[Option.map_some,Option.some.injEq,Prod.mk.injEq] at hc;obtain⟨rfl,_⟩:=hc;obtain⟨t,xs,h3⟩:=hown _ _ _ (qaT hg);exact a4 k' _ o1 h3 rfl hb'
     · cases hc
 · obtain ⟨k, off, g1, hb⟩ := hφ j b h1;obtain⟨k',off',g1',hb'⟩:=hφ j' b h2;have:=D.one k k' b hb hb';subst this;exact qi0 hnd g1 g1'
theorem qnD {h:Hp} {w w':World} {S2:Foot} {J:Con}:∀ {ps:List (Ty×PM)} {i:Nat} {x:HL (fsts ps)} {ls:HL (qha ps)},qgi ps i x h=some ls ->
  (∀ k∈qdo ps i,∀ (e:Ty) (x0 ys:List e.den),h k=some (.rows e ys .lent)->ys.length=x0.length->(∀ p,J k=some p->ltOf J ps i x k=some (p.1,p.2,x0.length*e.size))->qzF w w' S2 (J k) e x0 ys)->qld w w' S2 J ps i x ls/\∀ k∈qdo ps i,(∃ (e:Ty) (ys:List e.den),h k=some (.rows e ys .lent))/\∀ p,J k=some p->∃ n,ltOf J ps i x k=some (p.1,p.2,n):=by
 intro ps
 induction ps with
 | nil=>intro i x ls h1 _;exact⟨trivial,by simp [qdo]⟩
 | cons p ps ih =>
  intro i x ls h1 h2;obtain⟨t,m⟩:=p;obtain⟨x,r⟩:=x;cases m with
  | imm =>
   have h1:qgi ps (i+1) r h=some ls:=by cases t<;>exact h1
   have e2:ltOf J ((t,PM.imm)::ps) i (x,r)=ltOf J ps (i+1) r:=by cases t<;>rfl
   rw[e2] at h2;obtain⟨a1,a2⟩:=ih h1 h2;exact⟨by cases t<;>exact a1,by rw[e2];exact a2⟩
  | own =>
   have h1:qgi ps (i+1) r h=some ls:=by cases t<;>exact h1
   have e2:ltOf J ((t,PM.own)::ps) i (x,r)=ltOf J ps (i+1) r:=by cases t<;>rfl
   rw[e2] at h2;obtain⟨a1,a2⟩:=ih h1 h2;exact⟨by cases t<;>exact a1,by rw[e2];exact a2⟩
  | lent =>
   cases t with
   | sl e =>
    simp only[qgi] at h1;split at h1
    · rename_i t' ys hk;split at h1
      · rename_i y hy;obtain⟨rfl,rfl⟩:=qda hy;obtain⟨hlen,h1⟩:=q8q h1;have hlen:=Nat.eq_of_beq_eq_true hlen;split at h1
        · rename_i q hq;injection h1 with h1
          subst h1;obtain⟨a1,a2⟩:=ih hq (fun k hk e x0 ys g1 g2 g3=>h2 k (List.mem_cons_of_mem _ hk) e x0 ys g1 g2 fun p hp=>by
            have:=qkV hk;simp only[ltOf,if_neg (show ¬ k=i*8 by omega)];exact g3 p hp)
          refine⟨⟨h2 (i*8) List.mem_cons_self _ x _ hk hlen (fun p hp=>by simp [ltOf,hp]),a1⟩,fun k hk'=>?_⟩;rcases List.mem_cons.1 hk' with rfl | hk'
          · exact⟨⟨_,_,hk⟩,fun p hp=>⟨_,by simp [ltOf,hp];rfl⟩⟩
          · have := qkV hk';simp only[ltOf,if_neg (show ¬ k=i*8 by omega)];exact a2 k hk'
        · cases h1
      · cases h1
    · cases h1
   | int _=>cases h1
   | bool=>cases h1
   | str | os _ | op _=>cases h1
   | unit=>cases h1
   | pair _ _=>cases h1
def resF (tmps:Array Value):ResultVar->Sem Value
 | .tmp t=>pure (tmps.getD t undef)
 | .cell a t=>do loadVar t (<- asAddr (tmps.getD a undef))
theorem qtz (fn:Func) (tmps:Array Value):results fn tmps=(do let vs <- fn.results.mapM (resF tmps);pure (if h:vs.size=1 then vs[0] else .tuple vs)):=by
 unfold results;congr 1
theorem qtA {s:St} {x:Tmp} {T':TypeId} (h:qlk tb s (.cell x T')≠.junk):∃ t fs q k l,get tb T'=some (.stc t fs q)/\get s.e x=some (.ptr k 0 0)/\get s.h k=some (.box l)/\l.length=t.size/\qlk tb s (.cell x T')=.agg l:=by
 simp only[qlk] at h ⊢;cases hg:get tb T' with
 | none=>rw[hg] at h;exact absurd rfl h
 | some te =>
  cases te with
  | sc t=>rw[hg] at h;exact absurd rfl h
  | slc e t b=>rw[hg] at h;exact absurd rfl h
  | pt e=>rw[hg] at h;exact absurd rfl h
  | arr e t=>rw[hg] at h;exact absurd rfl h
  | stc t fs q =>
   rw[hg] at h;cases he:get s.e x with
   | none=>rw[he] at h;exact absurd rfl h
   | some pv =>
    rw[he] at h;cases pv with
    | ptr k i off =>
     cases i with
     | succ i=>exact absurd rfl h
     | zero =>
      cases off with
      | succ off=>exact absurd rfl h
      | zero =>
       cases hk:get s.h k with
       | none=>simp only[hk] at h;exact absurd rfl h
       | some ob =>
        cases ob with
        | gone=>simp only[hk] at h;exact absurd rfl h
        | rows _ _ _=>simp only[hk] at h;exact absurd rfl h
        | box l =>
         simp only[hk] at h;cases hb:Nat.beq l.length t.size with
         | false=>rw[hb] at h;exact absurd rfl h
         | true=>exact⟨t,fs,q,k,l,rfl,rfl,hk,Nat.eq_of_beq_eq_true hb,by simp only[hk,hb,cond_true]⟩
    | _=>exact absurd rfl h
theorem qgh {h:Hp}:∀ {rs:List (Ty×Bool)} {vs:List PV} {used used':List Nat} {y:HL (fsts rs)},qax h rs vs used=some (y,used')->∀ v∈vs,v≠.junk:=by
 intro rs
 induction rs with
 | nil =>
  intro vs used used' y h1 v hv;cases vs with
  | nil=>simp at hv
  | cons _ _=>simp [qax] at h1
 | cons r rs ih =>
  intro vs used used' y h1 v hv e;subst e;obtain⟨t,m⟩:=r;cases vs with
  | nil=>simp at hv
  | cons u vs =>
   cases m with
   | false =>
    have h1:(bif anyN (qag u.cells) used || !fits t u then none else
        (match decA h t u.cells with
        | some x=>(match qax h rs vs (qag u.cells++used) with | some (r,u)=>some ((x,r),u) | none=>none)
        | none=>none):Option (HL (fsts ((t,false)::rs))×List Nat))=some (y,used'):=by cases t<;>exact h1
    obtain⟨h0,h1⟩:=qbg h1;split at h1
    · rename_i x hx;split at h1
      · rename_i r u' hr;rcases List.mem_cons.1 hv with e | hv'
        · subst e;exact qq9 hx
        · exact ih hr _ hv' rfl
      · cases h1
    · cases h1
   | true =>
    cases t with
    | sl e =>
      rcases List.mem_cons.1 hv with e | hv'
      · subst e;simp [qax] at h1
      · cases u with
        | nil =>
          simp only[qax] at h1;split at h1
          · rename_i hr;exact ih hr _ hv' rfl
          · cases h1
        | osl k off len =>
          cases off with
          | succ off=>simp [qax] at h1
          | zero =>
            simp only[qax] at h1;obtain⟨h0,h1⟩:=qbg h1;split at h1
            · split at h1
              · split at h1
                · rename_i hr;exact ih hr _ hv' rfl
                · cases h1
              · cases h1
            · cases h1
        | junk=>simp [qax] at h1
        | val _ _=>simp [qax] at h1
        | ptr _ _ _=>simp [qax] at h1
        | iptr _ _ _=>simp [qax] at h1
        | nilp=>simp [qax] at h1
        | vw _ _=>simp [qax] at h1
        | vp _ _ _ _=>simp [qax] at h1
        | fx _=>simp [qax] at h1
        | agg _=>simp [qax] at h1
        | tup _=>simp [qax] at h1
        | clo _ _=>simp [qax] at h1
    | int _=>simp [qax] at h1
    | bool=>simp [qax] at h1
    | str | os _ | op _=>simp [qax] at h1
    | unit=>simp [qax] at h1
    | pair _ _=>simp [qax] at h1
theorem qm6 {B:Base} {w:World} {S:Foot} {J:Con} {s:St} {a:Act} (hT:TbOk P tb) (Rl:Rel T B w S J s a) (fn:Func)
  (hj:∀ rv∈fn.results.toList,qlk tb s rv=.junk->∃ t,rv=.tmp t):∃ us:List Value,(results fn a.tmps).run P w=.ok (qrC us) w/\All2 (TRel w S J (get s.h)) (fn.results.toList.map (qlk tb s)) us:=by
 have key:∀ l:List ResultVar,(∀ rv∈l,qlk tb s rv=.junk->∃ t,rv=.tmp t)->∃ us:List Value,(l.mapM (resF a.tmps)).run P w=.ok us w/\All2 (TRel w S J (get s.h)) (l.map (qlk tb s)) us:=by
  intro l
  induction l with
  | nil=>intro _;exact⟨[],by simp,trivial⟩
  | cons rv l ih =>
   intro hj;obtain⟨us,h1,h2⟩:=ih fun rv h=>hj rv (List.mem_cons_of_mem _ h)
   have:∃ u:Value,(resF a.tmps rv).run P w=.ok u w/\TRel w S J (get s.h) (qlk tb s rv) u:=by
    cases rv with
    | tmp t =>
     refine⟨a.tmps.getD t undef,rfl,?_⟩;simp only[qlk];cases he:get s.e t with
     | none=>trivial
     | some pv =>
       obtain⟨v,q1,q2⟩:=Rl.tmps t pv he;rw[Array.getD_eq_getD_getElem?,q1];exact q2
    | cell x T' =>
     have hne:qlk tb s (.cell x T')≠.junk:=fun h=>by obtain⟨t,ht⟩:=hj _ List.mem_cons_self h;cases ht
     obtain⟨t,fs,q,k,l0,hg,he,hk,hb,hr⟩:=qtA hne;rw[hr];obtain⟨v,q1,q2⟩:=Rl.tmps x _ he;have q2:qac w S J (get s.h) (.ptr k 0 0) v:=q2;simp only[qac,hk] at q2;obtain⟨b,o,hβ,rfl⟩:=q2;obtain⟨b',c,hb',hc,hl,_⟩:=Rl.obs k _ hk;rw[hβ] at hb';injection hb' with hb'
     injection hb' with e1 e2
     subst e1;subst e2;have hTe:=hT T' _ hg;have hcl:=hl.length;have hat:At w b 0 c.toList:=fun j v hv=>by
       rw[Nat.zero_add,hc.cell];simpa using hv
     have hload:=qhm hTe.1 w b 0 c.toList (by rw[<- hcl];exact hb) hat;refine⟨vOf t c.toList,?_,?_⟩
     · simp only [resF];rw[Array.getD_eq_getD_getElem?,q1];simp only[Option.getD_some,Ob.sz,Nat.mul_zero,Nat.add_zero,Sem.run_bind];have:(asAddr (.pointer (some ⟨b,0,none⟩))).run P w=.ok ⟨b,0,none⟩ w:=rfl;rw[this];exact hload
     · have ha := hTe.2.1;simp only[vOf,ha,if_true];exact⟨c.toList,rfl,hl⟩
   obtain⟨u,h3,h4⟩:=this;exact⟨u::us,by rw[List.mapM_cons,Sem.run_bind,h3];simp only[Result.andThen_ok,Sem.run_bind,h1,Sem.run_pure],h4,h2⟩
 obtain⟨us,h1,h2⟩:=key _ hj;refine⟨us,?_,h2⟩;rw[qtz,Array.mapM_eq_mapM_toList,Sem.run_bind];have h3:(List.toArray <$> (fn.results.toList.mapM (resF a.tmps))).run P w=.ok us.toArray w:=by
  rw[<- bind_pure_comp,Sem.run_bind,h1];rfl
 rw[h3];simp only[Result.andThen_ok,Sem.run_pure];congr 1
 match us with
 | []=>rfl
 | [u]=>rfl
 | _::_::_=>simp [qrC]
variable {T:Told} {P:Program} {tb:Tb} {env:Env}
theorem qaG (hT:TbOk P tb) (hE:qas T P env) (hm:P.follows .mixedOrders=true) {f:FuncId} {fn:Func} {c:Code} {lh:LH} {ct:Ctr} {dcd:HL (qha ct.ps)×HL (fsts ct.rs)->ct.T}
  (hf : P.funcs[f]? = some fn) (hn : (fn.name == "runtime.NumGoroutine") = false) (hb : fn.body = some c) (hl : LHok T P fn.ntmps lh c) (hps : ct.ps.length ≤ fn.ntmps) (henc : ∀ y, ct.enc (dcd y) = y)
  (hF:∀ x r,ct.F x=some r->fnF tb env fn lh ct.ps ct.rs dcd x=some r) (hwi:ct.wi=none:=by rfl) (hflat:ct.flat=true:=by rfl):qam T P f ct:=by
 refine⟨⟨fn,hf,hn,by rw[hb];rfl⟩,?_,hflat⟩;simp only[Ctr.flat,Bool.and_eq_true] at hflat;rw[hwi];intro x r hx w S J vs E;have h:=hF x r hx;unfold fnF at h;rw[hb] at h;simp only at h;have R0:=qsJ E (nt:=fn.ntmps) hps hflat.1;refine calls_of_wp hf hb (qrz (B:=qnM fn.ntmps w S J ct.ps x) hT hE hm h hl (fun ex s hs=>?_) w S J _ R0);have fin:finK tb ct.ps ct.rs dcd fn.results.toList x .ret s=some r->∀ (w':World) (S':Foot) (J':Con) (a':Act),Rel T (qnM fn.ntmps w S J ct.ps x) w' S' J' s a' ->
    a'.defers=[]/\∃ v,(results fn a'.tmps).run P w'=.ok v w'/\∃ S' ρ,qAp T w S J ct.ps ct.rs x (ct.enc r) v w' S' ρ:=by
  intro hs w' S' J' a' R';refine⟨R'.defers,?_⟩;simp only[finK] at hs;obtain⟨ls,hs,hls⟩:=qjv hs;split at hs
  · rename_i p hp;obtain⟨rr,used⟩:=p;simp only[Option.some.injEq] at hs;subst hs;obtain⟨us,hrun,hus⟩:=qm6 hT R' fn (fun rv hrv hj=>absurd hj (qgh hp _ (List.mem_map.2 ⟨rv,hrv,rfl⟩)));refine⟨qrC us,hrun,?_⟩;generalize hpv:List.map (qlk tb s) fn.results.toList=pvs at *;obtain⟨S2,R2,hS2,hS2n,hdec⟩:=R'.frz (hp:=get s.h) (fun _ _ h=>h) (qgY ct.rs pvs);obtain⟨k1,k2,k3,k4,k5⟩:=qqW (j:=0) (ρ:=qck J' (qcA ct.rs pvs 0)) R' hS2 hdec hp hus (fun _ h=>h);have hstay:∀ k,k ∉ qgY ct.rs pvs->get (frzW (get s.h) (qgY ct.rs pvs)++s.h) k=get s.h k:=fun k hk=>by
      rw[q2q,qjj hk];rfl
    have hlK:∀ k∈qdo ct.ps 0,k ∉ qgY ct.rs pvs:=fun k hk h=>k3 k h hk
    have hlent:∀ k∈qdo ct.ps 0,∀ (e:Ty) (ys:List e.den),get s.h k=some (.rows e ys .lent)->∀ b o n,ltOf J ct.ps 0 x k=some (b,o,n)->J' k=some (b,o)/\¬ S2 b:=by
      intro k hk e ys hg b o n hlt;have:J' k=some (b,o):=by
        rcases R'.lentk k e ys hg with ⟨_,h⟩ | ⟨b2,o2,h1,h2⟩
        · have h : ltOf J ct.ps 0 x k = none := h;rw[h] at hlt;cases hlt
        · have h1 : ltOf J ct.ps 0 x k = _ := h1;rw[h1] at hlt;injection hlt with hlt
          injection hlt with e1 hlt
          injection hlt with e2 _
          rw[h2,e1,e2]
      exact⟨this,(R2.liveS (by rw[hstay k (hlK k hk)];exact hg) rfl this).1⟩
    obtain⟨l1,l2⟩:=qnD (w:=w) (w':=w') (S2:=S2) (J:=J) hls (fun k hk e x0 ys hg hlen hlt=>by
      refine⟨hlen,?_⟩;cases hb:J k with
      | none=>trivial
      | some p =>
        obtain⟨b,o⟩:=p;have hlt:=hlt _ hb;obtain⟨q1,q2⟩:=hlent k hk e ys hg b o _ hlt;obtain⟨c0,c,g1,g2,g3,g4⟩:=R'.lent k b o _ hlt;exact⟨q2,c0,c,g1,g2,g3,g4,(R'.rows k e ys .lent b o hg q1).mono hS2 (fun _ _=>rfl) rfl⟩)
    have hown:∀ {n b o'},qck J' (qcA ct.rs pvs 0) n=some (b,o')->∃ k off,get (qcA ct.rs pvs 0) n=some (k,off)/\∃ t xs o1,get s.h k=some (.rows t xs .own)/\J' k=some (b,o1):=by
      intro n b o' hc;unfold qck at hc;split at hc
      · rename_i k off hg;cases hb:J' k with
        | none=>rw[hb] at hc;cases hc
        | some p =>
          obtain⟨b1,o1⟩:=p;rw[hb] at hc;simp only[Option.map_some,Option.some.injEq,Prod.mk.injEq] at hc;obtain⟨rfl,_⟩:=hc;obtain⟨t,xs,h3⟩:=k4 n k off (qaT hg);exact⟨k,off,hg,t,xs,o1,h3,hb⟩
      · cases hc
    have hMo:∀ {b},(qnM fn.ntmps w S J ct.ps x).Mo b->(∀ k o,k∈qdo ct.ps 0->J k≠some (b,o))->w.heap.size<=b\/∃ k∈ownK ct.ps 0,∃ o,J k=some (b,o):=by
      rintro b (h | ⟨k,o,hb⟩) hn
      · exact .inl h
      · rcases E.dom k b o hb with h | h
        · exact .inr ⟨k,h,o,hb⟩
        · exact absurd hb (hn k o h)
    have hk5:=k5 (fun n k o hm b o' hb=>by
      obtain⟨t,xs,h3⟩:=k4 n k o hm;have hk:k ∉ qgY ct.rs pvs:=(k2 k (List.mem_map.2 ⟨_,hm,rfl⟩)).2;exact(R2.liveS (by rw[hstay k hk];exact h3) rfl hb).1) (fun _ _=>rfl)
    refine⟨S2,qck J' (qcA ct.rs pvs 0),fun b hb=>hS2 b (R'.S0 b hb),fun b hb=>?_,R2.Slt,fun b hb hn=>R'.olds b hb (fun⟨k,o,h⟩=>hn k o h),R'.grow,R'.told,R'.calm,by rw[henc];exact l1,⟨us,rfl,by rw[henc];exact hk5⟩,fun n n' b o1 o2 h1 h2=>?_,fun n b o' hc=>?_,fun hfr=>?_⟩
    · rcases R2.Snew b hb with h | h
      · exact .inl h
      · refine .inr (hMo h fun k o hk hβ => ?_);obtain⟨⟨e,ys,hg⟩,hlt⟩:=l2 k hk;obtain⟨n,hlt⟩:=hlt _ hβ;exact(hlent k hk e ys hg b o n hlt).2 hb
    · obtain ⟨k, off, g1, t, xs, p1, g2, g3⟩ := hown h1;obtain⟨k',off',g1',t',xs',p1',g2',g3'⟩:=hown h2;have:=R'.inj k k' _ _ b p1 p1' g2 rfl g2' rfl g3 g3';subst this;exact qi0 k1 g1 g1'
    · obtain ⟨k, off, g1, t, xs, p1, g2, g3⟩ := hown hc;refine hMo (R'.liveS g2 rfl g3).2 fun k' o2 hk' hβ=>?_
      obtain⟨_,hlt⟩:=l2 k' hk';obtain⟨n2,hlt⟩:=hlt _ hβ;exact R'.sep k _ b p1 g2 rfl (by simp) g3 k' o2 n2 hlt
    · have himm := hflat.2;rw[hfr,Bool.false_or,Bool.and_eq_true] at himm;obtain⟨i1,i2⟩:=qsZ himm.1;rw[henc];exact qta R' hS2 hS2n (fun b hb=>(hMo hb (fun k o hk=>by rw[i2] at hk;simp at hk)).resolve_right (by rintro⟨k,hk,_⟩;rw[i1] at hk;simp at hk)) hp k1 k4
  · cases hs
 cases ex with
 | exit n=>cases hs
 | normal=>exact fun w' S' J' a' R'=>fin hs w' S' J' a' R'
 | ret=>exact fun w' S' J' a' R'=>fin hs w' S' J' a' R'
#print axioms qaG
def Wf:(t:Ty)->t.den->Prop
 | .int k,n=>k.min<=(n:Int)/\(n:Int)<=k.max
 | .bool,_=>True
 | .str,s=>ByteArray.size s<=9223372036854775807
 | .unit,_=>True
 | .pair a b,x=>Wf a x.1/\Wf b x.2
 | .sl e,xs=>List.length (α:=e.den) xs<=9223372036854775807/\∀ x∈xs,Wf e x
 | .os _,_=>True
 | .op _,_=>True
def WfA:(ps:List (Ty×PM))->HL (fsts ps)->Prop
 | [],_=>True
 | (t,_)::ps,(x,r)=>Wf t x/\WfA ps r
def qjI (P:Program) (rec:Ty->TypeId->Bool):Ty->List Field->Nat->Bool
 | .unit,[],_=>true
 | .pair a .unit,[f],off=>Nat.beq f.offset off&&Nat.beq (P.cellsOf f.type) a.size&&rec a f.type
 | .pair a b,[f,g],off=>Nat.beq f.offset off&&Nat.beq (P.cellsOf f.type) a.size&&rec a f.type&&Nat.beq g.offset (off+a.size)&&Nat.beq (P.cellsOf g.type) b.size&&rec b g.type
 | .pair a b,f::f2::f3::fs,off=>Nat.beq f.offset off&&Nat.beq (P.cellsOf f.type) a.size&&rec a f.type&&qjI P rec b (f2::f3::fs) (off+a.size)
 | _,_,_=>false
def shpB (P:Program):Nat->Ty->TypeId->Bool
 | 0,_,_=>false
 | n+1,t,T' =>
  match P.underlying T',t with
  | some (.int k),.int k'=>decide (k=k')
  | some .bool,.bool=>true
  | some .string,.str=>true
  | some (.slice E),.sl e=>Nat.beq (P.cellsOf E) e.size&&Nat.blt 0 e.size&&shpB P n e E
  | some (.struct fs),.unit=>Nat.beq (P.cellsOf T') 0&&qjI P (shpB P n) .unit fs.toList 0
  | some (.struct fs),.pair a b=>Nat.beq (P.cellsOf T') (Ty.pair a b).size&&qjI P (shpB P n) (.pair a b) fs.toList 0
  | _,_=>false
section
variable {H:Type} {enc:TypeId×Value->H} {P:Program} {w:World} {base:Nat} {spare:Nat->Bool} {held:Bool} {S:Foot}
theorem qpS {a:Addr} {v:Value} (h:w.cell? a=some v):a=⟨a.block,a.off,none⟩/\a.block<w.heap.size:=by
 unfold World.cell? at h;split at h
 · rename_i c _ _ hb;have hlt:a.block<w.heap.size:=by
    rcases Nat.lt_or_ge a.block w.heap.size with hl | hl
    · exact hl
    · rw[Array.getElem?_eq_none hl] at hb;cases hb
   obtain⟨b,o,s⟩:=a;cases s with
   | none=>exact⟨rfl,hlt⟩
   | some s=>simp at h
 · cases h
theorem qm0 {rec:Ty->TypeId->Bool} {n:Nat} (ih:∀ (t:Ty) (T':TypeId) (cs:List Value) (x:DataW H×List MemPlace),rec t T'=true->DataW.trod enc P w base spare held n T' cs=some x->∃ y:t.den,Cell w S t y cs/\Wf t y) :
  ∀ {t:Ty} {fs:List Field} {off:Nat} {cs:List Value},qjI P rec t fs off=true->cs.length=off+t.size ->
   (∀ f∈fs,∃ x,DataW.trod enc P w base spare held n f.type ((cs.drop f.offset).take (P.cellsOf f.type))=some x)->∃ y:t.den,Cell w S t y (cs.drop off)/\Wf t y:=by
 intro t
 induction t with
 | int k=>intro fs off cs h;cases fs<;>simp [qjI] at h
 | bool=>intro fs off cs h;cases fs<;>simp [qjI] at h
 | str | os _ _ | op _ _=>intro fs off cs h;cases fs<;>simp [qjI] at h
 | sl e _=>intro fs off cs h;cases fs<;>simp [qjI] at h
 | unit =>
  intro fs off cs h hl _;refine⟨(),?_,trivial⟩;show cs.drop off=[];exact List.drop_eq_nil_of_le (by simp [Ty.size] at hl;omega)
 | pair a b iha ihb =>
  intro fs off cs h hl hf;have one:∀ {f:Field},f∈fs->Nat.beq f.offset off=true->Nat.beq (P.cellsOf f.type) a.size=true->rec a f.type=true->∃ y:a.den,Cell w S a y ((cs.drop off).take a.size)/\Wf a y:=by
   intro f hm h1 h2 h3;obtain⟨x,hx⟩:=hf f hm;rw[Nat.eq_of_beq_eq_true h1,Nat.eq_of_beq_eq_true h2] at hx;exact ih a f.type _ x h3 hx
  have join:∀ {y:a.den} {z:b.den},Cell w S a y ((cs.drop off).take a.size)/\Wf a y->Cell w S b z (cs.drop (off+a.size))/\Wf b z->∃ y:(Ty.pair a b).den,Cell w S (.pair a b) y (cs.drop off)/\Wf (.pair a b) y:=by
   intro y z h1 h2;refine⟨(y,z),⟨_,_,?_,h1.1,h2.1⟩,h1.2,h2.2⟩;rw[<- List.drop_drop,List.take_append_drop]
  match fs,h with
  | [],h=>simp [qjI] at h
  | [f],h =>
   cases b with
   | unit =>
    simp only[qjI,Bool.and_eq_true] at h;obtain⟨y,hy⟩:=one List.mem_cons_self h.1.1 h.1.2 h.2;refine join (z:=()) hy ⟨?_,trivial⟩;show cs.drop (off+a.size)=[];exact List.drop_eq_nil_of_le (by simp [Ty.size] at hl;omega)
   | int k=>simp [qjI] at h
   | bool=>simp [qjI] at h
   | str | os _ | op _=>simp [qjI] at h
   | sl e=>simp [qjI] at h
   | pair c d=>simp [qjI] at h
  | [f,g],h =>
   have h:(Nat.beq f.offset off&&Nat.beq (P.cellsOf f.type) a.size&&rec a f.type&&Nat.beq g.offset (off+a.size)&&Nat.beq (P.cellsOf g.type) b.size&&rec b g.type)=true:=by
    cases b<;>exact h
   simp only[Bool.and_eq_true] at h;obtain⟨⟨⟨⟨⟨h1,h2⟩,h3⟩,h4⟩,h5⟩,h6⟩:=h;obtain⟨y,hy⟩:=one List.mem_cons_self h1 h2 h3;obtain⟨x,hx⟩:=hf g (by simp);rw[Nat.eq_of_beq_eq_true h4,Nat.eq_of_beq_eq_true h5,List.take_of_length_le (by simp [Ty.size] at hl ⊢;omega)] at hx;obtain⟨z,hz⟩:=ih b g.type _ x h6 hx;exact join hy hz
  | f::f2::f3::fs',h =>
   have h:(Nat.beq f.offset off&&Nat.beq (P.cellsOf f.type) a.size&&rec a f.type&&qjI P rec b (f2::f3::fs') (off+a.size))=true:=by
    cases b<;>exact h
   simp only[Bool.and_eq_true] at h;obtain⟨⟨⟨h1,h2⟩,h3⟩,h4⟩:=h;obtain⟨y,hy⟩:=one List.mem_cons_self h1 h2 h3;obtain⟨z,hz⟩:=ihb h4 (by simp [Ty.size] at hl ⊢;omega) (fun f hm=>hf f (List.mem_cons_of_mem _ hm));exact join hy hz
theorem quL (hS:∀ b,b<w.heap.size->S b):∀ (n:Nat) {t:Ty} {T':TypeId},shpB P n t T'=true->∀ {fuel:Nat} {cs:List Value} {x:DataW H×List MemPlace},DataW.trod enc P w base spare held fuel T' cs=some x ->
  ∃ y:t.den,Cell w S t y cs/\Wf t y:=by
 intro n
 induction n with
 | zero=>intro t T' h;cases h
 | succ n ih =>
  intro t T' h fuel cs x hx;simp only[shpB] at h;split at h
  · rename_i k k' hu;simp only[decide_eq_true_eq] at h;subst h;obtain⟨m,rfl,_,hw⟩:=DataW.trod_int hu hx;simp only[Lit.wf,Bool.and_eq_true,decide_eq_true_eq] at hw;exact⟨m,rfl,hw⟩
  · rename_i hu;obtain⟨b,rfl,_⟩:=DataW.trod_bool hu hx;exact⟨b,rfl,trivial⟩
  · rename_i hu;obtain⟨s,rfl,_,hs⟩:=DataW.trod_string hu hx;exact⟨s,rfl,hs⟩
  · rename_i E e hu;simp only[Bool.and_eq_true] at h;obtain⟨⟨h1,h2⟩,h3⟩:=h;have h1:=Nat.eq_of_beq_eq_true h1;have h2:0<e.size:=Nat.le_of_ble_eq_true h2;rcases Deep.open_slice hu hx with ⟨rfl,_⟩ | ⟨a,len,cap,m,n0,D,Pl,rfl,_,hl,hm,hmm,_,hel⟩
    · exact⟨[],⟨none,0,rfl,Nat.le_refl _,.inl rfl⟩,by simp,by simp⟩
    · have hle : len <= m := by rw [hmm]; split <;> omega
      rw[h1] at hel;have hel2:∀ i,i<len->∃ (cs':List Value) (y:e.den),w.cells? base (a.add (i*e.size)) e.size=some cs'/\Cell w S e y cs'/\Wf e y:=by
        intro i hi;obtain⟨cs',q1,q2⟩:=hel i (by omega);obtain⟨y,q3,q4⟩:=ih h3 q2;exact⟨cs',y,q1,q3,q4⟩
      by_cases hz:len=0
      · subst hz;exact⟨[],⟨some a,cap,rfl,Nat.zero_le _,.inl rfl⟩,by simp,by simp⟩
      · obtain ⟨cs0, y0, q1, q2, _⟩ := hel2 0 (by omega);obtain⟨_,hcl,hce⟩:=World.cells?_some q1;have hc0:=hce 0 h2;have:∃ v,w.cell? a=some v:=by
         have h4:(cs0[0]?)=some (cs0[0]'(by omega)):=List.getElem?_eq_getElem (by omega);rw[h4] at hc0;simp only[Nat.zero_mul] at hc0;exact⟨_,by simpa [Addr.add] using hc0⟩
        obtain⟨v,hv⟩:=this;obtain⟨ha,hblt⟩:=qpS hv;have key:∀ k,k<=len->∃ ys:List e.den,ys.length=k/\(∀ i y,ys[i]?=some y->∃ ds,Cell w S e y ds/\At w a.block (a.off+i*e.size) ds)/\∀ y∈ys,Wf e y:=by
         intro k
         induction k with
         | zero=>intro _;exact⟨[],rfl,by simp,by simp⟩
         | succ k ihk =>
          intro hk;obtain⟨ys,g1,g2,g3⟩:=ihk (by omega);obtain⟨cs',y,q1,q2,q3⟩:=hel2 k (by omega);obtain⟨_,hcl,hce⟩:=World.cells?_some q1;refine⟨ys++[y],by simp [g1],fun i z hz=>?_,fun z hz=>?_⟩
          · by_cases hi : i < ys.length
            · rw[List.getElem?_append_left hi] at hz;exact g2 i z hz
            · rw [List.getElem?_append_right (by omega)] at hz;have hi2:i=ys.length:=by
               have:=(List.getElem?_eq_some_iff.1 hz).1;simp at this;omega
              subst hi2;simp at hz;subst hz;refine⟨cs',q2,fun j u hj=>?_⟩;have hjl:=(List.getElem?_eq_some_iff.1 hj).1;have:=hce j (by omega);rw[hj] at this;rw[g1];have hadd:(a.add (k*e.size)).add j=⟨a.block,a.off+k*e.size+j,none⟩:=by
               conv=>lhs;rw[ha,Addr.add_mid,Addr.add_mid]
              rwa [hadd] at this
          · rcases List.mem_append.1 hz with hz | hz
            · exact g3 z hz
            · simp at hz;subst hz;exact q3
        obtain⟨ys,g1,g2,g3⟩:=key len (Nat.le_refl _);refine⟨ys,⟨some a,cap,by rw[g1],by omega,.inr ⟨a.block,a.off,by rw[<- ha],hS _ hblt,g2⟩⟩,?_,g3⟩;have:maxLen=9223372036854775807:=by decide
        rw[g1];omega
  · rename_i fs hu;simp only[Bool.and_eq_true] at h;obtain⟨xs,m,rfl,_,hl,hxl,hf⟩:=DataW.trod_struct hu hx;have h1:=Nat.eq_of_beq_eq_true h.1;have:=qm0 (S:=S) (fun t T' cs x h1 h2=>ih h1 h2) (t:=.unit) (off:=0) (cs:=cs) h.2 (by rw[hl,h1];rfl) (fun f hm=>by
      obtain⟨i,hi⟩:=List.getElem?_of_mem hm;have h5:=hf i f (by rw[<- Array.getElem?_toList];exact hi);have h6:i<xs.length:=by rw[hxl];have:=(List.getElem?_eq_some_iff.1 hi).1;simpa using this
      exact⟨xs[i],by rw[h5,List.getElem?_eq_getElem h6]⟩)
    simpa using this
  · rename_i fs a b hu;simp only[Bool.and_eq_true] at h;obtain⟨xs,m,rfl,_,hl,hxl,hf⟩:=DataW.trod_struct hu hx;have h1:=Nat.eq_of_beq_eq_true h.1;have:=qm0 (S:=S) (fun t T' cs x h1 h2=>ih h1 h2) (t:=.pair a b) (off:=0) (cs:=cs) h.2 (by rw[hl,h1,Nat.zero_add]) (fun f hm=>by
      obtain⟨i,hi⟩:=List.getElem?_of_mem hm;have h5:=hf i f (by rw[<- Array.getElem?_toList];exact hi);have h6:i<xs.length:=by rw[hxl];have:=(List.getElem?_eq_some_iff.1 hi).1;simpa using this
      exact⟨xs[i],by rw[h5,List.getElem?_eq_getElem h6]⟩)
    simpa using this
  · cases h
theorem qwK (hS:∀ b,b<w.heap.size->S b) {n:Nat} {t:Ty} {T':TypeId} (h:shpB P n t T'=true) {r:Reach} {b0:Nat} {v:Value} (hv:Value.okWide P w r b0 T' v) {d:DataW H} {ps:List MemPlace} (hd:DataW.Trod enc P w base spare held T' v d ps) :
  ∃ y:t.den,VRel w S t y v/\Wf t y:=by
 obtain⟨fuel,hf⟩:=hd;obtain⟨y,hc,hw⟩:=quL (S:=S) hS n h hf;refine⟨y,?_,hw⟩;have agg:t.isAgg=true->∃ cs,v=.agg cs:=by
  intro ht;cases n with
  | zero=>cases h
  | succ n =>
   simp only[shpB] at h;split at h<;>try (first | cases ht | cases h)
   · rename_i fs hu;unfold Value.okWide at hv;rw[hu] at hv;obtain⟨cs,e,_⟩:=hv;exact⟨cs,e⟩
   · rename_i fs a b hu;unfold Value.okWide at hv;rw[hu] at hv;obtain⟨cs,e,_⟩:=hv;exact⟨cs,e⟩
 have nagg:t.isAgg=false->∀ cs,v≠.agg cs:=by
  intro ht cs e;subst e;cases n with
  | zero=>cases h
  | succ n =>
   simp only[shpB] at h;split at h
   · rename_i hu;simp [Value.okWide,Cell.okWide,Cell.ok,hu] at hv
   · rename_i hu;simp [Value.okWide,Cell.okWide,Cell.ok,hu] at hv
   · rename_i hu;simp [Value.okWide,Cell.okWide,Cell.ok,hu] at hv
   · rename_i hu;simp [Value.okWide,Cell.okWide,Cell.ok,hu] at hv
   · cases ht
   · cases ht
   · cases h
 have one:t.isAgg=false->v.cells.toList=[v]:=by
  intro ht;have:=nagg ht;cases v<;>first | rfl | exact absurd rfl (this _)
 cases t with
 | pair a b =>
  obtain⟨cs,rfl⟩:=agg rfl;exact⟨cs.toList,by simp,hc⟩
 | unit =>
  obtain⟨cs,rfl⟩:=agg rfl;have hc:cs.toList=[]:=hc;show Value.agg cs=.agg #[];congr 1;exact Array.toList_inj.1 (by simpa using hc)
 | int k=>rw[one rfl] at hc;exact hc
 | bool=>rw[one rfl] at hc;exact hc
 | str | os _ | op _=>rw[one rfl] at hc;exact hc
 | sl e=>rw[one rfl] at hc;exact hc
def imms (ts:List Ty):List (Ty×PM):=ts.map fun t=>(t,.imm)
def shpL (P:Program) (n:Nat):List Ty->List TypeId->Bool
 | [],[]=>true
 | t::ts,T'::Ts=>shpB P n t T'&&shpL P n ts Ts
 | _,_=>false
theorem quM (hS:∀ b,b<w.heap.size->S b) {J:Con} {r:Reach} {b0 n:Nat}:∀ {ts:List Ty} {Ts:List TypeId} {vs:List Value} {ds:List (DataW H)} {p:List MemPlace} {i:Nat},shpL P n ts Ts=true ->
  DataW.TrodAll enc P w base spare held Ts vs ds p->(∀ (j:Nat) T' v,Ts[j]?=some T'->vs[j]?=some v->Value.okWide P w r b0 T' v) ->
  ∃ x:HL (fsts (imms ts)),qnP w S J (imms ts) i x vs/\WfA (imms ts) x:=by
 intro ts
 induction ts with
 | nil =>
  intro Ts vs ds p i h ht hv;cases Ts with
  | nil =>
   cases vs with
   | nil=>exact⟨(),trivial,trivial⟩
   | cons _ _=>cases ds<;>exact ht.elim
  | cons _ _=>cases h
 | cons t ts ih =>
  intro Ts vs ds p i h ht hv;cases Ts with
  | nil=>cases h
  | cons T' Ts =>
   simp only[shpL,Bool.and_eq_true] at h;cases vs with
   | nil=>cases ds<;>exact ht.elim
   | cons v vs =>
    cases ds with
    | nil=>exact ht.elim
    | cons d ds =>
     obtain⟨p1,q1,h1,h2,_⟩:=ht;obtain⟨y,hy,hw⟩:=qwK (S:=S) hS h.1 (hv 0 T' v rfl rfl) h1;obtain⟨x,hx,hwx⟩:=ih (i:=i+1) h.2 h2 (fun j T2 u a b=>hv (j+1) T2 u (by simpa using a) (by simpa using b));refine⟨(y,x),?_,hw,hwx⟩;show qnP w S J ((t,PM.imm)::imms ts) i (y,x) (v::vs);cases t<;>exact⟨hy,hx⟩
end
theorem qvv {T:Told} {P:Program} {f:FuncId} {ts:List Ty} {F:HL (fsts (imms ts))->Option Bool} {enc:Bool->HL (qha (imms ts))×HL (fsts [(Ty.bool,false)])} (hC:qam T P f ⟨imms ts,[(.bool,false)],Bool,F,enc,none⟩)
  (henc:∀ b,(enc b).2=(b,())) {x:HL (fsts (imms ts))} (hx:F x=some true) {W:World} {vs:List Value} (ha:qnP W (fun b=>b<W.heap.size) (fun _=>none) (imms ts) 0 x vs) (hG:T.G W) (hgb:∀ b∈T.gb,b<W.heap.size) :
  Calls P f vs.toArray W fun e W'=>e=.returned (.bool true)/\Calm W W'/\W.heap.size<=W'.heap.size/\∀ b,b<W.heap.size->W'.heap[b]?=W.heap[b]?:=by
 refine Calls.mono (hC.does x true hx W _ _ vs ⟨ha,fun k b o h=>(by cases h),fun k k' b o o' h=>(by cases h),fun b h=>h,hG,hgb⟩) fun e W' he=>?_
 cases e with
 | panicked c=>exact he.elim
 | outgrown=>exact he.elim
 | returned v =>
  obtain⟨S',ρ,L⟩:=he;refine⟨?_,L.calm,L.grow,fun b hb=>L.same b hb (fun k o h=>by cases h)⟩;obtain⟨us,rfl,hr⟩:=L.res;have hr:ResV W' S' ρ [(Ty.bool,false)] 0 (enc true).2 us:=hr;rw[henc] at hr
  match us,hr with
  | [],hr=>exact hr.elim
  | [u],hr =>
   have h1:[u]=[Value.bool true]:=hr.1;injection h1 with h1
   subst h1;rfl
  | _::_::_,hr=>exact hr.2.elim
end Go.Proofs.YtfoedjifcmfogaaDoor.X
namespace Go.Proofs.YtfoedjifcmfogaaDoor.X
open Go Go.ChangeShapes Go.WideShapes Go.ChangeAt Go.RowKit
set_option linter.unusedVariables false
set_option linter.unusedSimpArgs false
theorem qub {W W':World} (hc:Calm W W') (hs:∀ b,b<W.heap.size->W'.heap[b]?=W.heap[b]?) (may:MemPlace->Prop):W.keptBut W' may:=by
 refine⟨hc.os,hc.out,fun i hi=>?_⟩;rw[hs i hi];split<;>simp_all
theorem qwn {H:Type} {enc:TypeId×Value->H} {P:Program} (hl:laidOutB P=true) {W W':World} (hs:∀ b,b<W.heap.size->W'.heap[b]?=W.heap[b]?) {sp:Nat->Bool} :
  ∀ {Ts:List TypeId} {vs:List Value} {ds:List (DataW H)} {p:List MemPlace},DataW.TrodAll enc P W 0 (fun _=>true) true Ts vs ds p->(Ts.all fun T'=>P.readableRec T'&&decide (T'<P.types.size))=true ->
   (∀ x∈p,x.block<W.heap.size)->(∀ x∈p,sp x.block=true)->DataW.TrodAll enc P W' 0 sp true Ts vs ds p:=by
 intro Ts
 induction Ts with
 | nil =>
  intro vs ds p h _ _ _;cases vs<;>cases ds<;>first | exact h | exact h.elim
 | cons T' Ts ih =>
  intro vs ds p h hr hlt hsp;cases vs with
  | nil=>cases ds<;>exact h.elim
  | cons v vs =>
   cases ds with
   | nil=>exact h.elim
   | cons d ds =>
    obtain⟨p1,q1,h1,h2,rfl⟩:=h;simp only[List.all_cons,Bool.and_eq_true,decide_eq_true_eq] at hr;refine⟨p1,q1,WideElems.Trod_stays hl hr.1.1 hr.1.2 h1 (fun x hx=>?_) (fun x hx=>hsp x (List.mem_append.2 (.inl hx))),ih h2 hr.2 (fun x hx=>hlt x (List.mem_append.2 (.inr hx))) (fun x hx=>hsp x (List.mem_append.2 (.inr hx))),rfl⟩;have hx:=hlt x (List.mem_append.2 (.inl hx));cases x with
    | cell b o=>exact World.cell?_of_block (w:=W) (hs b hx)
    | map b=>exact hs b hx
theorem qxj {H:Type} {enc:TypeId×Value->H} {P:Program} (hl:laidOutB P=true) {f:Func} {s:ChangeSpec} {W W':World} {args:Array Value} {ds gs:List (DataW H)} {before:List MemPlace} {tB:TypeId}
   (hv:s.vars=[]) (hW:DataW.Whole enc P f.params.toList s.vars false W args.toList ds gs before) (hfn:s.fn H (ds++gs)={ results:=[.lit (.bool true)],args:=ds }) (hrd:(f.params.toList.all fun T'=>P.readableRec T'&&decide (T'<P.types.size))=true)
   (hres:f.resultTypes=#[tB]) (htB:P.underlying tB=some .bool) (hc:Calm W W') (hs:∀ b,b<W.heap.size->W'.heap[b]?=W.heap[b]?) :
   s.post enc P f false true false false W args (.bool true) W':=by
 have hW':=hW;obtain⟨p,q,hA,hV,rfl,hfz,hnd⟩:=hW;rw[hv] at hV;obtain⟨rfl,rfl⟩:=trodVars_none hV;have hlt:∀ x∈p,x.block<W.heap.size:=fun x hx=>hW'.lt x (List.mem_append.2 (.inl hx))
 refine post_of_same (pa:=p) (pv:=[]) hW' (fun b sp hd=>?_) (fun sp hsp=>?_) (fun sp hsp=>?_) rfl (qub hc hs _) hc.fr (ok_one hres rfl (okWide_bool_mk htB _))
 · rw [hfn, hres];exact trodAll_mk1 (shut_bool htB _)
 · rw [hfn];exact qwn hl hs hA hrd hlt (fun x hx=>hsp x (List.mem_append.2 (.inl hx)))
 · rw [hfn, hv];rfl
end Go.Proofs.YtfoedjifcmfogaaDoor.X
