/- Own work: part of the proof; the first line of each part says what it tells. -/
import Derived.Test.YtmabkjhobhbfdaaDoorLa3
import Derived.ProofKit
import Derived.Deep.Slices


namespace Go.Proofs.YtmabkjhobhbfdaaDoor.X
open Go
set_option linter.unusedVariables false
set_option linter.unusedSimpArgs false
variable {T:Told} {P:Program} {tb:Tb} {env:Env}
def exOf:Ex->Exit
 | .normal=>.normal
 | .exit n=>.exit n
 | .ret=>.ret
def qo4:(os:List (Ex×SG))->OT os->Ex->St->Prop
 | [],_,_,_=>False
 | [o],v,x,s=>x=o.1/\s=mkS o.2 v
 | o::o'::os,.inl v,x,s=>x=o.1/\s=mkS o.2 v
 | _::o'::os,.inr v,x,s=>qo4 (o'::os) v x s
def q12q (T:Told) (P:Program) (nt:Nat) (c:Code) (lc:LC):Prop :=
 ∀ (v:lc.inS.V) (t:OT lc.outs),lc.F v=some t->∀ (B:Base),B.nt=nt->∀ Q:Exit->Act->World->Prop,
  (∀ x s',qo4 lc.outs t x s'->Post T B s' (Q (exOf x)))->Post T B (mkS lc.inS v) (c.wp P Q)
def LHok (T:Told) (P:Program) (nt:Nat) (lh:LH):Code->Prop
 | .seq a b=>LHok T P nt lh a/\LHok T P nt lh b
 | .cond c a b=>match lh (qfV (.cond c a b)) with
  | some lc=>q12q T P nt (.cond c a b) lc
  | none=>LHok T P nt lh a/\LHok T P nt lh b
 | .block id b=>match lh (qfV (.block id b)) with
  | some lc=>q12q T P nt (.block id b) lc
  | none=>LHok T P nt lh b
 | .loop b=>match lh (qfV (.loop b)) with
  | some lc=>q12q T P nt (.loop b) lc
  | none=>True
 | _=>True
section
variable {R:Type}
theorem qov:∀ {os:List (Ex×SG)} {t:OT os} {K:Ex->St->Option R} {out:R},outK os t K=some out->∃ x s',K x s'=some out/\qo4 os t x s'
 | [],t,K,out,h=>by cases h
 | [o],t,K,out,h=>⟨o.1,_,h,rfl,rfl⟩
 | o::o'::os,.inl v,K,out,h=>⟨o.1,_,h,rfl,rfl⟩
 | _::o'::os,.inr v,K,out,h=>qov (os:=o'::os) h
theorem qou:∀ {os:List (Ex×SG)} {t:OT os} {x:Ex} {s':St},qo4 os t x s'->∀ {K:Ex->St->Option R},outK os t K=K x s'
 | [],t,x,s',h,K=>h.elim
 | [o],t,x,s',⟨h1,h2⟩,K=>by subst h1;subst h2;rfl
 | o::o'::os,.inl v,x,s',⟨h1,h2⟩,K=>by subst h1;subst h2;rfl
 | _::o'::os,.inr v,x,s',h,K=>qou (os:=o'::os) h
theorem qm8 {c:Code} {lh:LH} {key:Nat} {lc:LC} (hl:lh key=some lc) {B:Base} (hP:q12q T P B.nt c lc) {s:St} {K:Ex->St->Option R} {other:Option R} {out:R} {Q:Exit->Act->World->Prop}
   (h:cutC lh key s K other=some out) (hK:∀ x s',K x s'=some out->Post T B s' (Q (exOf x))):Post T B s (c.wp P Q):=by
 unfold cutC at h;rw[hl] at h;simp only at h;split at h
 · rename_i v hv;cases hF:lc.F v with
   | none=>rw[hF] at h;cases h
   | some t =>
    rw[hF] at h;simp only[Option.bind_some] at h;intro w S Z a Rl;obtain⟨S',Z',R'⟩:=qhK Rl hv;obtain⟨x,s',hk,ho⟩:=qov h;exact hP v t hF B rfl Q (fun x1 s1 h1=>hK x1 s1 (by rw[<- qou h1 (K:=K)];exact h)) w S' Z' a R'
 · cases h
theorem qqe {B:Base} {w:World} {S:Foot} {Z:Con} {s:St} {a:Act} (Rl:Rel T B w S Z s a) {c:Operand} {b:Bool} (h:s.pv c=.val .bool b):a.eval c=.bool b:=by
 have:=q14q Rl c;rw[h] at this;exact this.bool
theorem qmD (hT:TbOk P tb) (hE:qag T P env) (hm:P.follows .mixedOrders=true) {lh:LH} {B:Base}:∀ {c:Code} {R:Type} {s:St} {K:Ex->St->Option R} {out:R} {Q:Exit->Act->World->Prop},run tb env B.nt lh c s K=some out ->
  LHok T P B.nt lh c->(∀ x s',K x s'=some out->Post T B s' (Q (exOf x)))->Post T B s (c.wp P Q):=by
 intro c
 induction c with
 | skip=>intro R s K out Q h _ hK w S Z a Rl;exact wp_skip (hK .normal s h w S Z a Rl)
 | label l=>intro R s K out Q h _ hK w S Z a Rl;exact wp_label (hK .normal s h w S Z a Rl)
 | region id ops draw =>
  intro R s K out Q h _ hK;cases draw with
  | false=>exact qkh hT hE hm (draw:=false) h fun sf hs=>hK .normal sf hs
  | true=>exact qkh hT hE hm (draw:=true) h fun sf hs=>hK .normal sf hs
 | seq x y ihx ihy =>
  intro R s K out Q h hl hK w S Z a Rl;refine wp_seq (ihx h hl.1 (fun e s' he=>?_) w S Z a Rl);cases e with
  | normal=>exact ihy he hl.2 hK
  | exit n=>exact hK (.exit n) s' he
  | ret=>exact hK .ret s' he
 | cond c x y ihx ihy =>
  intro R s K out Q h hl hK w S Z a Rl;simp only[run] at h;simp only[LHok] at hl;cases hlh:lh (qfV (.cond c x y)) with
  | some lc=>rw[hlh] at hl;exact qm8 hlh hl h hK w S Z a Rl
  | none =>
   rw[hlh] at hl;simp only[cutC,hlh] at h;split at h
   · rename_i v hv;refine wp_cond (qqe Rl hv) ?_;cases v with
     | true=>exact ihx h hl.1 hK w S Z a Rl
     | false=>exact ihy h hl.2 hK w S Z a Rl
   · cases h
 | block id x ih =>
  intro R s K out Q h hl hK w S Z a Rl;simp only[run] at h;simp only[LHok] at hl;cases hlh:lh (qfV (.block id x)) with
  | some lc=>rw[hlh] at hl;exact qm8 hlh hl h hK w S Z a Rl
  | none =>
   rw[hlh] at hl;simp only[cutC,hlh] at h;refine wp_block (ih h hl (fun e s' he=>?_) w S Z a Rl);cases e with
   | normal=>exact hK .normal s' he
   | ret=>exact hK .ret s' he
   | exit j =>
     simp only at he;by_cases hj:j=id
     · subst hj;rw[Nat.beq_refl] at he;intro w' S' Z' a' R';show Exit.inBlock j Q (.exit j) a' w';simp only[Exit.inBlock,if_true];exact hK .normal s' he w' S' Z' a' R'
     · have : Nat.beq j id = false := by
        cases hb:Nat.beq j id with
        | false=>rfl
        | true=>exact absurd (Nat.eq_of_beq_eq_true hb) hj
       rw[this] at he;intro w' S' Z' a' R';show Exit.inBlock id Q (.exit j) a' w';simp only[Exit.inBlock,if_neg hj];exact hK (.exit j) s' he w' S' Z' a' R'
 | loop x ih =>
  intro R s K out Q h hl hK w S Z a Rl;simp only[run] at h;simp only[LHok] at hl;cases hlh:lh (qfV (.loop x)) with
  | some lc=>rw[hlh] at hl;exact qm8 hlh hl h hK w S Z a Rl
  | none=>simp only[cutC,hlh] at h;cases h
 | exit id=>intro R s K out Q h _ hK w S Z a Rl;exact wp_exit (hK (.exit id) s h w S Z a Rl)
 | ret=>intro R s K out Q h _ hK w S Z a Rl;exact wp_ret (hK .ret s h w S Z a Rl)
 | _=>intros;rename_i h _ _;first | (exact absurd h (by simp [run])) | (cases h)
theorem Ex.same_eq {x y:Ex} (h:x.same y=true):x=y:=by
 cases x<;>cases y<;>first | rfl | cases h | (rw[Nat.eq_of_beq_eq_true h])
theorem qlc {B:Base} {Q:Exit->Act->World->Prop}:∀ {os:List (Ex×SG)} {x:Ex} {s:St} {t:OT os},qoL os x s=some t->(∀ x s',qo4 os t x s'->Post T B s' (Q (exOf x)))->Post T B s (Q (exOf x))
 | [],x,s,t,h,hQ=>by cases h
 | [o],x,s,t,h,hQ=>by
  simp only[qoL] at h;obtain⟨h1,h⟩:=q8q h;have h1:=Ex.same_eq h1;intro w S Z a Rl;obtain⟨S',Z',R'⟩:=qhK Rl h;rw[<- h1];exact hQ o.1 _ ⟨rfl,rfl⟩ w S' Z' a R'
 | o::o'::os,x,s,t,h,hQ=>by
  simp only[qoL] at h;cases h1:o.1.same x with
  | true =>
   rw[h1] at h;simp only[cond_true] at h;have h1:=Ex.same_eq h1;split at h
   · rename_i v hv;injection h with h
     subst h;intro w S Z a Rl;obtain⟨S',Z',R'⟩:=qhK Rl hv;rw[<- h1];exact hQ o.1 _ ⟨rfl,rfl⟩ w S' Z' a R'
   · cases h
  | false =>
   rw[h1] at h;simp only[cond_false] at h;split at h
   · rename_i v hv;injection h with h
     subst h;exact qlc (os:=o'::os) hv fun x s' ho=>hQ x s' ho
   · cases h
theorem qpr {p:Nat->Prop} (h:∃ n,p n):∃ m,p m/\∀ k,p k->m<=k:=by
 obtain⟨n,hn⟩:=h
 induction n using Nat.strongRecOn with
 | _ n ih =>
  by_cases hh:∃ k,k<n/\p k
  · obtain⟨k,hk,hp⟩:=hh;exact ih k hk hp
  · exact⟨n,hn,fun k hk=>Nat.le_of_not_lt fun hlt=>hh ⟨k,hlt,hk⟩⟩
theorem q7q (hT:TbOk P tb) (hE:qag T P env) (hm:P.follows .mixedOrders=true) {lh:LH} {nt:Nat} {b:Code} (hl:LHok T P nt lh b) {inS:SG} {outs:List (Ex×SG)}
  {step:(inS.V->Option (OT outs))->inS.V->Option (OT outs)} (hs:∀ g v,q10q tb env nt lh b inS outs g v=step g v) (n:Nat):q12q T P nt (.loop b) ⟨inS,outs,lp step n⟩:=by
 intro v t hF B hB Q hQ w S Z a Rl;subst hB
 classical
 let I:Nat->Act->World->Prop:=fun n a w=>∃ v S Z,lp step n v=some t/\Rel T B w S Z (mkS inS v) a
 have hI:∃ n,I n a w:=⟨n,v,S,Z,hF,Rl⟩;refine wp_loop (fun a w=>∃ n,I n a w) (fun a w=>if h:∃ n,I n a w then Classical.choose (qpr h) else 0) hI fun a w hI=>?_
 have hf:=(Classical.choose_spec (qpr hI)).1;generalize hn:Classical.choose (qpr hI)=m at hf;obtain⟨v,S,Z,hF,Rl⟩:=hf;cases m with
 | zero=>cases hF
 | succ m =>
  simp only[lp] at hF;rw[<- hs] at hF;unfold q10q at hF;refine qmD hT hE hm hF hl (fun x s' hx=>?_) w S Z a Rl;cases x with
  | normal =>
   simp only at hx;split at hx
   · rename_i v' hv';intro w' S' Z' a' R';obtain⟨S2,Z2,R2⟩:=qhK R' hv';have hI':I m a' w':=⟨v',S2,Z2,hx,R2⟩;have hex:∃ n,I n a' w':=⟨m,hI'⟩;refine⟨hex,?_⟩;simp only[dif_pos hex,dif_pos hI,hn];exact Nat.lt_succ_of_le ((Classical.choose_spec (qpr hex)).2 m hI')
   · cases hx
  | exit j=>exact qlc (Q:=Q) (x:=.exit j) hx hQ
  | ret=>exact qlc (Q:=Q) (x:=.ret) hx hQ
end
variable {T:Told} {P:Program} {tb:Tb} {env:Env}
def ltOf (Z:Con):(ps:List (Ty×PM))->Nat->HL (fsts ps)->Nat->Option (Nat×Nat×Nat)
 | [],_,_,_=>none
 | (.sl e,.lent)::ps,i,(x,r),k=>if k=i*8 then (Z (i*8)).map fun p=>(p.1,p.2,List.length (α:=e.den) x*e.size) else ltOf Z ps (i+1) r k
 | (_,_)::ps,i,(_,r),k=>ltOf Z ps (i+1) r k
theorem qhG {Z:Con}:∀ {ps:List (Ty×PM)} {i:Nat} {x:HL (fsts ps)} {k b o n:Nat},ltOf Z ps i x k=some (b,o,n)->k∈qbK ps i/\Z k=some (b,o):=by
 intro ps
 induction ps with
 | nil=>intro i x k b o n h;cases h
 | cons p ps ih =>
  intro i x k b o n h;obtain⟨t,m⟩:=p;obtain⟨x,r⟩:=x;cases m with
  | imm=>exact ih (by cases t<;>exact h)
  | own=>exact ih (by cases t<;>exact h)
  | lent =>
   cases t with
   | sl e =>
    simp only[ltOf] at h;split at h
    · rename_i e1;subst e1;cases hb:Z (i*8) with
      | none=>rw[hb] at h;cases h
      | some p =>
       obtain⟨b',o'⟩:=p;rw[hb] at h;simp only[Option.map_some,Option.some.injEq,Prod.mk.injEq] at h;obtain⟨rfl,rfl,_⟩:=h;exact⟨List.mem_cons_self,rfl⟩
    · obtain ⟨h1, h2⟩ := ih h;exact⟨List.mem_cons_of_mem _ h1,h2⟩
   | int _=>obtain⟨h1,h2⟩:=ih h;exact⟨List.mem_cons_of_mem _ h1,h2⟩
   | bool=>obtain⟨h1,h2⟩:=ih h;exact⟨List.mem_cons_of_mem _ h1,h2⟩
   | str | os _ | op _=>obtain⟨h1,h2⟩:=ih h;exact⟨List.mem_cons_of_mem _ h1,h2⟩
   | unit=>obtain⟨h1,h2⟩:=ih h;exact⟨List.mem_cons_of_mem _ h1,h2⟩
   | pair _ _=>obtain⟨h1,h2⟩:=ih h;exact⟨List.mem_cons_of_mem _ h1,h2⟩
theorem qnt {w:World} {S:Foot} {Z:Con}:∀ {ps:List (Ty×PM)} {i:Nat} {x:HL (fsts ps)} {vs:List Value},qjS w S Z ps i x vs ->
  vs.length=ps.length /\
  (∀ n pv, get (qbp ps x i).1 n = some pv->i <= n /\ ∃ v, vs[n - i]? = some v /\ ((∃ (t : Ty) (y : t.den), pv = toPV t y /\ VRel w S t y v) \/
   (∃ (e:Ty) (y:List e.den),pv=.osl (n*8) 0 none/\get (qbp ps x i).2 (n*8)=some (.rows e y .own)/\OwnV w S (Z (n*8)) e y v) \/
   (∃ (e:Ty) (y:List e.den),pv=.osl (n*8) 0 none/\get (qbp ps x i).2 (n*8)=some (.rows e y .lent)/\qmx w S (Z (n*8)) e y v))) /\
  (∀ k ob, get (qbp ps x i).2 k = some ob->i * 8 <= k /\ ((∃ (e : Ty) (y : List e.den) (v : Value), ob = .rows e y .own /\ OwnV w S (Z k) e y v /\ k ∈ ownK ps i) \/
   (∃ (e:Ty) (y:List e.den) (v:Value),ob=.rows e y .lent/\qmx w S (Z k) e y v/\k∈qbK ps i/\ltOf Z ps i x k=(Z k).map fun p=>(p.1,p.2,y.length*e.size)))):=by
 intro ps
 induction ps with
 | nil =>
  intro i x vs h;cases vs with
  | nil=>exact⟨rfl,fun n pv h=>by simp [qbp,get] at h,fun k ob h=>by simp [qbp,get] at h⟩
  | cons _ _=>exact h.elim
 | cons p ps ih =>
  intro i x vs h;obtain⟨t,m⟩:=p;obtain⟨x,r⟩:=x;cases vs with
  | nil=>exfalso;cases t<;>cases m<;>exact h
  | cons v vs =>
   have sh:∀ {n:Nat},i+1<=n->(v::vs)[n-i]?=vs[n-(i+1)]?:=fun {n} hn=>by
    rw[show n-i=(n-(i+1))+1 by omega,List.getElem?_cons_succ]
   cases m with
   | imm =>
    have h:VRel w S t x v/\qjS w S Z ps (i+1) r vs:=by cases t<;>exact h
    have e1:(qbp ((t,PM.imm)::ps) (x,r) i)=((i,toPV t x)::(qbp ps r (i+1)).1,(qbp ps r (i+1)).2):=by cases t<;>rfl
    have e2:ltOf Z ((t,PM.imm)::ps) i (x,r)=ltOf Z ps (i+1) r:=by cases t<;>rfl
    obtain⟨a1,a2,a3⟩:=ih h.2;rw[e1,e2];refine⟨by simp [a1],fun n pv hn=>?_,fun k ob hk=>?_⟩
    · rw [q6q] at hn;split at hn
      · rename_i e; subst e; injection hn with hn; subst hn
        exact⟨Nat.le_refl _,v,by simp,.inl ⟨t,x,rfl,h.1⟩⟩
      · obtain ⟨b1, u, b2, b3⟩ := a2 n pv hn;exact⟨by omega,u,by rw[sh b1];exact b2,b3⟩
    · obtain ⟨b1, b2⟩ := a3 k ob hk;exact⟨by omega,b2⟩
   | own =>
    cases t with
    | sl e =>
      obtain⟨h1,h⟩:=h;obtain⟨a1,a2,a3⟩:=ih h;refine⟨by simp [a1],fun n pv hn=>?_,fun k ob hk=>?_⟩
      · simp only [qbp, q6q] at hn ⊢;split at hn
        · rename_i e; subst e; injection hn with hn; subst hn
          exact⟨Nat.le_refl _,v,by simp,.inr (.inl ⟨_,x,rfl,by simp,h1⟩)⟩
        · obtain ⟨b1, u, b2, b3⟩ := a2 n pv hn;exact⟨by omega,u,by rw[sh b1];exact b2,by rw[if_neg (by omega)];exact b3⟩
      · simp only [qbp, q6q] at hk;split at hk
        · rename_i e; subst e; injection hk with hk; subst hk
          exact⟨Nat.le_refl _,.inl ⟨_,x,v,rfl,h1,List.mem_cons_self⟩⟩
        · obtain ⟨b1, b2⟩ := a3 k ob hk;exact⟨by omega,b2.imp (fun⟨e,y,u,c1,c2,c3⟩=>⟨e,y,u,c1,c2,List.mem_cons_of_mem _ c3⟩) id⟩
    | int _=>exact h.elim
    | bool=>exact h.elim
    | str | os _ | op _=>exact h.elim
    | unit=>exact h.elim
    | pair _ _=>exact h.elim
   | lent =>
    cases t with
    | sl e =>
      obtain⟨h1,h⟩:=h;obtain⟨a1,a2,a3⟩:=ih h;refine⟨by simp [a1],fun n pv hn=>?_,fun k ob hk=>?_⟩
      · simp only [qbp, q6q] at hn ⊢;split at hn
        · rename_i e; subst e; injection hn with hn; subst hn
          exact⟨Nat.le_refl _,v,by simp,.inr (.inr ⟨_,x,rfl,by simp,h1⟩)⟩
        · obtain ⟨b1, u, b2, b3⟩ := a2 n pv hn;exact⟨by omega,u,by rw[sh b1];exact b2,by rw[if_neg (by omega)];exact b3⟩
      · simp only [qbp, q6q] at hk;split at hk
        · rename_i e; subst e; injection hk with hk; subst hk
          exact⟨Nat.le_refl _,.inr ⟨_,x,v,rfl,h1,List.mem_cons_self,by simp [ltOf]⟩⟩
        · obtain ⟨b1, b2⟩ := a3 k ob hk;exact⟨by omega,b2.imp id fun⟨e,y,u,c1,c2,c3,c4⟩=>⟨e,y,u,c1,c2,List.mem_cons_of_mem _ c3,by simp only[ltOf,if_neg (show ¬ k=i*8 by omega)];exact c4⟩⟩
    | int _=>exact h.elim
    | bool=>exact h.elim
    | str | os _ | op _=>exact h.elim
    | unit=>exact h.elim
    | pair _ _=>exact h.elim
def qjQ (nt:Nat) (w:World) (S:Foot) (Z:Con) (ps:List (Ty×PM)) (x:HL (fsts ps)):Base:=⟨nt,w,S,fun b=>∃ k o,Z k=some (b,o),ltOf Z ps 0 x,[]⟩
theorem qkq:∀ {ps:List (Ty×PM)} {x:HL (fsts ps)} {i:Nat},qid ps=true->∀ k t xs,get (qbp ps x i).2 k=some (.rows t xs .own)->t.flat=true:=by
 intro ps
 induction ps with
 | nil=>intro x i _ k t xs h;simp [qbp,get] at h
 | cons p ps ih =>
  intro x i hf k t xs h;obtain⟨t0,m0⟩:=p;obtain⟨x,r⟩:=x;have skip:get (qbp ps r (i+1)).2 k=some (.rows t xs .own)->qid ps=true->t.flat=true:=fun h hf=>ih hf k t xs h
  cases t0 with
  | sl e =>
   cases m0 with
   | imm=>exact skip h hf
   | own =>
    simp only[qid,Bool.and_eq_true] at hf;simp only[qbp] at h;rw[q6q] at h;split at h
    · injection h with h;injection h with h;subst h;exact hf.1
    · exact skip h hf.2
   | lent =>
    simp only[qid,Bool.and_eq_true] at hf;simp only[qbp] at h;rw[q6q] at h;split at h
    · injection h with h;injection h with _ _ h;cases h
    · exact skip h hf.2
  | int _=>cases m0<;>exact skip h hf
  | bool=>cases m0<;>exact skip h hf
  | str=>cases m0<;>exact skip h hf
  | unit=>cases m0<;>exact skip h hf
  | pair _ _=>cases m0<;>exact skip h hf
  | os _=>cases m0<;>exact skip h hf
  | op _=>cases m0<;>exact skip h hf
theorem qnl {w:World} {S:Foot} {Z:Con} {ps:List (Ty×PM)} {x:HL (fsts ps)} {vs:List Value} (E:qo7 T w S Z ps x vs) {nt:Nat} (hnt:ps.length<=nt) (hfl:qid ps=true) :
   Rel T (qjQ nt w S Z ps x) w S Z ⟨(qbp ps x 0).1,(qbp ps x 0).2⟩ { tmps:=vs.toArray++Array.replicate (nt-vs.toArray.size) undef,defers:=[] }:=by
 obtain⟨h1,h2,h3⟩:=qnt E.args;have hS:∀ {b k o},Z k=some (b,o)->∀ {e:Ty} {y:List e.den} {v:Value},OwnV w S (Z k) e y v\/qmx w S (Z k) e y v->¬ S b:=by
   intro b k o hb e y v h;rw[hb] at h;rcases h with h | h
   · exact h.2.1
   · exact h.1
 refine⟨rfl,?_,fun n pv hn=>?_,fun k ob hk=>?_,?_,E.Slt,fun b h=>h,fun b h=>.inl h,fun b _ _=>rfl,Nat.le_refl _,fun k b o n hL=>?_,fun k t xs hk=>?_,E.told,E.toldS,fun k k' b o n o' n' hL hL'=>?_,fun k ob b o hk hl hnl hb k' o' n hL=>?_,Calm.refl w,fun k l hk=>?_,Deep.none fun k t xs hk=>qkq hfl k t xs hk,by simp [qjQ]⟩
 · simp [qjQ];omega
 · obtain ⟨_, v, hv, hr⟩ := h2 n pv hn;have hlt:=(List.getElem?_eq_some_iff.1 hv).1;simp only[Nat.sub_zero] at hv hlt;refine⟨v,by rw[Array.getElem?_append_left (by simpa using hlt)];simpa using hv,?_⟩;rcases hr with ⟨t,y,rfl,hy⟩ | ⟨e,y,rfl,hg,ho⟩ | ⟨e,y,rfl,hg,ho⟩
   · exact hy.up
   · have : qab w S Z (get (qbp ps x 0).2) (.osl (n * 8) 0 none) v := by
      simp only[qab,hg];refine⟨by simp [qdX],?_⟩;simp only[OwnV] at ho;simp only[OslV];cases hb:Z (n*8) with
      | none=>rw[hb] at ho;obtain⟨rfl,rfl⟩:=ho;simp [wlen]
      | some p =>
       obtain⟨b,o⟩:=p;rw[hb] at ho;obtain⟨rfl,_,x0,cap,c,rfl,q1,q2,q3,q4,_⟩:=ho;exact⟨x0,cap,by simp [wlen],by simpa [wlen] using q1,by simpa using q2,fun _=>⟨c,q3,by simpa using q4⟩⟩
     exact this.up
   · have : qab w S Z (get (qbp ps x 0).2) (.osl (n * 8) 0 none) v := by
      simp only[qab,hg];refine⟨by simp [qdX],?_⟩;simp only[qmx] at ho;simp only[OslV];cases hb:Z (n*8) with
      | none=>rw[hb] at ho;obtain⟨rfl,rfl⟩:=ho;simp [wlen]
      | some p =>
       obtain⟨b,o⟩:=p;rw[hb] at ho;obtain⟨_,x0,cap,c,rfl,q1,q2,q3,q4,_⟩:=ho;exact⟨x0,cap,by simp [wlen],by simpa [wlen] using q1,by simpa using q2,by simp⟩
     exact this.up
 · obtain ⟨_, h⟩ := h3 k ob hk;rcases h with ⟨e,y,v,rfl,ho,_⟩ | ⟨e,y,v,rfl,ho,_⟩
   · simp only [ORel];cases hb:Z k with
     | none=>rw[hb] at ho;exact ho.1
     | some p =>
      obtain⟨b,o⟩:=p;rw[hb] at ho;obtain⟨rfl,q0,x0,cap,c,rfl,q1,q2,q3,q4,q5⟩:=ho;have hm:=Nat.mul_le_mul_right e.size q1;exact⟨⟨c,q3,by omega⟩,q5,by simp,fun _=>⟨q0,.inr ⟨k,0,hb⟩⟩,fun _=>rfl⟩
   · simp only [ORel];cases hb:Z k with
     | none=>rw[hb] at ho;exact ho.1
     | some p =>
      obtain⟨b,o⟩:=p;rw[hb] at ho;obtain⟨q0,x0,cap,c,rfl,q1,q2,q3,q4,q5⟩:=ho;exact⟨⟨c,q3,q4⟩,q5,by simp,fun _=>⟨q0,.inr ⟨k,o,hb⟩⟩,by simp⟩
 · intro k k' ob ob' b o o' _ _ _ _ hb hb';exact E.inj k k' b o o' hb hb'
 · have hL : ltOf Z ps 0 x k = some (b, o, n) := hL;obtain⟨hk,hb⟩:=qhG hL;have:∃ c,Blk w b c:=by
     have:∀ {ps:List (Ty×PM)} {i:Nat} {x:HL (fsts ps)} {vs:List Value},qjS w S Z ps i x vs->k∈qbK ps i->∃ (e:Ty) (y:List e.den) (v:Value),qmx w S (Z k) e y v:=by
      intro ps
      induction ps with
      | nil=>intro i x vs h hk;simp [qbK] at hk
      | cons p ps ih =>
       intro i x vs h hk;obtain⟨t,m⟩:=p;obtain⟨x,r⟩:=x;cases vs with
       | nil=>exfalso;cases t<;>cases m<;>exact h
       | cons v vs =>
        cases m with
        | imm=>exact ih (vs:=vs) (by cases t<;>exact h.2) hk
        | own=>exact ih (vs:=vs) (by cases t<;>first | exact h.2 | exact h.elim) hk
        | lent =>
         cases t with
         | sl e =>
          rcases List.mem_cons.1 hk with rfl | hk
          · exact⟨e,x,v,h.1⟩
          · exact ih h.2 hk
         | int _=>exact h.elim
         | bool=>exact h.elim
         | str | os _ | op _=>exact h.elim
         | unit=>exact h.elim
         | pair _ _=>exact h.elim
     obtain⟨e,y,v,hv⟩:=this E.args hk;rw[hb] at hv;obtain⟨_,_,_,c,_,_,_,hc,_⟩:=hv;exact⟨c,hc⟩
   obtain⟨c,hc⟩:=this;exact⟨c,c,hc,hc,rfl,fun _ _=>rfl⟩
 · obtain ⟨_, h⟩ := h3 k _ hk;rcases h with ⟨e,y,v,h0,_⟩ | ⟨e,y,v,h0,ho,hkl,hlt⟩
   · cases h0
   · injection h0 with e1 e2 _
     subst e1;have e2:=eq_of_heq e2;subst e2;cases hb:Z k with
     | none=>exact .inl ⟨rfl,by show ltOf Z ps 0 x k=none;rw[hlt,hb];rfl⟩
     | some p=>obtain⟨b,o⟩:=p;exact .inr ⟨b,o,by show ltOf Z ps 0 x k=_;rw[hlt,hb];rfl,rfl⟩
 · exact E.inj k k' b o o' (qhG hL).2 (qhG hL').2
 · obtain ⟨hk1, hb1⟩ := qhG hL;have:=E.inj k k' b o o' hb hb1;subst this;obtain⟨_,h⟩:=h3 k ob hk;rcases h with ⟨e,y,v,_,_,hko⟩ | ⟨e,y,v,rfl,_⟩
   · exact qe9 hko hk1
   · exact hnl _ _ rfl
 · obtain ⟨_, h⟩ := h3 k _ hk;rcases h with ⟨_,_,_,h,_⟩ | ⟨_,_,_,h,_⟩<;>cases h
variable {T:Told} {P:Program} {tb:Tb} {env:Env}
def qeB:List (Ty×Bool)->List PV->List Nat
 | (_,false)::rs,v::vs=>qad v.cells++qeB rs vs
 | (_,true)::rs,_::vs=>qeB rs vs
 | _,_=>[]
def qbi:List (Ty×Bool)->List PV->Nat->List (Nat×(Nat×Nat))
 | (_,true)::rs,.osl k _ _::vs,j=>(j,(k,0))::qbi rs vs (j+1)
 | (_,true)::rs,_::vs,j=>qbi rs vs (j+1)
 | (_,false)::rs,_::vs,j=>qbi rs vs j
 | _,_,_=>[]
theorem qnk:∀ {rs:List (Ty×Bool)} {vs:List PV} {j n:Nat} {p:Nat×Nat},get (qbi rs vs j) n=some p->j<=n:=by
 intro rs
 induction rs with
 | nil=>intro vs j n p h;cases vs<;>simp [qbi,get] at h
 | cons r rs ih =>
  intro vs j n p h;obtain⟨t,m⟩:=r;cases vs with
  | nil=>cases m<;>simp [qbi,get] at h
  | cons v vs =>
   have tl:get (qbi rs vs (j+1)) n=some p->j<=n:=fun h=>by have:=ih h;omega
   have hd:∀ q,get ((j,q)::qbi rs vs (j+1)) n=some p->j<=n:=by
    intro q h;rw[q6q] at h;split at h
    · omega
    · exact tl h
   cases m with
   | false=>cases v<;>exact ih h
   | true=>cases v<;>first | exact tl h | exact hd _ h
theorem qmg {B:Base} {w:World} {S S2:Foot} {Z:Con} {s:St} {a:Act} (Rl:Rel T B w S Z s a) (hS2:∀ b,S b->S2 b) {K:List Nat}
  (hdec:∀ (pvs:List PV) (vs:List Value) (t:Ty) (x:t.den),(∀ k∈qad pvs,k∈K)->All2 (qab w S Z (get s.h)) pvs vs->decA (get s.h) t pvs=some x->Cell w S2 t x vs) {J:Con} :
  ∀ {rs:List (Ty×Bool)} {vs:List PV} {us:List Value} {used used':List Nat} {y:HL (fsts rs)} {j:Nat},qai (get s.h) rs vs used=some (y,used')->All2 (TRel w S Z (get s.h)) vs us->(∀ k∈qeB rs vs,k∈K) ->
   (useK (qbi rs vs j)).Nodup/\(∀ k∈useK (qbi rs vs j),k ∉ used/\k ∉ qeB rs vs)/\(∀ k∈qeB rs vs,k ∉ used)/\(∀ n k o,(n,(k,o))∈qbi rs vs j->∃ t xs,get s.h k=some (.rows t xs .own)) /\
   ((∀ n k o,(n,(k,o))∈qbi rs vs j->∀ b o',Z k=some (b,o')->¬ S2 b)->(∀ n,j<=n->J n=qbe Z (qbi rs vs j) n)->ResV w S2 J rs j y us):=by
 intro rs
 induction rs with
 | nil =>
  intro vs us used used' y j h hl hK;cases vs with
  | nil =>
   cases us with
   | nil=>exact⟨List.nodup_nil,by simp [qbi,useK],by simp [qeB],by simp [qbi],fun _ _=>trivial⟩
   | cons _ _=>exact hl.elim
  | cons _ _=>simp [qai] at h
 | cons r rs ih =>
  intro vs us used used' y j h hl hK;obtain⟨t,m⟩:=r;cases vs with
  | nil=>cases t<;>cases m<;>simp [qai] at h
  | cons v vs =>
   cases us with
   | nil=>exact hl.elim
   | cons u us =>
   obtain⟨hu,hl⟩:=hl;cases m with
   | false =>
    have h:(bif anyN (qad v.cells) used || !fits t v then none else
        (match decA (get s.h) t v.cells with
        | some x=>(match qai (get s.h) rs vs (qad v.cells++used) with | some (r,u)=>some ((x,r),u) | none=>none)
        | none=>none):Option (HL (fsts ((t,false)::rs))×List Nat))=some (y,used'):=by cases t<;>exact h
    obtain⟨h0,h⟩:=qaz h;simp only[Bool.or_eq_false_iff,Bool.not_eq_false'] at h0;split at h
    · rename_i x hx;split at h
      · rename_i r u' hr;injection h with h
        injection h with h1 h2
        subst h1;have e1:qbi ((t,false)::rs) (v::vs) j=qbi rs vs j:=by cases v<;>rfl
        have e2:qeB ((t,false)::rs) (v::vs)=qad v.cells++qeB rs vs:=rfl;rw[e2] at hK ⊢;rw[e1];obtain⟨a1,a2,a3,a4,a5⟩:=ih (j:=j) hr hl (fun k hk=>hK k (List.mem_append.2 (.inr hk)));have g1:=qcm.1 h0.1;refine⟨a1,fun k hk=>?_,fun k hk=>?_,a4,fun hq hρ=>?_⟩
        · obtain ⟨b1, b2⟩ := a2 k hk;simp only[List.mem_append,not_or] at b1 ⊢;exact⟨b1.2,b1.1,b2⟩
        · rcases List.mem_append.1 hk with hk | hk
          · exact g1 k hk
          · exact fun h=>a3 k hk (List.mem_append.2 (.inr h))
        · have hv : VRel w S2 t x u := qnd hx h0.2 hu fun vs hvs => hdec _ vs t x (fun k hk => hK k (List.mem_append.2 (.inl hk))) hvs hx
          have ht:=a5 hq (fun n hn=>hρ n (by omega));cases t<;>exact⟨hv,ht⟩
      · cases h
    · cases h
   | true =>
    cases t with
    | sl e =>
      cases v with
      | nil =>
        simp only[qai] at h;split at h
        · rename_i r u' hr;injection h with h
          injection h with h1 h2
          subst h1;obtain⟨a1,a2,a3,a4,a5⟩:=ih (j:=j+1) hr hl hK;refine⟨a1,a2,a3,a4,fun hq hρ=>⟨?_,a5 hq (fun n hn=>hρ n (by omega))⟩⟩;have e0:J j=none:=by
            rw[hρ j (Nat.le_refl _)];show qbe Z (qbi rs vs (j+1)) j=none;unfold qbe;cases hg:get (qbi rs vs (j+1)) j with
            | none=>rfl
            | some p=>have:=qnk hg;omega
          simp only[OwnV,e0];exact⟨trivial,hu⟩
        · cases h
      | osl k off len =>
        cases off with
        | succ off=>simp [qai] at h
        | zero =>
          simp only[qai] at h;obtain⟨h0,h⟩:=qaz h;have h0:=qbd.1 h0;split at h
          · rename_i t' xs hk;split at h
            · rename_i ys hys;obtain⟨rfl,rfl⟩:=qbE hys;split at h
              · rename_i r u' hr;injection h with h
                injection h with h1 h2
                subst h1;obtain⟨a1,a2,a3,a4,a5⟩:=ih (j:=j+1) hr hl hK;simp only[qbi,qeB,useK,List.map_cons,List.nodup_cons,List.mem_cons] at a1 a2 a3 a4 a5 ⊢;refine⟨⟨fun h=>(a2 k h).1 (.inl rfl),a1⟩,fun k' hk'=>?_,fun k' hk' h=>a3 k' hk' (.inr h),?_,fun hq hρ=>⟨?_,a5 (fun n k o hm=>hq n k o (.inr hm)) (fun n hn=>?_)⟩⟩
                · rcases hk' with rfl | hk'
                  · exact⟨h0,fun h=>a3 _ h (.inl rfl)⟩
                  · exact⟨fun h=>(a2 k' hk').1 (.inr h),(a2 k' hk').2⟩
                · rintro n k' o (hm | hm)
                  · injection hm with _ hm;injection hm with hm _;subst hm;exact⟨_,_,hk⟩
                  · exact a4 n k' o hm
                · obtain ⟨hwin, h2⟩ := qca Rl hk hu;have hlen:=qaD hwin;have e0:J j=(Z k).map fun p=>(p.1,p.2+0):=by
                    rw[hρ j (Nat.le_refl _)];simp [qbe,q6q]
                  rcases h2 with ⟨hb,_,h3,rfl⟩ | ⟨b,o,x0,cap,hb,rfl,hcap,hx,hown⟩
                  · simp only [OwnV, e0, hb, Option.map_none];exact⟨List.eq_nil_of_length_eq_zero (by rw[hlen,h3]),trivial⟩
                  · have hor := Rl.obs k _ hk;simp only[ORel,hb] at hor;obtain⟨⟨c,hc,hcsz⟩,hrow,_,_,ho0⟩:=hor;obtain rfl:=ho0 trivial;obtain⟨c2,hc2,hcapsz⟩:=hown rfl;simp only[OwnV,e0,hb,Option.map_some];refine⟨trivial,hq j k 0 (.inl rfl) b 0 hb,x0,cap,c2,by rw[hlen],by rw[hlen];exact hcap,by simpa using hx,hc2,by simpa using hcapsz,fun i z hz=>?_⟩;obtain⟨ds,d1,d2⟩:=hrow i z (by have:=qfo hz;rwa [Nat.zero_add] at this)
                    exact⟨ds,d1.mono hS2 (fun _ _=>rfl),d2⟩
                · rw [hρ n (by omega)];simp only[qbe,q6q,if_neg (show ¬ j=n by omega)]
              · cases h
            · cases h
          · cases h
      | junk=>simp [qai] at h
      | val _ _=>simp [qai] at h
      | ptr _ _ _=>simp [qai] at h
      | iptr _ _ _=>simp [qai] at h
      | nilp=>simp [qai] at h
      | vw _ _=>simp [qai] at h
      | vp _ _ _ _=>simp [qai] at h
      | fx _=>simp [qai] at h
      | agg _=>simp [qai] at h
      | tup _=>simp [qai] at h
      | clo _ _=>simp [qai] at h
    | int _=>simp [qai] at h
    | bool=>simp [qai] at h
    | str | os _ | op _=>simp [qai] at h
    | unit=>simp [qai] at h
    | pair _ _=>simp [qai] at h
theorem qpy {h:Hp}:∀ {rs:List (Ty×Bool)} {vs:List PV} {used used':List Nat} {y:HL (fsts rs)},qai h rs vs used=some (y,used')->∀ (j n:Nat) (e:Ty) (xs:List e.den),resG rs j y n=some (.rows e xs .own) ->
  (∃ k len zs,get (qbi rs vs j) n=some (k,0)/\h k=some (.rows e zs .own)/\xs=win zs 0 len)\/(xs=[]/\get (qbi rs vs j) n=none):=by
 intro rs
 induction rs with
 | nil=>intro vs used used' y _ j n e xs hg;simp [resG] at hg
 | cons r rs ih =>
  intro vs used used' y hh j n e xs hg;obtain⟨t,m⟩:=r;cases vs with
  | nil=>cases t<;>cases m<;>simp [qai] at hh
  | cons v vs =>
   cases m with
   | false =>
    have hh:(bif anyN (qad v.cells) used || !fits t v then none else
        (match decA h t v.cells with
        | some x=>(match qai h rs vs (qad v.cells++used) with | some (r,u)=>some ((x,r),u) | none=>none)
        | none=>none):Option (HL (fsts ((t,false)::rs))×List Nat))=some (y,used'):=by cases t<;>exact hh
    obtain⟨_,hh⟩:=qaz hh;split at hh
    · split at hh
      · rename_i r u' hr;injection hh with hh
        injection hh with h1 _
        subst h1;have e1:qbi ((t,false)::rs) (v::vs) j=qbi rs vs j:=by cases v<;>rfl
        rw[e1];refine ih hr j n e xs ?_;cases t<;>exact hg
      · cases hh
    · cases hh
   | true =>
    cases t with
    | sl e0 =>
      cases v with
      | nil =>
        simp only[qai] at hh;split at hh
        · rename_i r u' hr;injection hh with hh
          injection hh with h1 _
          subst h1;simp only[resG] at hg;split at hg
          · rename_i e1;injection hg with hg
            injection hg with g1 g2 _
            subst g1;have g2:=eq_of_heq g2;refine .inr ⟨g2.symm,?_⟩;show get (qbi rs vs (j+1)) n=none;cases hq:get (qbi rs vs (j+1)) n with
            | none=>rfl
            | some p=>have:=qnk hq;omega
          · exact ih hr (j+1) n e xs hg
        · cases hh
      | osl k off len =>
        cases off with
        | succ off=>simp [qai] at hh
        | zero =>
          simp only[qai] at hh;obtain⟨_,hh⟩:=qaz hh;split at hh
          · rename_i t' zs hk;split at hh
            · rename_i ys hys;obtain⟨rfl,rfl⟩:=qbE hys;split at hh
              · rename_i r u' hr;injection hh with hh
                injection hh with h1 _
                subst h1;simp only[resG] at hg;simp only[qbi,q6q];split at hg
                · rename_i e1;injection hg with hg
                  injection hg with g1 g2 _
                  subst g1;have g2:=eq_of_heq g2;exact .inl ⟨k,len,_,by rw[if_pos e1.symm],hk,g2.symm⟩
                · rename_i e1;rw[if_neg (Ne.symm e1)];exact ih hr (j+1) n e xs hg
              · cases hh
            · cases hh
          · cases hh
      | _=>simp [qai] at hh
    | _=>simp [qai] at hh
theorem qnu:∀ {ps:List (Ty×PM)} {i:Nat},immP ps=true->ownK ps i=[]/\qbK ps i=[]:=by
 intro ps
 induction ps with
 | nil=>intro i _;exact⟨rfl,rfl⟩
 | cons p ps ih =>
  intro i h;obtain⟨t,m⟩:=p;cases m with
  | imm=>exact ih h
  | own=>cases h
  | lent=>cases h
theorem qny {B:Base} {w:World} {S S2:Foot} {Z:Con} {s:St} {a:Act} (Rl:Rel T B w S Z s a) (hS2:∀ b,S b->S2 b) {rs:List (Ty×Bool)} {vs:List PV}
   (hS2n:∀ b,S2 b->S b\/∃ k∈qeB rs vs,∃ ob o,get s.h k=some ob/\ob≠.gone/\Z k=some (b,o)) (hMo:∀ b,B.Mo b->B.w0.heap.size<=b)
   {used used':List Nat} {y:HL (fsts rs)} (h:qai (get s.h) rs vs used=some (y,used')) (hnd:(useK (qbi rs vs 0)).Nodup)
   (hown:∀ n k o,(n,(k,o))∈qbi rs vs 0->∃ t xs,get s.h k=some (.rows t xs .own)):qpO w S2 B.w0.heap.size (qbe Z (qbi rs vs 0)) (resG rs 0 y):=by
 obtain⟨Y,D⟩:=Rl.deep;have hφ:∀ j b,b∈(match get (qbi rs vs 0) j with | some p=>Y p.1 | none=>[])->∃ k off,get (qbi rs vs 0) j=some (k,off)/\b∈Y k:=fun j b hb=>by
   cases hq:get (qbi rs vs 0) j with
   | none=>rw[hq] at hb;simp at hb
   | some p=>rw[hq] at hb;exact⟨p.1,p.2,rfl,hb⟩
 refine⟨fun j=>match get (qbi rs vs 0) j with | some p=>Y p.1 | none=>[],fun j e xs b o hg hρ=>?_,fun j b hb=>?_,fun j j' b h1 h2=>?_⟩
 · rcases qpy h 0 j e xs hg with ⟨k, len, zs, g1, g2, rfl⟩ | ⟨rfl, _⟩
   · simp only [g1];unfold qbe at hρ;rw[g1] at hρ;simp only at hρ;cases hb:Z k with
     | none=>rw[hb] at hρ;cases hρ
     | some p =>
       obtain⟨b1,o1⟩:=p;rw[hb] at hρ;simp only[Option.map_some,Option.some.injEq,Prod.mk.injEq] at hρ;obtain⟨rfl,_⟩:=hρ;exact((D.row k e zs _ o1 g2 hb).win len).mono hS2 (fun _ _=>rfl) (fun _ _=>rfl) rfl
   · exact DRow.nil
 · obtain ⟨k, off, g1, hb⟩ := hφ j b hb;obtain⟨a1,a2,a3,a4,a5⟩:=D.off k b hb;refine⟨fun hS=>?_,hMo b a2,a3,fun j' o hc=>?_⟩
   · rcases hS2n b hS with h | ⟨k', _, ob, o, q1, q2, q3⟩
     · exact a1 h
     · cases hl : ob.live with
       | true=>exact a4 k' ob o q1 hl q3
       | false =>
        cases ob with
        | gone=>exact q2 rfl
        | box l=>cases hl
        | rows t xs m =>
         cases m with
         | frz=>exact a1 (Rl.frzS q1 q3)
         | own=>cases hl
         | lent=>cases hl
   · unfold qbe at hc;split at hc
     · rename_i k' off' hg;cases hb':Z k' with
       | none=>rw[hb'] at hc;cases hc
       | some p =>
        obtain⟨b1,o1⟩:=p;rw[hb'] at hc;simp only[Option.map_some,Option.some.injEq,Prod.mk.injEq] at hc;obtain⟨rfl,_⟩:=hc;obtain⟨t,xs,h3⟩:=hown _ _ _ (qan hg);exact a4 k' _ o1 h3 rfl hb'
     · cases hc
 · obtain ⟨k, off, g1, hb⟩ := hφ j b h1;obtain⟨k',off',g1',hb'⟩:=hφ j' b h2;have:=D.one k k' b hb hb';subst this;exact qgf hnd g1 g1'
theorem qjJ {h:Hp} {w w':World} {S2:Foot} {Z:Con}:∀ {ps:List (Ty×PM)} {i:Nat} {x:HL (fsts ps)} {ls:HL (qeK ps)},qd4 ps i x h=some ls ->
  (∀ k∈qbK ps i,∀ (e:Ty) (x0 ys:List e.den),h k=some (.rows e ys .lent)->ys.length=x0.length->(∀ p,Z k=some p->ltOf Z ps i x k=some (p.1,p.2,x0.length*e.size))->qqA w w' S2 (Z k) e x0 ys)->qhQ w w' S2 Z ps i x ls/\∀ k∈qbK ps i,(∃ (e:Ty) (ys:List e.den),h k=some (.rows e ys .lent))/\∀ p,Z k=some p->∃ n,ltOf Z ps i x k=some (p.1,p.2,n):=by
 intro ps
 induction ps with
 | nil=>intro i x ls h1 _;exact⟨trivial,by simp [qbK]⟩
 | cons p ps ih =>
  intro i x ls h1 h2;obtain⟨t,m⟩:=p;obtain⟨x,r⟩:=x;cases m with
  | imm =>
   have h1:qd4 ps (i+1) r h=some ls:=by cases t<;>exact h1
   have e2:ltOf Z ((t,PM.imm)::ps) i (x,r)=ltOf Z ps (i+1) r:=by cases t<;>rfl
   rw[e2] at h2;obtain⟨a1,a2⟩:=ih h1 h2;exact⟨by cases t<;>exact a1,by rw[e2];exact a2⟩
  | own =>
   have h1:qd4 ps (i+1) r h=some ls:=by cases t<;>exact h1
   have e2:ltOf Z ((t,PM.own)::ps) i (x,r)=ltOf Z ps (i+1) r:=by cases t<;>rfl
   rw[e2] at h2;obtain⟨a1,a2⟩:=ih h1 h2;exact⟨by cases t<;>exact a1,by rw[e2];exact a2⟩
  | lent =>
   cases t with
   | sl e =>
    simp only[qd4] at h1;split at h1
    · rename_i t' ys hk;split at h1
      · rename_i y hy;obtain⟨rfl,rfl⟩:=qbE hy;obtain⟨hlen,h1⟩:=q8q h1;have hlen:=Nat.eq_of_beq_eq_true hlen;split at h1
        · rename_i q hq;injection h1 with h1
          subst h1;obtain⟨a1,a2⟩:=ih hq (fun k hk e x0 ys g1 g2 g3=>h2 k (List.mem_cons_of_mem _ hk) e x0 ys g1 g2 fun p hp=>by
            have:=qhH hk;simp only[ltOf,if_neg (show ¬ k=i*8 by omega)];exact g3 p hp)
          refine⟨⟨h2 (i*8) List.mem_cons_self _ x _ hk hlen (fun p hp=>by simp [ltOf,hp]),a1⟩,fun k hk'=>?_⟩;rcases List.mem_cons.1 hk' with rfl | hk'
          · exact⟨⟨_,_,hk⟩,fun p hp=>⟨_,by simp [ltOf,hp];rfl⟩⟩
          · have := qhH hk';simp only[ltOf,if_neg (show ¬ k=i*8 by omega)];exact a2 k hk'
        · cases h1
      · cases h1
    · cases h1
   | int _=>cases h1
   | bool=>cases h1
   | str | os _ | op _=>cases h1
   | unit=>cases h1
   | pair _ _=>cases h1
def resF (tmps:Array Value):ResultVar->Sem Value
 | .tmp t=>pure (tmps.getD t undef)
 | .cell a t=>do loadVar t (<- asAddr (tmps.getD a undef))
theorem qnK (fn:Func) (tmps:Array Value):results fn tmps=(do let vs <- fn.results.mapM (resF tmps);pure (if h:vs.size=1 then vs[0] else .tuple vs)):=by
 unfold results;congr 1
theorem qnL {s:St} {x:Tmp} {T':TypeId} (h:qhZ tb s (.cell x T')≠.junk):∃ t fs q k l,get tb T'=some (.stc t fs q)/\get s.e x=some (.ptr k 0 0)/\get s.h k=some (.box l)/\l.length=t.size/\qhZ tb s (.cell x T')=.agg l:=by
 simp only[qhZ] at h ⊢;cases hg:get tb T' with
 | none=>rw[hg] at h;exact absurd rfl h
 | some te =>
  cases te with
  | sc t=>rw[hg] at h;exact absurd rfl h
  | slc e t b=>rw[hg] at h;exact absurd rfl h
  | pt e=>rw[hg] at h;exact absurd rfl h
  | arr e t=>rw[hg] at h;exact absurd rfl h
  | stc t fs q =>
   rw[hg] at h;cases he:get s.e x with
   | none=>rw[he] at h;exact absurd rfl h
   | some pv =>
    rw[he] at h;cases pv with
    | ptr k i off =>
     cases i with
     | succ i=>exact absurd rfl h
     | zero =>
      cases off with
      | succ off=>exact absurd rfl h
      | zero =>
       cases hk:get s.h k with
       | none=>simp only[hk] at h;exact absurd rfl h
       | some ob =>
        cases ob with
        | gone=>simp only[hk] at h;exact absurd rfl h
        | rows _ _ _=>simp only[hk] at h;exact absurd rfl h
        | box l =>
         simp only[hk] at h;cases hb:Nat.beq l.length t.size with
         | false=>rw[hb] at h;exact absurd rfl h
         | true=>exact⟨t,fs,q,k,l,rfl,rfl,hk,Nat.eq_of_beq_eq_true hb,by simp only[hk,hb,cond_true]⟩
    | _=>exact absurd rfl h
theorem qd3 {h:Hp}:∀ {rs:List (Ty×Bool)} {vs:List PV} {used used':List Nat} {y:HL (fsts rs)},qai h rs vs used=some (y,used')->∀ v∈vs,v≠.junk:=by
 intro rs
 induction rs with
 | nil =>
  intro vs used used' y h1 v hv;cases vs with
  | nil=>simp at hv
  | cons _ _=>simp [qai] at h1
 | cons r rs ih =>
  intro vs used used' y h1 v hv e;subst e;obtain⟨t,m⟩:=r;cases vs with
  | nil=>simp at hv
  | cons u vs =>
   cases m with
   | false =>
    have h1:(bif anyN (qad u.cells) used || !fits t u then none else
        (match decA h t u.cells with
        | some x=>(match qai h rs vs (qad u.cells++used) with | some (r,u)=>some ((x,r),u) | none=>none)
        | none=>none):Option (HL (fsts ((t,false)::rs))×List Nat))=some (y,used'):=by cases t<;>exact h1
    obtain⟨h0,h1⟩:=qaz h1;split at h1
    · rename_i x hx;split at h1
      · rename_i r u' hr;rcases List.mem_cons.1 hv with e | hv'
        · subst e;exact qmq hx
        · exact ih hr _ hv' rfl
      · cases h1
    · cases h1
   | true =>
    cases t with
    | sl e =>
      rcases List.mem_cons.1 hv with e | hv'
      · subst e;simp [qai] at h1
      · cases u with
        | nil =>
          simp only[qai] at h1;split at h1
          · rename_i hr;exact ih hr _ hv' rfl
          · cases h1
        | osl k off len =>
          cases off with
          | succ off=>simp [qai] at h1
          | zero =>
            simp only[qai] at h1;obtain⟨h0,h1⟩:=qaz h1;split at h1
            · split at h1
              · split at h1
                · rename_i hr;exact ih hr _ hv' rfl
                · cases h1
              · cases h1
            · cases h1
        | junk=>simp [qai] at h1
        | val _ _=>simp [qai] at h1
        | ptr _ _ _=>simp [qai] at h1
        | iptr _ _ _=>simp [qai] at h1
        | nilp=>simp [qai] at h1
        | vw _ _=>simp [qai] at h1
        | vp _ _ _ _=>simp [qai] at h1
        | fx _=>simp [qai] at h1
        | agg _=>simp [qai] at h1
        | tup _=>simp [qai] at h1
        | clo _ _=>simp [qai] at h1
    | int _=>simp [qai] at h1
    | bool=>simp [qai] at h1
    | str | os _ | op _=>simp [qai] at h1
    | unit=>simp [qai] at h1
    | pair _ _=>simp [qai] at h1
theorem qjm {B:Base} {w:World} {S:Foot} {Z:Con} {s:St} {a:Act} (hT:TbOk P tb) (Rl:Rel T B w S Z s a) (fn:Func)
  (hj:∀ rv∈fn.results.toList,qhZ tb s rv=.junk->∃ t,rv=.tmp t):∃ us:List Value,(results fn a.tmps).run P w=.ok (qmE us) w/\All2 (TRel w S Z (get s.h)) (fn.results.toList.map (qhZ tb s)) us:=by
 have key:∀ l:List ResultVar,(∀ rv∈l,qhZ tb s rv=.junk->∃ t,rv=.tmp t)->∃ us:List Value,(l.mapM (resF a.tmps)).run P w=.ok us w/\All2 (TRel w S Z (get s.h)) (l.map (qhZ tb s)) us:=by
  intro l
  induction l with
  | nil=>intro _;exact⟨[],by simp,trivial⟩
  | cons rv l ih =>
   intro hj;obtain⟨us,h1,h2⟩:=ih fun rv h=>hj rv (List.mem_cons_of_mem _ h)
   have:∃ u:Value,(resF a.tmps rv).run P w=.ok u w/\TRel w S Z (get s.h) (qhZ tb s rv) u:=by
    cases rv with
    | tmp t =>
     refine⟨a.tmps.getD t undef,rfl,?_⟩;simp only[qhZ];cases he:get s.e t with
     | none=>trivial
     | some pv =>
       obtain⟨v,q1,q2⟩:=Rl.tmps t pv he;rw[Array.getD_eq_getD_getElem?,q1];exact q2
    | cell x T' =>
     have hne:qhZ tb s (.cell x T')≠.junk:=fun h=>by obtain⟨t,ht⟩:=hj _ List.mem_cons_self h;cases ht
     obtain⟨t,fs,q,k,l0,hg,he,hk,hb,hr⟩:=qnL hne;rw[hr];obtain⟨v,q1,q2⟩:=Rl.tmps x _ he;have q2:qab w S Z (get s.h) (.ptr k 0 0) v:=q2;simp only[qab,hk] at q2;obtain⟨b,o,hβ,rfl⟩:=q2;obtain⟨b',c,hb',hc,hl,_⟩:=Rl.obs k _ hk;rw[hβ] at hb';injection hb' with hb'
     injection hb' with e1 e2
     subst e1;subst e2;have hTe:=hT T' _ hg;have hcl:=hl.length;have hat:At w b 0 c.toList:=fun j v hv=>by
       rw[Nat.zero_add,hc.cell];simpa using hv
     have hload:=qeQ hTe.1 w b 0 c.toList (by rw[<- hcl];exact hb) hat;refine⟨vOf t c.toList,?_,?_⟩
     · simp only [resF];rw[Array.getD_eq_getD_getElem?,q1];simp only[Option.getD_some,Ob.sz,Nat.mul_zero,Nat.add_zero,Sem.run_bind];have:(asAddr (.pointer (some ⟨b,0,none⟩))).run P w=.ok ⟨b,0,none⟩ w:=rfl;rw[this];exact hload
     · have ha := hTe.2.1;simp only[vOf,ha,if_true];exact⟨c.toList,rfl,hl⟩
   obtain⟨u,h3,h4⟩:=this;exact⟨u::us,by rw[List.mapM_cons,Sem.run_bind,h3];simp only[Result.andThen_ok,Sem.run_bind,h1,Sem.run_pure],h4,h2⟩
 obtain⟨us,h1,h2⟩:=key _ hj;refine⟨us,?_,h2⟩;rw[qnK,Array.mapM_eq_mapM_toList,Sem.run_bind];have h3:(List.toArray <$> (fn.results.toList.mapM (resF a.tmps))).run P w=.ok us.toArray w:=by
  rw[<- bind_pure_comp,Sem.run_bind,h1];rfl
 rw[h3];simp only[Result.andThen_ok,Sem.run_pure];congr 1
 match us with
 | []=>rfl
 | [u]=>rfl
 | _::_::_=>simp [qmE]
variable {T:Told} {P:Program} {tb:Tb} {env:Env}
theorem qax (hT:TbOk P tb) (hE:qag T P env) (hm:P.follows .mixedOrders=true) {f:FuncId} {fn:Func} {c:Code} {lh:LH} {ct:Ctr} {dcd:HL (qeK ct.ps)×HL (fsts ct.rs)->ct.T}
  (hf : P.funcs[f]? = some fn) (hn : (fn.name == "runtime.NumGoroutine") = false) (hb : fn.body = some c) (hl : LHok T P fn.ntmps lh c) (hps : ct.ps.length ≤ fn.ntmps) (henc : ∀ y, ct.enc (dcd y) = y)
  (hF:∀ x r,ct.F x=some r->fnF tb env fn lh ct.ps ct.rs dcd x=some r) (hwi:ct.wi=none:=by rfl) (hflat:ct.flat=true:=by rfl):qaf T P f ct:=by
 refine⟨⟨fn,hf,hn,by rw[hb];rfl⟩,?_,hflat⟩;simp only[Ctr.flat,Bool.and_eq_true] at hflat;rw[hwi];intro x r hx w S Z vs E;have h:=hF x r hx;unfold fnF at h;rw[hb] at h;simp only at h;have R0:=qnl E (nt:=fn.ntmps) hps hflat.1;refine calls_of_wp hf hb (qmD (B:=qjQ fn.ntmps w S Z ct.ps x) hT hE hm h hl (fun ex s hs=>?_) w S Z _ R0);have fin:finK tb ct.ps ct.rs dcd fn.results.toList x .ret s=some r->∀ (w':World) (S':Foot) (Z':Con) (a':Act),Rel T (qjQ fn.ntmps w S Z ct.ps x) w' S' Z' s a' ->
    a'.defers=[]/\∃ v,(results fn a'.tmps).run P w'=.ok v w'/\∃ S' J,qqW T w S Z ct.ps ct.rs x (ct.enc r) v w' S' J:=by
  intro hs w' S' Z' a' R';refine⟨R'.defers,?_⟩;simp only[finK] at hs;obtain⟨ls,hs,hls⟩:=qgC hs;split at hs
  · rename_i p hp;obtain⟨rr,used⟩:=p;simp only[Option.some.injEq] at hs;subst hs;obtain⟨us,hrun,hus⟩:=qjm hT R' fn (fun rv hrv hj=>absurd hj (qd3 hp _ (List.mem_map.2 ⟨rv,hrv,rfl⟩)));refine⟨qmE us,hrun,?_⟩;generalize hpv:List.map (qhZ tb s) fn.results.toList=pvs at *;obtain⟨S2,R2,hS2,hS2n,hdec⟩:=R'.frz (hp:=get s.h) (fun _ _ h=>h) (qeB ct.rs pvs);obtain⟨k1,k2,k3,k4,k5⟩:=qmg (j:=0) (J:=qbe Z' (qbi ct.rs pvs 0)) R' hS2 hdec hp hus (fun _ h=>h);have hstay:∀ k,k ∉ qeB ct.rs pvs->get (frzW (get s.h) (qeB ct.rs pvs)++s.h) k=get s.h k:=fun k hk=>by
      rw[q2q,qgs hk];rfl
    have hlK:∀ k∈qbK ct.ps 0,k ∉ qeB ct.rs pvs:=fun k hk h=>k3 k h hk
    have hlent:∀ k∈qbK ct.ps 0,∀ (e:Ty) (ys:List e.den),get s.h k=some (.rows e ys .lent)->∀ b o n,ltOf Z ct.ps 0 x k=some (b,o,n)->Z' k=some (b,o)/\¬ S2 b:=by
      intro k hk e ys hg b o n hlt;have:Z' k=some (b,o):=by
        rcases R'.lentk k e ys hg with ⟨_,h⟩ | ⟨b2,o2,h1,h2⟩
        · have h : ltOf Z ct.ps 0 x k = none := h;rw[h] at hlt;cases hlt
        · have h1 : ltOf Z ct.ps 0 x k = _ := h1;rw[h1] at hlt;injection hlt with hlt
          injection hlt with e1 hlt
          injection hlt with e2 _
          rw[h2,e1,e2]
      exact⟨this,(R2.liveS (by rw[hstay k (hlK k hk)];exact hg) rfl this).1⟩
    obtain⟨l1,l2⟩:=qjJ (w:=w) (w':=w') (S2:=S2) (Z:=Z) hls (fun k hk e x0 ys hg hlen hlt=>by
      refine⟨hlen,?_⟩;cases hb:Z k with
      | none=>trivial
      | some p =>
        obtain⟨b,o⟩:=p;have hlt:=hlt _ hb;obtain⟨q1,q2⟩:=hlent k hk e ys hg b o _ hlt;obtain⟨c0,c,g1,g2,g3,g4⟩:=R'.lent k b o _ hlt;exact⟨q2,c0,c,g1,g2,g3,g4,(R'.rows k e ys .lent b o hg q1).mono hS2 (fun _ _=>rfl) rfl⟩)
    have hown:∀ {n b o'},qbe Z' (qbi ct.rs pvs 0) n=some (b,o')->∃ k off,get (qbi ct.rs pvs 0) n=some (k,off)/\∃ t xs o1,get s.h k=some (.rows t xs .own)/\Z' k=some (b,o1):=by
      intro n b o' hc;unfold qbe at hc;split at hc
      · rename_i k off hg;cases hb:Z' k with
        | none=>rw[hb] at hc;cases hc
        | some p =>
          obtain⟨b1,o1⟩:=p;rw[hb] at hc;simp only[Option.map_some,Option.some.injEq,Prod.mk.injEq] at hc;obtain⟨rfl,_⟩:=hc;obtain⟨t,xs,h3⟩:=k4 n k off (qan hg);exact⟨k,off,hg,t,xs,o1,h3,hb⟩
      · cases hc
    have hMo:∀ {b},(qjQ fn.ntmps w S Z ct.ps x).Mo b->(∀ k o,k∈qbK ct.ps 0->Z k≠some (b,o))->w.heap.size<=b\/∃ k∈ownK ct.ps 0,∃ o,Z k=some (b,o):=by
      rintro b (h | ⟨k,o,hb⟩) hn
      · exact .inl h
      · rcases E.dom k b o hb with h | h
        · exact .inr ⟨k,h,o,hb⟩
        · exact absurd hb (hn k o h)
    have hk5:=k5 (fun n k o hm b o' hb=>by
      obtain⟨t,xs,h3⟩:=k4 n k o hm;have hk:k ∉ qeB ct.rs pvs:=(k2 k (List.mem_map.2 ⟨_,hm,rfl⟩)).2;exact(R2.liveS (by rw[hstay k hk];exact h3) rfl hb).1) (fun _ _=>rfl)
    refine⟨S2,qbe Z' (qbi ct.rs pvs 0),fun b hb=>hS2 b (R'.S0 b hb),fun b hb=>?_,R2.Slt,fun b hb hn=>R'.olds b hb (fun⟨k,o,h⟩=>hn k o h),R'.grow,R'.told,R'.calm,by rw[henc];exact l1,⟨us,rfl,by rw[henc];exact hk5⟩,fun n n' b o1 o2 h1 h2=>?_,fun n b o' hc=>?_,fun hfr=>?_⟩
    · rcases R2.Snew b hb with h | h
      · exact .inl h
      · refine .inr (hMo h fun k o hk hβ => ?_);obtain⟨⟨e,ys,hg⟩,hlt⟩:=l2 k hk;obtain⟨n,hlt⟩:=hlt _ hβ;exact(hlent k hk e ys hg b o n hlt).2 hb
    · obtain ⟨k, off, g1, t, xs, p1, g2, g3⟩ := hown h1;obtain⟨k',off',g1',t',xs',p1',g2',g3'⟩:=hown h2;have:=R'.inj k k' _ _ b p1 p1' g2 rfl g2' rfl g3 g3';subst this;exact qgf k1 g1 g1'
    · obtain ⟨k, off, g1, t, xs, p1, g2, g3⟩ := hown hc;refine hMo (R'.liveS g2 rfl g3).2 fun k' o2 hk' hβ=>?_
      obtain⟨_,hlt⟩:=l2 k' hk';obtain⟨n2,hlt⟩:=hlt _ hβ;exact R'.sep k _ b p1 g2 rfl (by simp) g3 k' o2 n2 hlt
    · have himm := hflat.2;rw[hfr,Bool.false_or,Bool.and_eq_true] at himm;obtain⟨i1,i2⟩:=qnu himm.1;rw[henc];exact qny R' hS2 hS2n (fun b hb=>(hMo hb (fun k o hk=>by rw[i2] at hk;simp at hk)).resolve_right (by rintro⟨k,hk,_⟩;rw[i1] at hk;simp at hk)) hp k1 k4
  · cases hs
 cases ex with
 | exit n=>cases hs
 | normal=>exact fun w' S' Z' a' R'=>fin hs w' S' Z' a' R'
 | ret=>exact fun w' S' Z' a' R'=>fin hs w' S' Z' a' R'
#print axioms qax
def Wf:(t:Ty)->t.den->Prop
 | .int k,n=>k.min<=(n:Int)/\(n:Int)<=k.max
 | .bool,_=>True
 | .str,s=>ByteArray.size s<=9223372036854775807
 | .unit,_=>True
 | .pair a b,x=>Wf a x.1/\Wf b x.2
 | .sl e,xs=>List.length (α:=e.den) xs<=9223372036854775807/\∀ x∈xs,Wf e x
 | .os _,_=>True
 | .op _,_=>True
def WfA:(ps:List (Ty×PM))->HL (fsts ps)->Prop
 | [],_=>True
 | (t,_)::ps,(x,r)=>Wf t x/\WfA ps r
def qgP (P:Program) (rec:Ty->TypeId->Bool):Ty->List Field->Nat->Bool
 | .unit,[],_=>true
 | .pair a .unit,[f],off=>Nat.beq f.offset off&&Nat.beq (P.cellsOf f.type) a.size&&rec a f.type
 | .pair a b,[f,g],off=>Nat.beq f.offset off&&Nat.beq (P.cellsOf f.type) a.size&&rec a f.type&&Nat.beq g.offset (off+a.size)&&Nat.beq (P.cellsOf g.type) b.size&&rec b g.type
 | .pair a b,f::f2::f3::fs,off=>Nat.beq f.offset off&&Nat.beq (P.cellsOf f.type) a.size&&rec a f.type&&qgP P rec b (f2::f3::fs) (off+a.size)
 | _,_,_=>false
def shpB (P:Program):Nat->Ty->TypeId->Bool
 | 0,_,_=>false
 | n+1,t,T' =>
  match P.underlying T',t with
  | some (.int k),.int k'=>decide (k=k')
  | some .bool,.bool=>true
  | some .string,.str=>true
  | some (.slice E),.sl e=>Nat.beq (P.cellsOf E) e.size&&Nat.blt 0 e.size&&shpB P n e E
  | some (.struct fs),.unit=>Nat.beq (P.cellsOf T') 0&&qgP P (shpB P n) .unit fs.toList 0
  | some (.struct fs),.pair a b=>Nat.beq (P.cellsOf T') (Ty.pair a b).size&&qgP P (shpB P n) (.pair a b) fs.toList 0
  | _,_=>false
section
variable {H:Type} {enc:TypeId×Value->H} {P:Program} {w:World} {base:Nat} {spare:Nat->Bool} {held:Bool} {S:Foot}
theorem qlv {a:Addr} {v:Value} (h:w.cell? a=some v):a=⟨a.block,a.off,none⟩/\a.block<w.heap.size:=by
 unfold World.cell? at h;split at h
 · rename_i c _ _ hb;have hlt:a.block<w.heap.size:=by
    rcases Nat.lt_or_ge a.block w.heap.size with hl | hl
    · exact hl
    · rw[Array.getElem?_eq_none hl] at hb;cases hb
   obtain⟨b,o,s⟩:=a;cases s with
   | none=>exact⟨rfl,hlt⟩
   | some s=>simp at h
 · cases h
theorem qjg {rec:Ty->TypeId->Bool} {n:Nat} (ih:∀ (t:Ty) (T':TypeId) (cs:List Value) (x:DataW H×List MemPlace),rec t T'=true->DataW.trod enc P w base spare held n T' cs=some x->∃ y:t.den,Cell w S t y cs/\Wf t y) :
  ∀ {t:Ty} {fs:List Field} {off:Nat} {cs:List Value},qgP P rec t fs off=true->cs.length=off+t.size ->
   (∀ f∈fs,∃ x,DataW.trod enc P w base spare held n f.type ((cs.drop f.offset).take (P.cellsOf f.type))=some x)->∃ y:t.den,Cell w S t y (cs.drop off)/\Wf t y:=by
 intro t
 induction t with
 | int k=>intro fs off cs h;cases fs<;>simp [qgP] at h
 | bool=>intro fs off cs h;cases fs<;>simp [qgP] at h
 | str | os _ _ | op _ _=>intro fs off cs h;cases fs<;>simp [qgP] at h
 | sl e _=>intro fs off cs h;cases fs<;>simp [qgP] at h
 | unit =>
  intro fs off cs h hl _;refine⟨(),?_,trivial⟩;show cs.drop off=[];exact List.drop_eq_nil_of_le (by simp [Ty.size] at hl;omega)
 | pair a b iha ihb =>
  intro fs off cs h hl hf;have one:∀ {f:Field},f∈fs->Nat.beq f.offset off=true->Nat.beq (P.cellsOf f.type) a.size=true->rec a f.type=true->∃ y:a.den,Cell w S a y ((cs.drop off).take a.size)/\Wf a y:=by
   intro f hm h1 h2 h3;obtain⟨x,hx⟩:=hf f hm;rw[Nat.eq_of_beq_eq_true h1,Nat.eq_of_beq_eq_true h2] at hx;exact ih a f.type _ x h3 hx
  have join:∀ {y:a.den} {z:b.den},Cell w S a y ((cs.drop off).take a.size)/\Wf a y->Cell w S b z (cs.drop (off+a.size))/\Wf b z->∃ y:(Ty.pair a b).den,Cell w S (.pair a b) y (cs.drop off)/\Wf (.pair a b) y:=by
   intro y z h1 h2;refine⟨(y,z),⟨_,_,?_,h1.1,h2.1⟩,h1.2,h2.2⟩;rw[<- List.drop_drop,List.take_append_drop]
  match fs,h with
  | [],h=>simp [qgP] at h
  | [f],h =>
   cases b with
   | unit =>
    simp only[qgP,Bool.and_eq_true] at h;obtain⟨y,hy⟩:=one List.mem_cons_self h.1.1 h.1.2 h.2;refine join (z:=()) hy ⟨?_,trivial⟩;show cs.drop (off+a.size)=[];exact List.drop_eq_nil_of_le (by simp [Ty.size] at hl;omega)
   | int k=>simp [qgP] at h
   | bool=>simp [qgP] at h
   | str | os _ | op _=>simp [qgP] at h
   | sl e=>simp [qgP] at h
   | pair c d=>simp [qgP] at h
  | [f,g],h =>
   have h:(Nat.beq f.offset off&&Nat.beq (P.cellsOf f.type) a.size&&rec a f.type&&Nat.beq g.offset (off+a.size)&&Nat.beq (P.cellsOf g.type) b.size&&rec b g.type)=true:=by
    cases b<;>exact h
   simp only[Bool.and_eq_true] at h;obtain⟨⟨⟨⟨⟨h1,h2⟩,h3⟩,h4⟩,h5⟩,h6⟩:=h;obtain⟨y,hy⟩:=one List.mem_cons_self h1 h2 h3;obtain⟨x,hx⟩:=hf g (by simp);rw[Nat.eq_of_beq_eq_true h4,Nat.eq_of_beq_eq_true h5,List.take_of_length_le (by simp [Ty.size] at hl ⊢;omega)] at hx;obtain⟨z,hz⟩:=ih b g.type _ x h6 hx;exact join hy hz
  | f::f2::f3::fs',h =>
   have h:(Nat.beq f.offset off&&Nat.beq (P.cellsOf f.type) a.size&&rec a f.type&&qgP P rec b (f2::f3::fs') (off+a.size))=true:=by
    cases b<;>exact h
   simp only[Bool.and_eq_true] at h;obtain⟨⟨⟨h1,h2⟩,h3⟩,h4⟩:=h;obtain⟨y,hy⟩:=one List.mem_cons_self h1 h2 h3;obtain⟨z,hz⟩:=ihb h4 (by simp [Ty.size] at hl ⊢;omega) (fun f hm=>hf f (List.mem_cons_of_mem _ hm));exact join hy hz
theorem qom (hS:∀ b,b<w.heap.size->S b):∀ (n:Nat) {t:Ty} {T':TypeId},shpB P n t T'=true->∀ {fuel:Nat} {cs:List Value} {x:DataW H×List MemPlace},DataW.trod enc P w base spare held fuel T' cs=some x ->
  ∃ y:t.den,Cell w S t y cs/\Wf t y:=by
 intro n
 induction n with
 | zero=>intro t T' h;cases h
 | succ n ih =>
  intro t T' h fuel cs x hx;simp only[shpB] at h;split at h
  · rename_i k k' hu;simp only[decide_eq_true_eq] at h;subst h;obtain⟨m,rfl,_,hw⟩:=DataW.trod_int hu hx;simp only[Lit.wf,Bool.and_eq_true,decide_eq_true_eq] at hw;exact⟨m,rfl,hw⟩
  · rename_i hu;obtain⟨b,rfl,_⟩:=DataW.trod_bool hu hx;exact⟨b,rfl,trivial⟩
  · rename_i hu;obtain⟨s,rfl,_,hs⟩:=DataW.trod_string hu hx;exact⟨s,rfl,hs⟩
  · rename_i E e hu;simp only[Bool.and_eq_true] at h;obtain⟨⟨h1,h2⟩,h3⟩:=h;have h1:=Nat.eq_of_beq_eq_true h1;have h2:0<e.size:=Nat.le_of_ble_eq_true h2;rcases Deep.open_slice hu hx with ⟨rfl,_⟩ | ⟨a,len,cap,m,n0,D,Pl,rfl,_,hl,hm,hmm,_,hel⟩
    · exact⟨[],⟨none,0,rfl,Nat.le_refl _,.inl rfl⟩,by simp,by simp⟩
    · have hle : len <= m := by rw [hmm]; split <;> omega
      rw[h1] at hel;have hel2:∀ i,i<len->∃ (cs':List Value) (y:e.den),w.cells? base (a.add (i*e.size)) e.size=some cs'/\Cell w S e y cs'/\Wf e y:=by
        intro i hi;obtain⟨cs',q1,q2⟩:=hel i (by omega);obtain⟨y,q3,q4⟩:=ih h3 q2;exact⟨cs',y,q1,q3,q4⟩
      by_cases hz:len=0
      · subst hz;exact⟨[],⟨some a,cap,rfl,Nat.zero_le _,.inl rfl⟩,by simp,by simp⟩
      · obtain ⟨cs0, y0, q1, q2, _⟩ := hel2 0 (by omega);obtain⟨_,hcl,hce⟩:=World.cells?_some q1;have hc0:=hce 0 h2;have:∃ v,w.cell? a=some v:=by
         have h4:(cs0[0]?)=some (cs0[0]'(by omega)):=List.getElem?_eq_getElem (by omega);rw[h4] at hc0;simp only[Nat.zero_mul] at hc0;exact⟨_,by simpa [Addr.add] using hc0⟩
        obtain⟨v,hv⟩:=this;obtain⟨ha,hblt⟩:=qlv hv;have key:∀ k,k<=len->∃ ys:List e.den,ys.length=k/\(∀ i y,ys[i]?=some y->∃ ds,Cell w S e y ds/\At w a.block (a.off+i*e.size) ds)/\∀ y∈ys,Wf e y:=by
         intro k
         induction k with
         | zero=>intro _;exact⟨[],rfl,by simp,by simp⟩
         | succ k ihk =>
          intro hk;obtain⟨ys,g1,g2,g3⟩:=ihk (by omega);obtain⟨cs',y,q1,q2,q3⟩:=hel2 k (by omega);obtain⟨_,hcl,hce⟩:=World.cells?_some q1;refine⟨ys++[y],by simp [g1],fun i z hz=>?_,fun z hz=>?_⟩
          · by_cases hi : i < ys.length
            · rw[List.getElem?_append_left hi] at hz;exact g2 i z hz
            · rw [List.getElem?_append_right (by omega)] at hz;have hi2:i=ys.length:=by
               have:=(List.getElem?_eq_some_iff.1 hz).1;simp at this;omega
              subst hi2;simp at hz;subst hz;refine⟨cs',q2,fun j u hj=>?_⟩;have hjl:=(List.getElem?_eq_some_iff.1 hj).1;have:=hce j (by omega);rw[hj] at this;rw[g1];have hadd:(a.add (k*e.size)).add j=⟨a.block,a.off+k*e.size+j,none⟩:=by
               conv=>lhs;rw[ha,Addr.add_mid,Addr.add_mid]
              rwa [hadd] at this
          · rcases List.mem_append.1 hz with hz | hz
            · exact g3 z hz
            · simp at hz;subst hz;exact q3
        obtain⟨ys,g1,g2,g3⟩:=key len (Nat.le_refl _);refine⟨ys,⟨some a,cap,by rw[g1],by omega,.inr ⟨a.block,a.off,by rw[<- ha],hS _ hblt,g2⟩⟩,?_,g3⟩;have:maxLen=9223372036854775807:=by decide
        rw[g1];omega
  · rename_i fs hu;simp only[Bool.and_eq_true] at h;obtain⟨xs,m,rfl,_,hl,hxl,hf⟩:=DataW.trod_struct hu hx;have h1:=Nat.eq_of_beq_eq_true h.1;have:=qjg (S:=S) (fun t T' cs x h1 h2=>ih h1 h2) (t:=.unit) (off:=0) (cs:=cs) h.2 (by rw[hl,h1];rfl) (fun f hm=>by
      obtain⟨i,hi⟩:=List.getElem?_of_mem hm;have h5:=hf i f (by rw[<- Array.getElem?_toList];exact hi);have h6:i<xs.length:=by rw[hxl];have:=(List.getElem?_eq_some_iff.1 hi).1;simpa using this
      exact⟨xs[i],by rw[h5,List.getElem?_eq_getElem h6]⟩)
    simpa using this
  · rename_i fs a b hu;simp only[Bool.and_eq_true] at h;obtain⟨xs,m,rfl,_,hl,hxl,hf⟩:=DataW.trod_struct hu hx;have h1:=Nat.eq_of_beq_eq_true h.1;have:=qjg (S:=S) (fun t T' cs x h1 h2=>ih h1 h2) (t:=.pair a b) (off:=0) (cs:=cs) h.2 (by rw[hl,h1,Nat.zero_add]) (fun f hm=>by
      obtain⟨i,hi⟩:=List.getElem?_of_mem hm;have h5:=hf i f (by rw[<- Array.getElem?_toList];exact hi);have h6:i<xs.length:=by rw[hxl];have:=(List.getElem?_eq_some_iff.1 hi).1;simpa using this
      exact⟨xs[i],by rw[h5,List.getElem?_eq_getElem h6]⟩)
    simpa using this
  · cases h
theorem qo9 (hS:∀ b,b<w.heap.size->S b) {n:Nat} {t:Ty} {T':TypeId} (h:shpB P n t T'=true) {r:Reach} {b0:Nat} {v:Value} (hv:Value.okWide P w r b0 T' v) {d:DataW H} {ps:List MemPlace} (hd:DataW.Trod enc P w base spare held T' v d ps) :
  ∃ y:t.den,VRel w S t y v/\Wf t y:=by
 obtain⟨fuel,hf⟩:=hd;obtain⟨y,hc,hw⟩:=qom (S:=S) hS n h hf;refine⟨y,?_,hw⟩;have agg:t.isAgg=true->∃ cs,v=.agg cs:=by
  intro ht;cases n with
  | zero=>cases h
  | succ n =>
   simp only[shpB] at h;split at h<;>try (first | cases ht | cases h)
   · rename_i fs hu;unfold Value.okWide at hv;rw[hu] at hv;obtain⟨cs,e,_⟩:=hv;exact⟨cs,e⟩
   · rename_i fs a b hu;unfold Value.okWide at hv;rw[hu] at hv;obtain⟨cs,e,_⟩:=hv;exact⟨cs,e⟩
 have nagg:t.isAgg=false->∀ cs,v≠.agg cs:=by
  intro ht cs e;subst e;cases n with
  | zero=>cases h
  | succ n =>
   simp only[shpB] at h;split at h
   · rename_i hu;simp [Value.okWide,Cell.okWide,Cell.ok,hu] at hv
   · rename_i hu;simp [Value.okWide,Cell.okWide,Cell.ok,hu] at hv
   · rename_i hu;simp [Value.okWide,Cell.okWide,Cell.ok,hu] at hv
   · rename_i hu;simp [Value.okWide,Cell.okWide,Cell.ok,hu] at hv
   · cases ht
   · cases ht
   · cases h
 have one:t.isAgg=false->v.cells.toList=[v]:=by
  intro ht;have:=nagg ht;cases v<;>first | rfl | exact absurd rfl (this _)
 cases t with
 | pair a b =>
  obtain⟨cs,rfl⟩:=agg rfl;exact⟨cs.toList,by simp,hc⟩
 | unit =>
  obtain⟨cs,rfl⟩:=agg rfl;have hc:cs.toList=[]:=hc;show Value.agg cs=.agg #[];congr 1;exact Array.toList_inj.1 (by simpa using hc)
 | int k=>rw[one rfl] at hc;exact hc
 | bool=>rw[one rfl] at hc;exact hc
 | str | os _ | op _=>rw[one rfl] at hc;exact hc
 | sl e=>rw[one rfl] at hc;exact hc
def imms (ts:List Ty):List (Ty×PM):=ts.map fun t=>(t,.imm)
def shpL (P:Program) (n:Nat):List Ty->List TypeId->Bool
 | [],[]=>true
 | t::ts,T'::Ts=>shpB P n t T'&&shpL P n ts Ts
 | _,_=>false
theorem qon (hS:∀ b,b<w.heap.size->S b) {Z:Con} {r:Reach} {b0 n:Nat}:∀ {ts:List Ty} {Ts:List TypeId} {vs:List Value} {ds:List (DataW H)} {p:List MemPlace} {i:Nat},shpL P n ts Ts=true ->
  DataW.TrodAll enc P w base spare held Ts vs ds p->(∀ (j:Nat) T' v,Ts[j]?=some T'->vs[j]?=some v->Value.okWide P w r b0 T' v) ->
  ∃ x:HL (fsts (imms ts)),qjS w S Z (imms ts) i x vs/\WfA (imms ts) x:=by
 intro ts
 induction ts with
 | nil =>
  intro Ts vs ds p i h ht hv;cases Ts with
  | nil =>
   cases vs with
   | nil=>exact⟨(),trivial,trivial⟩
   | cons _ _=>cases ds<;>exact ht.elim
  | cons _ _=>cases h
 | cons t ts ih =>
  intro Ts vs ds p i h ht hv;cases Ts with
  | nil=>cases h
  | cons T' Ts =>
   simp only[shpL,Bool.and_eq_true] at h;cases vs with
   | nil=>cases ds<;>exact ht.elim
   | cons v vs =>
    cases ds with
    | nil=>exact ht.elim
    | cons d ds =>
     obtain⟨p1,q1,h1,h2,_⟩:=ht;obtain⟨y,hy,hw⟩:=qo9 (S:=S) hS h.1 (hv 0 T' v rfl rfl) h1;obtain⟨x,hx,hwx⟩:=ih (i:=i+1) h.2 h2 (fun j T2 u a b=>hv (j+1) T2 u (by simpa using a) (by simpa using b));refine⟨(y,x),?_,hw,hwx⟩;show qjS w S Z ((t,PM.imm)::imms ts) i (y,x) (v::vs);cases t<;>exact⟨hy,hx⟩
end
theorem qoE {T:Told} {P:Program} {f:FuncId} {ts:List Ty} {F:HL (fsts (imms ts))->Option Bool} {enc:Bool->HL (qeK (imms ts))×HL (fsts [(Ty.bool,false)])} (hC:qaf T P f ⟨imms ts,[(.bool,false)],Bool,F,enc,none⟩)
  (henc:∀ b,(enc b).2=(b,())) {x:HL (fsts (imms ts))} (hx:F x=some true) {W:World} {vs:List Value} (ha:qjS W (fun b=>b<W.heap.size) (fun _=>none) (imms ts) 0 x vs) (hG:T.G W) (hgb:∀ b∈T.gb,b<W.heap.size) :
  Calls P f vs.toArray W fun e W'=>e=.returned (.bool true)/\Calm W W'/\W.heap.size<=W'.heap.size/\∀ b,b<W.heap.size->W'.heap[b]?=W.heap[b]?:=by
 refine Calls.mono (hC.does x true hx W _ _ vs ⟨ha,fun k b o h=>(by cases h),fun k k' b o o' h=>(by cases h),fun b h=>h,hG,hgb⟩) fun e W' he=>?_
 cases e with
 | panicked c=>exact he.elim
 | outgrown=>exact he.elim
 | returned v =>
  obtain⟨S',J,L⟩:=he;refine⟨?_,L.calm,L.grow,fun b hb=>L.same b hb (fun k o h=>by cases h)⟩;obtain⟨us,rfl,hr⟩:=L.res;have hr:ResV W' S' J [(Ty.bool,false)] 0 (enc true).2 us:=hr;rw[henc] at hr
  match us,hr with
  | [],hr=>exact hr.elim
  | [u],hr =>
   have h1:[u]=[Value.bool true]:=hr.1;injection h1 with h1
   subst h1;rfl
  | _::_::_,hr=>exact hr.2.elim
end Go.Proofs.YtmabkjhobhbfdaaDoor.X
namespace Go.Proofs.YtmabkjhobhbfdaaDoor.X
open Go Go.ChangeShapes Go.WideShapes Go.ChangeAt Go.RowKit
set_option linter.unusedVariables false
set_option linter.unusedSimpArgs false
theorem qn5 {W W':World} (hc:Calm W W') (hs:∀ b,b<W.heap.size->W'.heap[b]?=W.heap[b]?) (may:MemPlace->Prop):W.keptBut W' may:=by
 refine⟨hc.os,hc.out,fun i hi=>?_⟩;rw[hs i hi];split<;>simp_all
theorem qo0 {H:Type} {enc:TypeId×Value->H} {P:Program} (hl:laidOutB P=true) {W W':World} (hs:∀ b,b<W.heap.size->W'.heap[b]?=W.heap[b]?) {sp:Nat->Bool} :
  ∀ {Ts:List TypeId} {vs:List Value} {ds:List (DataW H)} {p:List MemPlace},DataW.TrodAll enc P W 0 (fun _=>true) true Ts vs ds p->(Ts.all fun T'=>P.readableRec T'&&decide (T'<P.types.size))=true ->
   (∀ x∈p,x.block<W.heap.size)->(∀ x∈p,sp x.block=true)->DataW.TrodAll enc P W' 0 sp true Ts vs ds p:=by
 intro Ts
 induction Ts with
 | nil =>
  intro vs ds p h _ _ _;cases vs<;>cases ds<;>first | exact h | exact h.elim
 | cons T' Ts ih =>
  intro vs ds p h hr hlt hsp;cases vs with
  | nil=>cases ds<;>exact h.elim
  | cons v vs =>
   cases ds with
   | nil=>exact h.elim
   | cons d ds =>
    obtain⟨p1,q1,h1,h2,rfl⟩:=h;simp only[List.all_cons,Bool.and_eq_true,decide_eq_true_eq] at hr;refine⟨p1,q1,WideElems.Trod_stays hl hr.1.1 hr.1.2 h1 (fun x hx=>?_) (fun x hx=>hsp x (List.mem_append.2 (.inl hx))),ih h2 hr.2 (fun x hx=>hlt x (List.mem_append.2 (.inr hx))) (fun x hx=>hsp x (List.mem_append.2 (.inr hx))),rfl⟩;have hx:=hlt x (List.mem_append.2 (.inl hx));cases x with
    | cell b o=>exact World.cell?_of_block (w:=W) (hs b hx)
    | map b=>exact hs b hx
theorem qps {H:Type} {enc:TypeId×Value->H} {P:Program} (hl:laidOutB P=true) {f:Func} {s:ChangeSpec} {W W':World} {args:Array Value} {ds gs:List (DataW H)} {before:List MemPlace} {tB:TypeId}
   (hv:s.vars=[]) (hW:DataW.Whole enc P f.params.toList s.vars false W args.toList ds gs before) (hfn:s.fn H (ds++gs)={ results:=[.lit (.bool true)],args:=ds }) (hrd:(f.params.toList.all fun T'=>P.readableRec T'&&decide (T'<P.types.size))=true)
   (hres:f.resultTypes=#[tB]) (htB:P.underlying tB=some .bool) (hc:Calm W W') (hs:∀ b,b<W.heap.size->W'.heap[b]?=W.heap[b]?) :
   s.post enc P f false true false false W args (.bool true) W':=by
 have hW':=hW;obtain⟨p,q,hA,hV,rfl,hfz,hnd⟩:=hW;rw[hv] at hV;obtain⟨rfl,rfl⟩:=trodVars_none hV;have hlt:∀ x∈p,x.block<W.heap.size:=fun x hx=>hW'.lt x (List.mem_append.2 (.inl hx))
 refine post_of_same (pa:=p) (pv:=[]) hW' (fun b sp hd=>?_) (fun sp hsp=>?_) (fun sp hsp=>?_) rfl (qn5 hc hs _) hc.fr (ok_one hres rfl (okWide_bool_mk htB _))
 · rw [hfn, hres];exact trodAll_mk1 (shut_bool htB _)
 · rw [hfn];exact qo0 hl hs hA hrd hlt (fun x hx=>hsp x (List.mem_append.2 (.inl hx)))
 · rw [hfn, hv];rfl
end Go.Proofs.YtmabkjhobhbfdaaDoor.X
