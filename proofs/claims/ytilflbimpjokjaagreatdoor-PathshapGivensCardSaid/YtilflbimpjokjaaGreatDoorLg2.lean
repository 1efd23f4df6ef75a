/- Own work: part of the proof; the first line of each part says what it tells. -/
import Derived.Test.YtilflbimpjokjaaGreatDoorLg1


namespace Go.Proofs.YtilflbimpjokjaaGreatDoor.X
open Go
set_option linter.unusedVariables false
set_option linter.unusedSimpArgs false
variable {T:Told} {P:Program} {tb:Tb}
section
variable {B:Base} {w w':World} {S:Foot} {β:Con} {s s':St} {a:Act}
theorem arg_val {S1:Foot} {g hp:Hp} {t:Ty} {x:t.den} {v:PV} {u:Value} (hd:decA hp t v.cells=some x) (hf:fits t v=true) (hu:TRel w S β g v u)
  (D:∀ vs:List Value,All2 (TRel0 w S β g) v.cells vs→Cell w S1 t x vs):VRel w S1 t x u:=by
 have one:∀ (hv:TRel0 w S β g v u) (hc:v.cells=[v]),t.isAgg=false→VRel w S1 t x u:=by
  intro hv hc ht
  have:=D [u] (by rw[hc];exact⟨hv,trivial⟩)
  cases t<;>first | exact this | cases ht
 cases v with
 | agg l =>
  obtain⟨vs,rfl,hl⟩:=hu
  have:=D vs hl
  cases t with
  | pair a b=>exact⟨vs,rfl,this⟩
  | unit=>cases this;rfl
  | int k=>cases hf
  | bool=>cases hf
  | str | os _ | op _=>cases hf
  | sl e=>cases hf
 | tup l=>exfalso;revert hd;cases t<;>first | (simp [PV.cells,decA,dec];done) | (simp [fits,Ty.isAgg] at hf)
 | clo f l=>exfalso;revert hd;cases t<;>first | (simp [PV.cells,decA,dec];done) | (simp [fits,Ty.isAgg] at hf)
 | junk=>exact one hu rfl (by simpa [fits] using hf)
 | val t x=>exact one hu rfl (by simpa [fits] using hf)
 | nil=>exact one hu rfl (by simpa [fits] using hf)
 | nilp=>exact one hu rfl (by simpa [fits] using hf)
 | fx k=>exact one hu rfl (by simpa [fits] using hf)
 | iptr t x off=>exact one hu rfl (by simpa [fits] using hf)
 | osl k off len=>exact one hu rfl (by simpa [fits] using hf)
 | ptr k i off=>exact one hu rfl (by simpa [fits] using hf)
theorem uses_ge:∀ {ps:List (Ty×PM)} {vs:List PV} {i n:Nat} {p:Nat×Nat},get (uses ps vs i) n=some p→i*8≤n∧(n∈ownK ps i∨n∈lentK ps i):=by
 intro ps
 induction ps with
 | nil=>intro vs i n p h;cases vs<;>simp [uses,get] at h
 | cons q ps ih =>
  intro vs i n p h
  obtain⟨t,m⟩:=q
  cases vs with
  | nil=>cases m<;>simp [uses,get] at h
  | cons v vs =>
   have tail:get (uses ps vs (i+1)) n=some p→i*8≤n∧(n∈ownK ((t,m)::ps) i∨n∈lentK ((t,m)::ps) i):=by
    intro h
    obtain⟨h1,h2⟩:=ih h
    refine⟨by omega,?_⟩
    cases m with
    | imm=>exact h2
    | own=>exact h2.imp (fun h=>List.mem_cons_of_mem _ h) id
    | lent=>exact h2.imp id fun h=>List.mem_cons_of_mem _ h
   have hd:∀ q,(m=.own∨m=.lent)→get ((i*8,q)::uses ps vs (i+1)) n=some p→i*8≤n∧(n∈ownK ((t,m)::ps) i∨n∈lentK ((t,m)::ps) i):=by
    intro q hm h
    rw[q6q] at h
    split at h
    · rename_i e; subst e
      refine⟨Nat.le_refl _,?_⟩
      rcases hm with rfl | rfl
      · exact .inl List.mem_cons_self
      · exact .inr List.mem_cons_self
    · exact tail h
   cases m with
   | imm=>cases t<;>cases v<;>exact tail h
   | own=>cases t<;>cases v<;>first | exact tail h | exact hd _ (.inl rfl) h
   | lent=>cases t<;>cases v<;>first | exact tail h | exact hd _ (.inr rfl) h
theorem callArgs_args (R:Rel T B w S β s a) {hp:Hp} (hs:Sub hp s) {S1:Foot} (hS1:∀ b,S b→S1 b) {K:List Nat}
  (hdec:∀ (pvs:List PV) (vs:List Value) (t:Ty) (x:t.den),(∀ k∈keysOf pvs,k∈K)→All2 (TRel0 w S β (get s.h)) pvs vs→decA hp t pvs=some x→Cell w S1 t x vs) {βc:Con} :
  ∀ {ps:List (Ty×PM)} {vs:List PV} {us:List Value} {used seen:List Nat} {x:HL (fsts ps)} {w1:List (Nat×Ob)} {i:Nat},
   q0q hp ps vs used seen=some (x,w1)→All2 (TRel w S β (get s.h)) vs us→(∀ k∈immKeys ps vs,k∈K) →
   (∀ k∈useK (uses ps vs i),∀ b o,β k=some (b,o)→¬ S1 b)→(∀ n,i*8≤n→βc n=conOf β (uses ps vs i) n)→ArgsV w S1 βc ps i x us:=by
 intro ps
 induction ps with
 | nil =>
  intro vs us used seen x w1 i hh hl hK hU hβ
  cases vs with
  | nil=>cases us with
   | nil=>trivial
   | cons _ _=>exact hl.elim
  | cons v vs=>simp [q0q] at hh
 | cons p ps ih =>
  intro vs us used seen x w1 i hh hl hK hU hβ
  obtain⟨t,m⟩:=p
  cases vs with
  | nil=>cases t<;>cases m<;>simp [q0q] at hh
  | cons v vs =>
   cases us with
   | nil=>exact hl.elim
   | cons u us =>
   obtain⟨hu,hl⟩:=hl
   have tailβ:∀ q,(∀ n,i*8≤n→βc n=conOf β ((i*8,q)::uses ps vs (i+1)) n)→∀ n,(i+1)*8≤n→βc n=conOf β (uses ps vs (i+1)) n:=by
    intro q hq n hn
    rw[hq n (by omega)]
    simp only[conOf,q6q,if_neg (show ¬ i*8=n by omega)]
   cases m with
   | imm =>
    have hh:(bif anyN (keysOf v.cells) used || !fits t v then none else
        (match decA hp t v.cells with
        | some x=>(match q0q hp ps vs used (keysOf v.cells++seen) with | some (xs,w)=>some ((x,xs),frzW hp (keysOf v.cells)++w) | none=>none)
        | none=>none):Option (HL (fsts ((t,PM.imm)::ps))×List (Nat×Ob)))=some (x,w1):=by
      cases t<;>exact hh
    obtain⟨h1,hh⟩:=bif_else hh
    simp only[Bool.or_eq_false_iff] at h1
    have hf:fits t v=true:=by simpa using h1.2
    split at hh
    · rename_i y hy
      split at hh
      · rename_i xs w' hw
        injection hh with hh
        injection hh with hh1 hh
        subst hh1
        have eu:uses ((t,PM.imm)::ps) (v::vs) i=uses ps vs (i+1):=by cases t<;>cases v<;>rfl
        have ei:immKeys ((t,PM.imm)::ps) (v::vs)=keysOf v.cells++immKeys ps vs:=rfl
        rw[eu] at hU hβ
        rw[ei] at hK
        have hv:=arg_val hy hf hu (fun vs hvs=>hdec _ vs t y (fun k hk=>hK k (List.mem_append.2 (.inl hk))) hvs hy)
        have ht:=ih hw hl (fun k hk=>hK k (List.mem_append.2 (.inr hk))) hU (fun n hn=>hβ n (by omega))
        cases t<;>exact⟨hv,ht⟩
      · cases hh
    · cases hh
   | own =>
    cases t with
    | sl e =>
      cases v with
      | nil =>
        simp only[q0q] at hh
        split at hh
        · rename_i xs w' hw
          injection hh with hh
          injection hh with hh1 hh
          subst hh1
          have e0:βc (i*8)=none:=by
            rw[hβ _ (Nat.le_refl _)]
            show conOf β (uses ps vs (i+1)) (i*8)=none
            unfold conOf
            cases hg:get (uses ps vs (i+1)) (i*8) with
            | none=>rfl
            | some p=>have:=(uses_ge hg).1;omega
          refine⟨?_,ih hw hl hK hU (fun n hn=>hβ n (by omega))⟩
          simp only[OwnV,e0]
          exact⟨trivial,hu⟩
        · cases hh
      | osl k off len =>
        cases off with
        | succ off=>simp [q0q] at hh
        | zero =>
          simp only[q0q] at hh
          obtain⟨h1,hh⟩:=bif_else hh
          split at hh
          · rename_i t' xs hk
            split at hh
            · rename_i ys hys
              obtain⟨rfl,rfl⟩:=cstl_eq hys
              split at hh
              · rename_i zs w' hw
                injection hh with hh
                injection hh with hh1 hh
                subst hh1
                refine⟨?_,ih hw hl hK (fun k hk=>hU k (List.mem_cons_of_mem _ hk)) (tailβ (k,0) hβ)⟩
                have hk':=hs k _ hk
                obtain⟨hwin,h2⟩:=osl_val R hk' hu
                have hlen:=win_length hwin
                have e0:βc (i*8)=(β k).map fun p=>(p.1,p.2+0):=by
                  rw[hβ _ (Nat.le_refl _)]
                  show conOf β ((i*8,(k,0))::uses ps vs (i+1)) (i*8)=_
                  simp [conOf,q6q]
                rcases h2 with ⟨hb,_,h3,rfl⟩ | ⟨b,o,x0,cap,hb,rfl,hcap,hx,hown⟩
                · simp only [OwnV, e0, hb, Option.map_none]
                  exact⟨List.eq_nil_of_length_eq_zero (by rw[hlen,h3]),trivial⟩
                · have hor := R.obs k _ hk'
                  simp only[ORel,hb] at hor
                  obtain⟨⟨c,hc,hcsz⟩,hrow,_,_,ho0⟩:=hor
                  obtain rfl:=ho0 trivial
                  obtain⟨c2,hc2,hcapsz⟩:=hown rfl
                  simp only[OwnV,e0,hb,Option.map_some]
                  refine⟨trivial,hU k List.mem_cons_self b 0 hb,x0,cap,c2,by rw[hlen],by rw[hlen];exact hcap,by simpa using hx,hc2,by simpa using hcapsz,fun j y hy=>?_⟩
                  obtain⟨ds,d1,d2⟩:=hrow j y (by have:=win_get hy;rwa [Nat.zero_add] at this)
                  exact⟨ds,d1.mono hS1 (fun _ _=>rfl),d2⟩
              · cases hh
            · cases hh
          · cases hh
      | junk=>simp [q0q] at hh
      | val _ _=>simp [q0q] at hh
      | ptr _ _ _=>simp [q0q] at hh
      | iptr _ _ _=>simp [q0q] at hh
      | nilp=>simp [q0q] at hh
      | fx _=>simp [q0q] at hh
      | agg _=>simp [q0q] at hh
      | tup _=>simp [q0q] at hh
      | clo _ _=>simp [q0q] at hh
    | int _=>simp [q0q] at hh
    | bool=>simp [q0q] at hh
    | str | os _ | op _=>simp [q0q] at hh
    | unit=>simp [q0q] at hh
    | pair _ _=>simp [q0q] at hh
   | lent =>
    cases t with
    | sl e =>
      cases v with
      | osl k off len =>
        simp only[q0q] at hh
        obtain⟨h1,hh⟩:=bif_else hh
        split at hh
        · cases hh
        · rename_i t' xs md hnf hk
          split at hh
          · rename_i ys hys
            obtain⟨rfl,rfl⟩:=cstl_eq hys
            split at hh
            · rename_i zs w' hw
              injection hh with hh
              injection hh with hh1 hh
              subst hh1
              refine⟨?_,ih hw hl hK (fun k hk=>hU k (List.mem_cons_of_mem _ hk)) (tailβ _ hβ)⟩
              have hk':=hs k _ hk
              obtain⟨hwin,h2⟩:=osl_val R hk' hu
              have hlen:=win_length hwin
              have hwl:=winOk_len hwin
              have e0:βc (i*8)=(β k).map fun p=>(p.1,p.2+off*t'.size):=by
                rw[hβ _ (Nat.le_refl _)]
                show conOf β ((i*8,(k,off*t'.size))::uses ps vs (i+1)) (i*8)=_
                simp [conOf,q6q]
              rcases h2 with ⟨hb,_,h3,rfl⟩ | ⟨b,o,x0,cap,hb,rfl,hcap,hx,hown⟩
              · simp only [LentV, e0, hb, Option.map_none]
                exact⟨List.eq_nil_of_length_eq_zero (by rw[hlen,h3]),trivial⟩
              · have hor := R.obs k _ hk'
                simp only[ORel,hb] at hor
                obtain⟨⟨c,hc,hcsz⟩,hrow,_,_,ho0⟩:=hor
                simp only[LentV,e0,hb,Option.map_some]
                have hm:=Nat.mul_le_mul_right t'.size hwl
                rw[Nat.add_mul] at hm
                refine⟨hU k List.mem_cons_self b o hb,x0,cap,c,by rw[hlen],by rw[hlen];exact hcap,hx,hc,by rw[hlen];omega,fun j y hy=>?_⟩
                obtain⟨ds,d1,d2⟩:=hrow (off+j) y (win_get hy)
                refine⟨ds,d1.mono hS1 (fun _ _=>rfl),?_⟩
                rw[Nat.add_mul,← Nat.add_assoc] at d2
                exact d2
            · cases hh
          · cases hh
        · cases hh
      | nil=>simp [q0q] at hh
      | junk=>simp [q0q] at hh
      | val _ _=>simp [q0q] at hh
      | ptr _ _ _=>simp [q0q] at hh
      | iptr _ _ _=>simp [q0q] at hh
      | nilp=>simp [q0q] at hh
      | fx _=>simp [q0q] at hh
      | agg _=>simp [q0q] at hh
      | tup _=>simp [q0q] at hh
      | clo _ _=>simp [q0q] at hh
    | int _=>simp [q0q] at hh
    | bool=>simp [q0q] at hh
    | str | os _ | op _=>simp [q0q] at hh
    | unit=>simp [q0q] at hh
    | pair _ _=>simp [q0q] at hh
end
variable {T:Told} {P:Program} {tb:Tb}
theorem ownK_ge:∀ {ps:List (Ty×PM)} {i n:Nat},n∈ownK ps i→i*8≤n:=by
 intro ps
 induction ps with
 | nil=>intro i n h;simp [ownK] at h
 | cons p ps ih =>
  intro i n h
  obtain⟨t,m⟩:=p
  cases m<;>simp only[ownK,List.mem_cons] at h
  · have:=ih h;omega
  · rcases h with rfl | h
    · exact Nat.le_refl _
    · have:=ih h;omega
  · have:=ih h;omega
theorem lentK_ge:∀ {ps:List (Ty×PM)} {i n:Nat},n∈lentK ps i→i*8≤n:=by
 intro ps
 induction ps with
 | nil=>intro i n h;simp [lentK] at h
 | cons p ps ih =>
  intro i n h
  obtain⟨t,m⟩:=p
  cases m<;>simp only[lentK,List.mem_cons] at h
  · have:=ih h;omega
  · have:=ih h;omega
  · rcases h with rfl | h
    · exact Nat.le_refl _
    · have:=ih h;omega
theorem ownK_lentK:∀ {ps:List (Ty×PM)} {i n:Nat},n∈ownK ps i→n ∉ lentK ps i:=by
 intro ps
 induction ps with
 | nil=>intro i n h;simp [ownK] at h
 | cons p ps ih =>
  intro i n h h'
  obtain⟨t,m⟩:=p
  cases m<;>simp only[ownK,lentK,List.mem_cons] at h h'
  · exact ih h h'
  · rcases h with rfl | h
    · have:=lentK_ge h';omega
    · exact ih h h'
  · rcases h' with rfl | h'
    · have:=ownK_ge h;omega
    · exact ih h h'
theorem nodup_get {l:List (Nat×(Nat×Nat))} (hn:(useK l).Nodup):∀ {n n' k o o':Nat},get l n=some (k,o)→get l n'=some (k,o')→n=n':=by
 induction l with
 | nil=>intro n n' k o o' h;simp [get] at h
 | cons x l ih =>
  intro n n' k o o' h h'
  obtain⟨m,k0,o0⟩:=x
  simp only[useK,List.map_cons,List.nodup_cons] at hn
  rw[q6q] at h h'
  have mem:∀ {n o},get l n=some (k,o)→k∈useK l:=fun h=>List.mem_map.2 ⟨_,get_mem h,rfl⟩
  split at h
  · split at h'
    · omega
    · injection h with h;injection h with h _;subst h;exact absurd (mem h') hn.1
  · split at h'
    · injection h' with h';injection h' with h' _;subst h';exact absurd (mem h) hn.1
    · exact ih hn.2 h h'
theorem callArgs_uses {h:Hp}:∀ {ps:List (Ty×PM)} {vs:List PV} {used seen:List Nat} {x:HL (fsts ps)} {w1:List (Nat×Ob)} {i:Nat},q0q h ps vs used seen=some (x,w1) →
  ∀ {n k off:Nat},(n,(k,off))∈uses ps vs i →
   (k∈keysW (goneW ps vs)∧n∈ownK ps i∧off=0∧∃ t xs,h k=some (.rows t xs .own))∨(n∈lentK ps i∧∃ t xs m,h k=some (.rows t xs m)∧m≠.frz):=by
 intro ps
 induction ps with
 | nil =>
  intro vs used seen x w1 i hh n k off hg
  cases vs<;>simp [uses] at hg
 | cons p ps ih =>
  intro vs used seen x w1 i hh n k off hg
  obtain⟨t,m⟩:=p
  cases vs with
  | nil=>cases m<;>simp [uses] at hg
  | cons v vs =>
   cases m with
   | imm =>
    have hh:(bif anyN (keysOf v.cells) used || !fits t v then none else
        (match decA h t v.cells with
        | some x=>(match q0q h ps vs used (keysOf v.cells++seen) with | some (xs,w)=>some ((x,xs),frzW h (keysOf v.cells)++w) | none=>none)
        | none=>none):Option (HL (fsts ((t,PM.imm)::ps))×List (Nat×Ob)))=some (x,w1):=by
      cases t<;>exact hh
    obtain⟨h1,hh⟩:=bif_else hh
    split at hh
    · split at hh
      · rename_i xs w' hw
        have eu:uses ((t,PM.imm)::ps) (v::vs) i=uses ps vs (i+1):=by cases t<;>cases v<;>rfl
        have eg:goneW ((t,PM.imm)::ps) (v::vs)=goneW ps vs:=by cases t<;>cases v<;>rfl
        rw[eu] at hg
        rw[eg]
        exact ih hw hg
      · cases hh
    · cases hh
   | own =>
    cases t with
    | sl e =>
      cases v with
      | nil =>
        simp only[q0q] at hh
        split at hh
        · rename_i xs w' hw
          exact(ih hw hg).imp (fun⟨h1,h2,h3⟩=>⟨h1,List.mem_cons_of_mem _ h2,h3⟩) id
        · cases hh
      | osl k0 off0 len =>
        cases off0 with
        | succ off=>simp [q0q] at hh
        | zero =>
          simp only[q0q] at hh
          obtain⟨h1,hh⟩:=bif_else hh
          split at hh
          · rename_i t' xs hk
            split at hh
            · split at hh
              · rename_i zs w' hw
                rcases List.mem_cons.1 hg with hg | hg
                · injection hg with e1 hg
                  injection hg with g1 g2
                  subst g1;subst g2;subst e1
                  exact .inl ⟨by simp [goneW,keysW],List.mem_cons_self,rfl,t',xs,hk⟩
                · exact(ih hw hg).imp (fun⟨h1,h2,h3⟩=>⟨List.mem_cons_of_mem _ h1,List.mem_cons_of_mem _ h2,h3⟩) id
              · cases hh
            · cases hh
          · cases hh
      | junk=>simp [q0q] at hh
      | val _ _=>simp [q0q] at hh
      | ptr _ _ _=>simp [q0q] at hh
      | iptr _ _ _=>simp [q0q] at hh
      | nilp=>simp [q0q] at hh
      | fx _=>simp [q0q] at hh
      | agg _=>simp [q0q] at hh
      | tup _=>simp [q0q] at hh
      | clo _ _=>simp [q0q] at hh
    | int _=>simp [q0q] at hh
    | bool=>simp [q0q] at hh
    | str | os _ | op _=>simp [q0q] at hh
    | unit=>simp [q0q] at hh
    | pair _ _=>simp [q0q] at hh
   | lent =>
    cases t with
    | sl e =>
      cases v with
      | osl k0 off0 len =>
        simp only[q0q] at hh
        obtain⟨h1,hh⟩:=bif_else hh
        split at hh
        · cases hh
        · rename_i t' xs md hnf hk
          split at hh
          · split at hh
            · rename_i zs w' hw
              rcases List.mem_cons.1 hg with hg | hg
              · injection hg with e1 hg
                injection hg with g1 g2
                subst g1;subst e1
                exact .inr ⟨List.mem_cons_self,t',xs,md,hk,hnf⟩
              · exact(ih hw hg).imp id (fun⟨h1,h2⟩=>⟨List.mem_cons_of_mem _ h1,h2⟩)
            · cases hh
          · cases hh
        · cases hh
      | nil=>simp [q0q] at hh
      | junk=>simp [q0q] at hh
      | val _ _=>simp [q0q] at hh
      | ptr _ _ _=>simp [q0q] at hh
      | iptr _ _ _=>simp [q0q] at hh
      | nilp=>simp [q0q] at hh
      | fx _=>simp [q0q] at hh
      | agg _=>simp [q0q] at hh
      | tup _=>simp [q0q] at hh
      | clo _ _=>simp [q0q] at hh
    | int _=>simp [q0q] at hh
    | bool=>simp [q0q] at hh
    | str | os _ | op _=>simp [q0q] at hh
    | unit=>simp [q0q] at hh
    | pair _ _=>simp [q0q] at hh
theorem callOuts_w {h:Hp} {w w':World} {S':Foot} {β βc:Con}:∀ {ps:List (Ty×PM)} {vs:List PV} {used seen:List Nat} {x:HL (fsts ps)} {w1:List (Nat×Ob)} {i:Nat} {y:HL (lents ps)} {w2:List (Nat×Ob)},
  q0q h ps vs used seen=some (x,w1)→callOuts h ps vs y=some w2→LentsO w w' S' βc ps i x y→(∀ n,i*8≤n→βc n=conOf β (uses ps vs i) n) →
  (∀ n k off,get (uses ps vs i) n=some (k,off)→n∈lentK ps i→k∈keysW w2) ∧
  ∀ k ob,get w2 k=some ob→∃ (n off:Nat) (len:Option Nat) (t:Ty) (xs ys:List t.den) (m:Md),get (uses ps vs i) n=some (k,off*t.size)∧n∈lentK ps i∧h k=some (.rows t xs m)∧ob=.rows t (over xs off ys) m ∧
   LentO w w' S' ((β k).map fun p=>(p.1,p.2+off*t.size)) t (win xs off len) ys∧∃ j:Nat,vs[j]?=some (PV.osl k off len):=by
 intro ps
 induction ps with
 | nil =>
  intro vs used seen x w1 i y w2 hh ho hl hβ
  cases vs with
  | nil =>
   simp only[callOuts] at ho
   injection ho with ho
   subst ho
   exact⟨fun n k off h=>by simp [uses,get] at h,fun k ob h=>by simp [get] at h⟩
  | cons v vs=>simp [q0q] at hh
 | cons p ps ih =>
  intro vs used seen x w1 i y w2 hh ho hl hβ
  obtain⟨t,m⟩:=p
  cases vs with
  | nil=>cases t<;>cases m<;>simp [q0q] at hh
  | cons v vs =>
   cases m with
   | imm =>
    have hh:(bif anyN (keysOf v.cells) used || !fits t v then none else
        (match decA h t v.cells with
        | some x=>(match q0q h ps vs used (keysOf v.cells++seen) with | some (xs,w)=>some ((x,xs),frzW h (keysOf v.cells)++w) | none=>none)
        | none=>none):Option (HL (fsts ((t,PM.imm)::ps))×List (Nat×Ob)))=some (x,w1):=by
      cases t<;>exact hh
    obtain⟨h1,hh⟩:=bif_else hh
    split at hh
    · split at hh
      · rename_i xs wq hw
        injection hh with hh
        injection hh with hh1 hh
        subst hh1
        have eu:uses ((t,PM.imm)::ps) (v::vs) i=uses ps vs (i+1):=by cases t<;>cases v<;>rfl
        rw[eu] at hβ ⊢
        have ho':callOuts h ps vs y=some w2:=by cases t<;>exact ho
        have hl':LentsO w w' S' βc ps (i+1) xs y:=by cases t<;>exact hl
        obtain⟨r1,r2⟩:=ih hw ho' hl' (fun n hn=>hβ n (by omega))
        refine⟨r1,fun k ob hk=>?_⟩
        obtain⟨n,off,len,t,xs,ys,m,q1,q2,q3,q4,q5,j,q6⟩:=r2 k ob hk
        exact⟨n,off,len,t,xs,ys,m,q1,q2,q3,q4,q5,j+1,q6⟩
      · cases hh
    · cases hh
   | own =>
    cases t with
    | sl e =>
      cases v with
      | nil =>
        simp only[q0q] at hh
        split at hh
        · rename_i xs wq hw
          injection hh with hh
          injection hh with hh1 hh
          subst hh1
          obtain⟨r1,r2⟩:=ih (i:=i+1) hw ho hl (fun n hn=>hβ n (by omega))
          refine⟨r1,fun k ob hk=>?_⟩
          obtain⟨n,off,len,t,xs,ys,m,q1,q2,q3,q4,q5,j,q6⟩:=r2 k ob hk
          exact⟨n,off,len,t,xs,ys,m,q1,q2,q3,q4,q5,j+1,q6⟩
        · cases hh
      | osl k0 off0 len =>
        cases off0 with
        | succ off=>simp [q0q] at hh
        | zero =>
          simp only[q0q] at hh
          obtain⟨h1,hh⟩:=bif_else hh
          split at hh
          · split at hh
            · split at hh
              · rename_i zs wq hw
                injection hh with hh
                injection hh with hh1 hh
                subst hh1
                have hβ':∀ n,(i+1)*8≤n→βc n=conOf β (uses ps vs (i+1)) n:=fun n hn=>by
                  rw[hβ n (by omega)]
                  simp only[uses,conOf,q6q,if_neg (show ¬ i*8=n by omega)]
                obtain⟨r1,r2⟩:=ih (i:=i+1) hw ho hl hβ'
                have hne:∀ n,n∈lentK ps (i+1)→¬ i*8=n:=fun n hn=>by have:=lentK_ge hn;omega
                refine⟨fun n k off hg hn=>r1 n k off ?_ hn,fun k ob hk=>?_⟩
                · simp only[uses,q6q,if_neg (hne n hn)] at hg;exact hg
                · obtain ⟨n, off, len, t, xs, ys, m, q1, q2, q3, q4, q5, j, q6⟩ := r2 k ob hk
                  exact⟨n,off,len,t,xs,ys,m,by simp only[uses,q6q,if_neg (hne n q2)];exact q1,q2,q3,q4,q5,j+1,q6⟩
              · cases hh
            · cases hh
          · cases hh
      | junk=>simp [q0q] at hh
      | val _ _=>simp [q0q] at hh
      | ptr _ _ _=>simp [q0q] at hh
      | iptr _ _ _=>simp [q0q] at hh
      | nilp=>simp [q0q] at hh
      | fx _=>simp [q0q] at hh
      | agg _=>simp [q0q] at hh
      | tup _=>simp [q0q] at hh
      | clo _ _=>simp [q0q] at hh
    | int _=>simp [q0q] at hh
    | bool=>simp [q0q] at hh
    | str | os _ | op _=>simp [q0q] at hh
    | unit=>simp [q0q] at hh
    | pair _ _=>simp [q0q] at hh
   | lent =>
    cases t with
    | sl e =>
      cases v with
      | osl k0 off0 len =>
        simp only[q0q] at hh
        obtain⟨h1,hh⟩:=bif_else hh
        split at hh
        · cases hh
        · rename_i t' xs md hnf hk
          split at hh
          · rename_i us hus
            obtain⟨rfl,rfl⟩:=cstl_eq hus
            split at hh
            · rename_i zs wq hw
              injection hh with hh
              injection hh with hh1 hh
              subst hh1
              obtain⟨y0,y⟩:=y
              simp only[callOuts,hk] at ho
              split at ho
              · rename_i z0 hz0
                obtain⟨e0,rfl⟩:=cstl_eq hz0
                split at ho
                · rename_i w3 hw3
                  injection ho with ho
                  subst ho
                  obtain⟨hl0,hl⟩:=hl
                  have hβ':∀ n,(i+1)*8≤n→βc n=conOf β (uses ps vs (i+1)) n:=fun n hn=>by
                    rw[hβ n (by omega)]
                    simp only[uses,conOf,q6q,if_neg (show ¬ i*8=n by omega)]
                  obtain⟨r1,r2⟩:=ih (i:=i+1) hw hw3 hl hβ'
                  have hne:∀ n,n∈lentK ps (i+1)→¬ i*8=n:=fun n hn=>by have:=lentK_ge hn;omega
                  have e1:βc (i*8)=(β k0).map fun p=>(p.1,p.2+off0*t'.size):=by
                    rw[hβ _ (Nat.le_refl _)]
                    show conOf β ((i*8,(k0,off0*t'.size))::uses ps vs (i+1)) (i*8)=_
                    simp [conOf,q6q]
                  refine⟨fun n k off hg hn=>?_,fun k ob hk'=>?_⟩
                  · simp only [uses, q6q] at hg
                    simp only[keysW,List.map_cons,List.mem_cons]
                    split at hg
                    · injection hg with hg;injection hg with hg _;exact .inl hg.symm
                    · refine .inr (r1 n k off hg ?_)
                      rename_i hh
                      rcases List.mem_cons.1 hn with h | h
                      · exact absurd h.symm hh
                      · exact h
                  · rw [q6q] at hk'
                    split at hk'
                    · rename_i e2
                      subst e2
                      injection hk' with hk'
                      subst hk'
                      rw[e1] at hl0
                      exact⟨i*8,off0,len,t',_,_,md,by simp [uses,q6q],List.mem_cons_self,hk,rfl,hl0,0,rfl⟩
                    · obtain ⟨n, off, len', t, xs, ys, m, q1, q2, q3, q4, q5, j, q6⟩ := r2 k ob hk'
                      exact⟨n,off,len',t,xs,ys,m,by simp only[uses,q6q,if_neg (hne n q2)];exact q1,List.mem_cons_of_mem _ q2,q3,q4,q5,j+1,q6⟩
                · cases ho
              · cases ho
            · cases hh
          · cases hh
        · cases hh
      | nil=>simp [q0q] at hh
      | junk=>simp [q0q] at hh
      | val _ _=>simp [q0q] at hh
      | ptr _ _ _=>simp [q0q] at hh
      | iptr _ _ _=>simp [q0q] at hh
      | nilp=>simp [q0q] at hh
      | fx _=>simp [q0q] at hh
      | agg _=>simp [q0q] at hh
      | tup _=>simp [q0q] at hh
      | clo _ _=>simp [q0q] at hh
    | int _=>simp [q0q] at hh
    | bool=>simp [q0q] at hh
    | str | os _ | op _=>simp [q0q] at hh
    | unit=>simp [q0q] at hh
    | pair _ _=>simp [q0q] at hh
theorem nOwn_le (rs:List (Ty×Bool)):nOwn rs≤rs.length:=by
 induction rs with
 | nil=>exact Nat.le_refl _
 | cons r rs ih=>obtain⟨t,b⟩:=r;cases b<;>simp only[nOwn,List.length_cons]<;>omega
theorem callRes_w {h:Hp} {w':World} {S':Foot} {ρ:Con}:∀ {rs:List (Ty×Bool)} {y:HL (fsts rs)} {k j:Nat} {l:List PV} {w3:List (Nat×Ob)} {vs:List Value},callRes h rs y k=some (l,w3)→ResV w' S' ρ rs j y vs →
  l.length=rs.length∧∀ n ob,get w3 n=some ob→k≤n∧n<k+nOwn rs∧h n=none∧∃ (e:Ty) (xs:List e.den) (v:Value),ob=.rows e xs .own∧OwnV w' S' (ρ (j+(n-k))) e xs v:=by
 intro rs
 induction rs with
 | nil =>
  intro y k j l w3 vs hh hr
  simp only[callRes] at hh
  injection hh with hh
  injection hh with h1 h2
  subst h1;subst h2
  exact⟨rfl,fun n ob h=>by simp [get] at h⟩
 | cons r rs ih =>
  intro y k j l w3 vs hh hr
  obtain⟨t,m⟩:=r
  obtain⟨x,q⟩:=y
  cases m with
  | false =>
   have hh:(match callRes h rs q k with | some (l,w)=>some (toPV t x::l,w) | none=>none)=some (l,w3):=by cases t<;>exact hh
   cases vs with
   | nil=>exfalso;cases t<;>exact hr
   | cons v vs =>
    have hr:VRel w' S' t x v∧ResV w' S' ρ rs j q vs:=by cases t<;>exact hr
    split at hh
    · rename_i l0 w0 h0
      injection hh with hh
      injection hh with h1 h2
      subst h1;subst h2
      obtain⟨a1,a2⟩:=ih h0 hr.2
      refine⟨by simp [a1],fun n ob hn=>?_⟩
      obtain⟨b1,b2,b3,e,xs,v',b4,b5⟩:=a2 n ob hn
      exact⟨b1,by simp only[nOwn];omega,b3,e,xs,v',b4,b5⟩
    · cases hh
  | true =>
   cases t with
   | sl e =>
    cases vs with
    | nil=>exact hr.elim
    | cons v vs =>
      obtain⟨hr0,hr⟩:=hr
      simp only[callRes] at hh
      split at hh
      · rename_i hkn
        split at hh
        · rename_i l0 w0 h0
          injection hh with hh
          injection hh with h1 h2
          subst h1;subst h2
          obtain⟨a1,a2⟩:=ih h0 hr
          refine⟨by simp [a1],fun n ob hn=>?_⟩
          rw[q6q] at hn
          split at hn
          · rename_i e1
            subst e1
            injection hn with hn
            subst hn
            exact⟨Nat.le_refl _,by simp only[nOwn];omega,hkn,e,x,v,rfl,by simpa using hr0⟩
          · obtain ⟨b1, b2, b3, e, xs, v', b4, b5⟩ := a2 n ob hn
            exact⟨by omega,by simp only[nOwn];omega,b3,e,xs,v',b4,by rwa [show j+(n-k)=j+1+(n-(k+1)) by omega]⟩
        · cases hh
      · cases hh
   | int _=>simp [callRes] at hh
   | bool=>simp [callRes] at hh
   | str | os _ | op _=>simp [callRes] at hh
   | unit=>simp [callRes] at hh
   | pair _ _=>simp [callRes] at hh
theorem callRes_v {h:Hp} {w':World} {S':Foot} {ρ β':Con} {g':Hp}:∀ {rs:List (Ty×Bool)} {y:HL (fsts rs)} {k j:Nat} {l:List PV} {w3:List (Nat×Ob)} {vs:List Value},callRes h rs y k=some (l,w3)→ResV w' S' ρ rs j y vs →
  (∀ n ob,get w3 n=some ob→g' n=some ob∧β' n=ρ (j+(n-k)))→All2 (TRel1 w' S' β' g') l vs:=by
 intro rs
 induction rs with
 | nil =>
  intro y k j l w3 vs hh hr hg
  simp only[callRes] at hh
  injection hh with hh
  injection hh with h1 h2
  subst h1
  cases vs with
  | nil=>trivial
  | cons _ _=>exact hr.elim
 | cons r rs ih =>
  intro y k j l w3 vs hh hr hg
  obtain⟨t,m⟩:=r
  obtain⟨x,q⟩:=y
  cases m with
  | false =>
   have hh:(match callRes h rs q k with | some (l,w)=>some (toPV t x::l,w) | none=>none)=some (l,w3):=by cases t<;>exact hh
   cases vs with
   | nil=>exfalso;cases t<;>exact hr
   | cons v vs =>
    have hr:VRel w' S' t x v∧ResV w' S' ρ rs j q vs:=by cases t<;>exact hr
    split at hh
    · rename_i l0 w0 h0
      injection hh with hh
      injection hh with h1 h2
      subst h1;subst h2
      refine⟨hr.1.rel,ih h0 hr.2 fun n ob hn=>?_⟩
      exact hg n ob hn
    · cases hh
  | true =>
   cases t with
   | sl e =>
    cases vs with
    | nil=>exact hr.elim
    | cons v vs =>
      obtain⟨hr0,hr⟩:=hr
      simp only[callRes] at hh
      split at hh
      · rename_i hkn
        split at hh
        · rename_i l0 w0 h0
          injection hh with hh
          injection hh with h1 h2
          subst h1;subst h2
          refine⟨?_,ih h0 hr fun n ob hn=>?_⟩
          · obtain ⟨g1, g2⟩ := hg k (.rows e x .own) (by simp [q6q])
            have:TRel0 w' S' β' g' (.osl k 0 none) v:=by
             simp only[TRel0,g1]
             refine⟨by simp [winOk],?_⟩
             rw[Nat.sub_self,Nat.add_zero] at g2
             simp only[OslV,g2]
             simp only[OwnV] at hr0
             cases hρ:ρ j with
             | none=>rw[hρ] at hr0;obtain⟨rfl,rfl⟩:=hr0;simp [wlen]
             | some p =>
              obtain⟨b,o⟩:=p
              rw[hρ] at hr0
              obtain⟨rfl,_,x0,cap,c,rfl,h1,h2,h3,h4,_⟩:=hr0
              exact⟨x0,cap,by simp [wlen],by simpa [wlen] using h1,by simpa using h2,fun _=>⟨c,h3,by simpa using h4⟩⟩
            exact this.up1
          · have hb := (callRes_w h0 hr).2 n ob hn
            obtain⟨g1,g2⟩:=hg n ob (by rw[q6q,if_neg (by omega)];exact hn)
            exact⟨g1,by rw[g2];congr 1;omega⟩
        · cases hh
      · cases hh
   | int _=>simp [callRes] at hh
   | bool=>simp [callRes] at hh
   | str | os _ | op _=>simp [callRes] at hh
   | unit=>simp [callRes] at hh
   | pair _ _=>simp [callRes] at hh
theorem callRes_flat {h:Hp}:∀ {rs:List (Ty×Bool)} {y:HL (fsts rs)} {k:Nat} {l:List PV} {w3:List (Nat×Ob)},callRes h rs y k=some (l,w3)→flatR rs=true →
  ∀ n t xs m,get w3 n=some (.rows t xs m)→t.flat=true:=by
 intro rs
 induction rs with
 | nil=>intro y k l w3 h1 _ n t xs m hg;simp only[callRes,Option.some.injEq,Prod.mk.injEq] at h1;obtain⟨_,rfl⟩:=h1;simp [get] at hg
 | cons p rs ih =>
  intro y k l w3 h1 hf n t xs m hg
  obtain⟨t0,b0⟩:=p
  obtain⟨x,q⟩:=y
  cases b0 with
  | false =>
   have hh:(match callRes h rs q k with | some (l,w)=>some (toPV t0 x::l,w) | none=>none)=some (l,w3):=by cases t0<;>exact h1
   have hf':flatR rs=true:=by cases t0<;>exact hf
   split at hh
   · rename_i l' w' hw
     injection hh with hh
     injection hh with _ hh
     subst hh
     exact ih hw hf' n t xs m hg
   · cases hh
  | true =>
   cases t0 with
   | sl e =>
     simp only[callRes] at h1
     simp only[flatR,Bool.and_eq_true] at hf
     split at h1
     · split at h1
       · rename_i l' w' hw
         injection h1 with h1
         injection h1 with _ h1
         subst h1
         rw[q6q] at hg
         split at hg
         · injection hg with hg;injection hg with hg;subst hg;exact hf.1
         · exact ih hw hf.2 n t xs m hg
       · cases h1
     · cases h1
   | int _=>simp [callRes] at h1
   | bool=>simp [callRes] at h1
   | str=>simp [callRes] at h1
   | unit=>simp [callRes] at h1
   | pair _ _=>simp [callRes] at h1
   | os _=>simp [callRes] at h1
   | op _=>simp [callRes] at h1
theorem callOuts_flat {h:Hp}:∀ {ps:List (Ty×PM)} {vs:List PV} {y:HL (lents ps)} {w2:List (Nat×Ob)},callOuts h ps vs y=some w2→flatP ps=true →
  ∀ n t xs m,get w2 n=some (.rows t xs m)→t.flat=true:=by
 intro ps
 induction ps with
 | nil =>
  intro vs y w2 h1 _ n t xs m hg
  cases vs with
  | nil=>simp only[callOuts,Option.some.injEq] at h1;subst h1;simp [get] at hg
  | cons _ _=>simp [callOuts] at h1
 | cons p ps ih =>
  intro vs y w2 h1 hf n t xs m hg
  obtain⟨t0,m0⟩:=p
  cases vs with
  | nil=>cases t0<;>cases m0<;>simp [callOuts] at h1
  | cons v vs =>
   cases m0 with
   | imm =>
    have h2:∃ y':HL (lents ps),callOuts h ps vs y'=some w2:=by cases t0<;>exact⟨y,h1⟩
    obtain⟨y',h2⟩:=h2
    exact ih h2 (by cases t0<;>exact hf) n t xs m hg
   | own =>
    have h2:∃ y':HL (lents ps),callOuts h ps vs y'=some w2:=by cases t0<;>exact⟨y,h1⟩
    obtain⟨y',h2⟩:=h2
    exact ih h2 (by cases t0<;>first | exact hf | (simp only[flatP,Bool.and_eq_true] at hf;exact hf.2)) n t xs m hg
   | lent =>
    cases t0 with
    | sl e =>
     simp only[flatP,Bool.and_eq_true] at hf
     cases v with
     | osl k off len =>
      obtain⟨ys,r⟩:=y
      simp only[callOuts] at h1
      split at h1
      · rename_i t1 xs1 m1 hk
        split at h1
        · rename_i zs hz
          obtain⟨e1,_⟩:=cstl_eq hz
          split at h1
          · rename_i w' hw
            injection h1 with h1
            subst h1
            rw[q6q] at hg
            split at hg
            · injection hg with hg;injection hg with hg;subst hg;rw[← e1];exact hf.1
            · exact ih hw hf.2 n t xs m hg
          · cases h1
        · cases h1
      · cases h1
     | junk=>simp [callOuts] at h1
     | val _ _=>simp [callOuts] at h1
     | nil=>simp [callOuts] at h1
     | ptr _ _ _=>simp [callOuts] at h1
     | iptr _ _ _=>simp [callOuts] at h1
     | nilp=>simp [callOuts] at h1
     | fx _=>simp [callOuts] at h1
     | agg _=>simp [callOuts] at h1
     | tup _=>simp [callOuts] at h1
     | clo _ _=>simp [callOuts] at h1
    | int _=>simp [callOuts] at h1
    | bool=>simp [callOuts] at h1
    | str=>simp [callOuts] at h1
    | unit=>simp [callOuts] at h1
    | pair _ _=>simp [callOuts] at h1
    | os _=>simp [callOuts] at h1
    | op _=>simp [callOuts] at h1
variable {T:Told} {P:Program} {tb:Tb}
theorem run_callFunc {f : FuncId} {fn : Func} (h1 : P.funcs[f]? = some fn) (h2 : (fn.name == "runtime.NumGoroutine") = false) (h3 : fn.body.isNone = false) (args : Array Value) (w : World) :
  (callFunc f args).run P w=.ok (.enter f args) w:=by
 have h2' : ¬ fn.name = "runtime.NumGoroutine" := by simpa using h2
 have h3':¬ fn.body=none:=by intro e;rw[e] at h3;cases h3
 unfold callFunc
 simp [Sem.run_bind,h1,h2',h3']
theorem rowAt_over' {w w':World} {S S':Foot} (hS:∀ b,S b→S' b) (hw:∀ b,S b→w'.heap[b]?=w.heap[b]?) {t:Ty} {xs ys:List t.den} {b o off:Nat} {c0 c:Array Value} (hc0:Blk w b c0) (hc:Blk w' b c)
   (hr:RowAt (Cell w S t) t.size w b o xs) (hoff:off+ys.length≤xs.length) (hout:∀ j,(j<o+off*t.size∨o+off*t.size+ys.length*t.size≤j)→c[j]?=c0[j]?)
   (hn:RowAt (Cell w' S' t) t.size w' b (o+off*t.size) ys):RowAt (Cell w' S' t) t.size w' b o (over xs off ys):=by
 intro i x hx
 rcases over_get hoff hx with ⟨hi,hx⟩ | ⟨hi1,hi2,hx⟩
 · obtain ⟨ds, e1, e2⟩ := hr i x hx
   refine⟨ds,e1.mono hS hw,fun j v hv=>?_⟩
   have hj:=(List.getElem?_eq_some_iff.1 hv).1
   rw[e1.length] at hj
   have h3:=e2 j v hv
   rw[hc0.cell] at h3
   rw[hc.cell,hout]
   · exact h3
   · rcases hi with hi | hi
     · left
       have:=Nat.mul_le_mul_right t.size (show i+1≤off from hi)
       rw[Nat.add_mul,Nat.one_mul] at this;omega
     · right
       have:=Nat.mul_le_mul_right t.size hi
       rw[Nat.add_mul] at this;omega
 · obtain ⟨ds, e1, e2⟩ := hn _ x hx
   refine⟨ds,e1,?_⟩
   rwa [show o+i*t.size=o+off*t.size+(i-off)*t.size by
     have:i*t.size=off*t.size+(i-off)*t.size:=by rw[← Nat.add_mul];congr 1;omega
     omega]
theorem goneW_gone:∀ {ps:List (Ty×PM)} {vs:List PV} {k:Nat} {ob:Ob},get (goneW ps vs) k=some ob→ob=.gone:=by
 intro ps
 induction ps with
 | nil=>intro vs k ob h;cases vs<;>simp [goneW,get] at h
 | cons p ps ih =>
  intro vs k ob h
  obtain⟨t,m⟩:=p
  cases vs with
  | nil=>cases t<;>cases m<;>simp [goneW,get] at h
  | cons v vs =>
   have hd:∀ q,get ((q,Ob.gone)::goneW ps vs) k=some ob→ob=.gone:=by
    intro q h
    rw[q6q] at h
    split at h
    · injection h with h;exact h.symm
    · exact ih h
   cases m with
   | own=>cases t<;>cases v<;>first | exact ih h | exact hd _ h
   | imm=>cases t<;>cases v<;>exact ih h
   | lent=>cases t<;>cases v<;>exact ih h
theorem goneW_uses:∀ {ps:List (Ty×PM)} {vs:List PV} {i k:Nat},k∈keysW (goneW ps vs)→∃ n off,(n,(k,off))∈uses ps vs i∧n∈ownK ps i:=by
 intro ps
 induction ps with
 | nil=>intro vs i k h;cases vs<;>simp [goneW,keysW] at h
 | cons p ps ih =>
  intro vs i k h
  obtain⟨t,m⟩:=p
  cases vs with
  | nil=>cases t<;>cases m<;>simp [goneW,keysW] at h
  | cons v vs =>
   cases m with
   | own =>
    have tl:k∈keysW (goneW ps vs)→∃ n off,(n,(k,off))∈uses ps vs (i+1)∧n∈ownK ((t,PM.own)::ps) i:=fun h=>by
     obtain⟨n,off,h1,h2⟩:=ih (i:=i+1) h
     exact⟨n,off,h1,List.mem_cons_of_mem _ h2⟩
    have hd:∀ q,k∈keysW ((q,Ob.gone)::goneW ps vs)→∃ n off,(n,(k,off))∈(i*8,(q,0))::uses ps vs (i+1)∧n∈ownK ((t,PM.own)::ps) i:=by
     intro q h
     simp only[keysW,List.map_cons,List.mem_cons] at h
     rcases h with rfl | h
     · exact⟨i*8,0,List.mem_cons_self,List.mem_cons_self⟩
     · obtain ⟨n, off, h1, h2⟩ := tl h
       exact⟨n,off,List.mem_cons_of_mem _ h1,h2⟩
    cases t<;>cases v<;>first | exact tl h | exact hd _ h
   | imm=>cases t<;>cases v<;>exact ih h
   | lent =>
    have hh:k∈keysW (goneW ps vs):=by cases t<;>cases v<;>exact h
    obtain⟨n,off,h1,h2⟩:=ih (i:=i+1) hh
    refine⟨n,off,?_,h2⟩
    cases t<;>cases v<;>first | exact h1 | exact List.mem_cons_of_mem _ h1
theorem nodup_mem {l:List (Nat×(Nat×Nat))} (hn:(useK l).Nodup):∀ {n n' k o o':Nat},(n,(k,o))∈l→(n',(k,o'))∈l→n=n':=by
 induction l with
 | nil=>intro n n' k o o' h;simp at h
 | cons x l ih =>
  intro n n' k o o' h h'
  simp only[useK,List.map_cons,List.nodup_cons] at hn
  have mem:∀ {n o},(n,(k,o))∈l→k∈useK l:=fun h=>List.mem_map.2 ⟨_,h,rfl⟩
  rcases List.mem_cons.1 h with e | g
  · subst e
    rcases List.mem_cons.1 h' with e' | g'
    · injection e' with e' _;exact e'.symm
    · exact absurd (mem g') hn.1
  · rcases List.mem_cons.1 h' with e' | g'
    · subst e';exact absurd (mem g) hn.1
    · exact ih hn.2 g g'
theorem call_sim0 {env:Env} (hE:EnvOk T P env) {o:Oper} {s:St} {hp:Hp} (hs:Sub hp s) {f:FuncId} {ct:Ctr} (hf:env f=some ct) (hwi:ct.wi=none) {args:List PV} {d:Nat} (hd:o.dst=some d)
   (hn:∀ k,d*8≤k→k<d*8+8→hp k=none→get s.h k=none) {ef:Eff}
   (hrun:∀ (B:Base) (w:World) (S:Foot) (β:Con) (a:Act),Rel T B w S β s a→∃ us:List Value,(execOp a.eval o).run P w=(callFunc f us.toArray).run P w∧All2 (TRel w S β (get s.h)) args us)
   (h:effCall0 hp o.dst ct args some=some ef):OpSim T P o s ef:=by
 intro B w S β a R hdo next Q hnx
 obtain⟨us,hrun,hus⟩:=hrun B w S β a R
 obtain⟨⟨fn,f1,f2,f3⟩,hdoes,hflat⟩:=hE f ct hf
 simp only[Ctr.flat,Bool.and_eq_true] at hflat
 rw[hwi] at hdoes
 unfold Oper.wp
 rw[hrun,run_callFunc f1 f2 f3]
 rw[hd] at h
 unfold effCall0 at h
 simp only at h
 split at h
 · rename_i x w1 hca
   cases hF:ct.F x with
   | none=>rw[hF] at h;cases h
   | some r =>
    rw[hF] at h
    simp only[Option.bind_some] at h
    split at h
    · rename_i w2 hco
      have hres:∃ l w3,callRes hp ct.rs (ct.enc r).2 (d*8)=some (l,w3)∧(l.length≤8∨nOwn ct.rs≤8)∧ef.hw=w3++w2++w1∧((∃ v,l=[v]∧ef.v=some v)∨((∀ v,l≠[v])∧ef.v=some (.tup l))):=by
       split at h
       · rename_i v w3 hr;injection h with h;subst h;exact⟨[v],w3,hr,.inl (by simp),rfl,.inl ⟨v,rfl,rfl⟩⟩
       · rename_i l w3 hne hr
         obtain⟨h1,h⟩:=q8q h
         injection h with h;subst h
         exact⟨l,w3,hr,.inr (Nat.le_of_ble_eq_true h1),rfl,.inr ⟨fun v e=>hne v (by rw[e]),rfl⟩⟩
       · cases h
      clear h
      obtain⟨l,w3,hcr,hl8,hhw,hv⟩:=hres
      obtain⟨k1,k2,k3,k4,k5⟩:=callArgs_keys hca 0
      obtain⟨S1,R1,hS1,hS1n,hdec⟩:=R.frz hs (immKeys ct.ps args)
      generalize hK:immKeys ct.ps args=K at *
      have hfz:∀ k,k ∉ K→get (frzW hp K++s.h) k=get s.h k:=fun k hk=>by rw[q2q,frzW_none hk];rfl
      have huse:∀ {n k off:Nat},(n,(k,off))∈uses ct.ps args 0→k ∉ K∧∃ t xs m,hp k=some (.rows t xs m)∧m≠.frz:=by
       intro n k off hg
       refine⟨(k2 k (List.mem_map.2 ⟨_,hg,rfl⟩)).2.2,?_⟩
       rcases callArgs_uses hca hg with ⟨_,_,_,t,xs,h⟩ | ⟨_,t,xs,m,h1,h2⟩
       · exact⟨t,xs,_,h,by simp⟩
       · exact⟨t,xs,m,h1,h2⟩
      have hlive:∀ {n k off:Nat},(n,(k,off))∈uses ct.ps args 0→∃ ob,get s.h k=some ob∧ob.live=true∧get (frzW hp K++s.h) k=some ob:=by
       intro n k off hg
       obtain⟨h1,t,xs,m,h2,h3⟩:=huse hg
       exact⟨_,hs k _ h2,by cases m<;>first | rfl | exact absurd rfl h3,by rw[hfz k h1];exact hs k _ h2⟩
      have huS:∀ k∈useK (uses ct.ps args 0),∀ b o',β k=some (b,o')→¬ S1 b:=by
       intro k hk b o' hb
       obtain⟨⟨n,k',off⟩,hm,rfl⟩:=List.mem_map.1 hk
       obtain⟨ob,_,h2,h3⟩:=hlive hm
       exact(R1.liveS h3 h2 hb).1
      have hcon:∀ {n b o':Nat},conOf β (uses ct.ps args 0) n=some (b,o')→∃ k off o1,get (uses ct.ps args 0) n=some (k,off)∧β k=some (b,o1)∧o'=o1+off:=by
       intro n b o' hc
       unfold conOf at hc
       split at hc
       · rename_i k off hg
         cases hb:β k with
         | none=>rw[hb] at hc;cases hc
         | some p =>
           obtain⟨b1,o1⟩:=p
           rw[hb] at hc
           simp only[Option.map_some] at hc
           injection hc with hc
           injection hc with h1 h2
           subst h1
           exact⟨k,off,o1,hg,hb,h2.symm⟩
       · cases hc
      have hsame:∀ {k k' b o1 o2 n n' off off':Nat},(n,(k,off))∈uses ct.ps args 0→(n',(k',off'))∈uses ct.ps args 0→β k=some (b,o1)→β k'=some (b,o2)→k=k':=by
       intro k k' b o1 o2 n n' off off' hg hg' hb hb'
       obtain⟨ob,h1,h2,_⟩:=hlive hg
       obtain⟨ob',h1',h2',_⟩:=hlive hg'
       exact R.inj k k' ob ob' b o1 o2 h1 h2 h1' h2' hb hb'
      have hen:Enter T w S1 (conOf β (uses ct.ps args 0)) ct.ps x us:=by
       refine⟨callArgs_args R hs hS1 hdec hca hus (fun k hk=>by rw[← hK];exact hk) huS (fun _ _=>rfl),fun n b o' hc=>?_,fun n n' b o1 o2 h1 h2=>?_,R1.Slt,R1.told,fun b hb=>R1.S0 b (R1.toldS b hb)⟩
       · obtain ⟨k, off, o1, hg, _⟩ := hcon hc
         exact(uses_ge hg).2
       · obtain ⟨k, off, o1', hg, hb, _⟩ := hcon h1
         obtain⟨k',off',o2',hg',hb',_⟩:=hcon h2
         have:=hsame (get_mem hg) (get_mem hg') hb hb'
         subst this
         exact nodup_get k1 hg hg'
      refine Calls.mono (hdoes x r hF w S1 _ us hen) fun e w' he=>?_
      cases e with
      | panicked c=>exact he.elim
      | outgrown=>exact he.elim
      | returned v =>
       obtain⟨S',ρ,L⟩:=he
       obtain⟨vs,rfl,hrs⟩:=L.res
       obtain⟨hll,hw3⟩:=callRes_w hcr hrs
       obtain⟨o1,o2⟩:=callOuts_w (β:=β) hca hco L.outs (fun _ _=>rfl)
       have hnew:∀ n ob,get w3 n=some ob→get s.h n=none:=fun n ob hg=>by
         obtain⟨a1,a2,a3,_⟩:=hw3 n ob hg
         have:=nOwn_le ct.rs
         exact hn n a1 (by omega) a3
       have hnew':∀ n ob,get w3 n=some ob→get (frzW hp K++s.h) n=none:=fun n ob hg=>by
         have h1:=hnew n ob hg
         rw[q2q,h1]
         cases hq:get (frzW hp K) n with
         | none=>rfl
         | some ob' =>
           obtain⟨ob0,q1,_⟩:=get_frzW hq
           rw[hs n _ q1] at h1;cases h1
       let β':Con:=fun n=>if n∈keysW w3 then ρ (n-d*8) else β n
       have hβ3:∀ n ob,get w3 n=some ob→β' n=ρ (n-d*8):=fun n ob hg=>by simp only[β',if_pos (mem_keysW_of_get hg)]
       have hβo:∀ n ob,get s.h n=some ob→β' n=β n:=fun n ob hg=>by
         have:n ∉ keysW w3:=fun hm=>by
           obtain⟨ob',h'⟩:=q13q hm
           rw[hnew n ob' h'] at hg;cases hg
         simp only[β',if_neg this]
       have hownk:∀ {n b o':Nat},n∈ownK ct.ps 0→conOf β (uses ct.ps args 0) n=some (b,o')→∃ k t xs,get s.h k=some (.rows t xs .own)∧k∈keysW (goneW ct.ps args)∧β k=some (b,0)∧o'=0:=by
         intro n b o' hm hc
         obtain⟨k,off,o1',hg,hb,rfl⟩:=hcon hc
         rcases callArgs_uses hca (get_mem hg) with ⟨g1,_,rfl,t,xs,g2⟩ | ⟨g1,_⟩
         · have g3 := hs k _ g2
           have:=R.obs k _ g3
           simp only[ORel,hb] at this
           have h0:=this.2.2.2.2 trivial
           subst h0
           exact⟨k,t,xs,g3,g1,hb,rfl⟩
         · exact absurd g1 (ownK_lentK hm)
       have hWk:∀ {n b o':Nat},conOf β (uses ct.ps args 0) n=some (b,o')→∃ k off o1' ob,(n,(k,off))∈uses ct.ps args 0∧k∈keysW (w2++goneW ct.ps args)∧get s.h k=some ob∧ob.live=true∧get (frzW hp K++s.h) k=some ob∧β k=some (b,o1'):=by
         intro n b o' hc
         obtain⟨k,off,o1',hg,hb,rfl⟩:=hcon hc
         obtain⟨ob,q1,q2,q3⟩:=hlive (get_mem hg)
         refine⟨k,off,o1',ob,get_mem hg,?_,q1,q2,q3,hb⟩
         simp only[keysW,List.map_append,List.mem_append]
         rcases callArgs_uses hca (get_mem hg) with ⟨g1,_⟩ | ⟨g1,_⟩
         · exact .inr g1
         · exact .inl (o1 n k off hg g1)
       have hS'no:∀ k ob b o',get (frzW hp K++s.h) k=some ob→k ∉ keysW (goneW ct.ps args)→ob.live=true→β k=some (b,o')→¬ S' b:=by
         intro k ob b o' hk hm hl hb hS'
         rcases L.fresh b hS' with h | h | ⟨n,h1,o2',h2⟩
         · exact(R1.liveS hk hl hb).1 h
         · obtain ⟨c, hc⟩ := R1.blk hk (by rintro rfl; cases hl) hb
           have:=hc.lt
           omega
         · obtain ⟨k', t, xs, q1, q2, q3, _⟩ := hownk h1 h2
           have q4:get (frzW hp K++s.h) k'=some (.rows t xs .own):=by
             rw[hfz];exact q1
             obtain⟨ku,hku,hke⟩:=List.mem_map.1 (k4 k' q2)
             obtain⟨n1,k1',off1⟩:=ku
             simp only at hke
             subst hke
             exact(huse hku).1
           have:=R1.inj k k' _ _ b _ _ hk hl q4 rfl hb q3
           subst this
           exact hm q2
       have hw2:∀ k ob,get w2 k=some ob→∃ (t:Ty) (xs ys:List t.den) (m:Md) (off:Nat),get s.h k=some (.rows t xs m)∧m≠.frz∧get (frzW hp K++s.h) k=some (.rows t xs m)∧k ∉ keysW (goneW ct.ps args) ∧
           ob=.rows t (over xs off ys) m∧off+ys.length≤xs.length∧∀ b o',β k=some (b,o')→¬ S' b∧∃ c0 c,Blk w b c0∧Blk w' b c∧c.size=c0.size ∧
             (∀ j,(j<o'+off*t.size∨o'+off*t.size+ys.length*t.size≤j)→c[j]?=c0[j]?)∧RowAt (Cell w' S' t) t.size w' b (o'+off*t.size) ys:=by
         intro k ob hk
         obtain⟨n,off,len,t,xs,ys,m,q1,q2,q3,q4,q5,j,q6⟩:=o2 k ob hk
         have hk':=hs k _ q3
         have hmf:m≠.frz:=by
           obtain⟨_,t',xs',m',g1,g2⟩:=huse (get_mem q1)
           rw[q3] at g1;injection g1 with g1;injection g1 with g1 g3 g4
           subst g4;exact g2
         obtain⟨u,hu1,hu2⟩:=hus.get q6
         obtain⟨hwin,_⟩:=osl_val R hk' hu2
         have hwl:=winOk_len hwin
         have hlen:=win_length hwin
         obtain⟨q5,q7⟩:=q5
         refine⟨t,xs,ys,m,off,hk',hmf,by rw[hfz k (huse (get_mem q1)).1];exact hk',?_,q4,by omega,fun b o' hb=>?_⟩
         · intro hg
           obtain⟨n',off',h1,h2⟩:=goneW_uses (i:=0) hg
           have:=nodup_mem k1 h1 (get_mem q1)
           subst this
           exact ownK_lentK h2 q2
         · rw [hb] at q7
           simp only[Option.map_some] at q7
           obtain⟨q7,c0,c,q8,q9,q10,q11,q12⟩:=q7
           exact⟨q7,c0,c,q8,q9,q10,by rw[q5];exact q11,q12⟩
       have hgw:∀ k ob,get ((w3++(w2++goneW ct.ps args))++(frzW hp K++s.h)) k=some ob→get w3 k=some ob∨(get w3 k=none∧get w2 k=some ob)∨(k∈keysW (w3++(w2++goneW ct.ps args))∧ob=.gone)∨(k ∉ keysW (w3++(w2++goneW ct.ps args))∧get (frzW hp K++s.h) k=some ob):=by
         intro k ob hk
         cases e3:get w3 k with
         | some ob3 =>
           rw[q2q,q2q,e3] at hk
           exact .inl hk
         | none =>
           cases e2:get w2 k with
           | some ob2 =>
             rw[q2q,q2q,q2q,e3,e2] at hk
             exact .inr (.inl ⟨rfl,hk⟩)
           | none =>
             cases e1:get (goneW ct.ps args) k with
             | some ob1 =>
               rw[q2q,q2q,q2q,e3,e2,e1] at hk
               injection hk with hk
               subst hk
               exact .inr (.inr (.inl ⟨by simp only[keysW,List.map_append,List.mem_append];exact .inr (.inr (mem_keysW_of_get e1)),goneW_gone e1⟩))
             | none =>
               by_cases hm:k∈keysW (w3++(w2++goneW ct.ps args))
               · obtain ⟨ob', h'⟩ := q13q hm
                 rw[q2q,q2q,e3,e2,e1] at h';cases h'
               · rw [q2q, q2q, q2q, e3, e2, e1] at hk
                 exact .inr (.inr (.inr ⟨hm,hk⟩))
       have hold:∀ k ob,get ((w3++(w2++goneW ct.ps args))++(frzW hp K++s.h)) k=some ob→ob.live=true→get w3 k=some ob∨(k ∉ keysW (goneW ct.ps args)∧β' k=β k∧∃ ob0,get (frzW hp K++s.h) k=some ob0∧ob0.live=true):=by
         intro k ob hk hl
         rcases hgw k ob hk with h | ⟨h0,h⟩ | ⟨_,rfl⟩ | ⟨h0,h⟩
         · exact .inl h
         · obtain ⟨t, xs, ys, m, off, p1, p2, p3, p4, _⟩ := hw2 k ob h
           exact .inr ⟨p4,hβo k _ p1,_,p3,by cases m<;>first | rfl | exact absurd rfl p2⟩
         · cases hl
         · refine .inr ⟨fun hm => h0 ?_, ?_, ob, h, hl⟩
           · simp only[keysW,List.map_append,List.mem_append];exact .inr (.inr hm)
           · have : k ∉ keysW w3 := fun hm => h0 (by simp only [keysW, List.map_append, List.mem_append]; exact .inl hm)
             simp only[β',if_neg this]
       have hw3b:∀ k ob,get w3 k=some ob→∀ b o',β' k=some (b,o')→∀ k' ob' o2,get (frzW hp K++s.h) k'=some ob'→ob'.live=true→k' ∉ keysW (goneW ct.ps args)→β k'≠some (b,o2):=by
         intro k ob hk b o' hb k' ob' o2 hk' hl' hm hb'
         rw[hβ3 k ob hk] at hb
         rcases L.rdom _ _ _ hb with h | ⟨n,h1,o3,h2⟩
         · obtain ⟨c, hc⟩ := R1.blk hk' (by rintro rfl; cases hl') hb'
           have:=hc.lt;omega
         · obtain ⟨k2, t, xs, p1, p2, p3, _⟩ := hownk h1 h2
           have q4:get (frzW hp K++s.h) k2=some (.rows t xs .own):=by
             rw[hfz];exact p1
             obtain⟨ku,hku,hke⟩:=List.mem_map.1 (k4 k2 p2)
             obtain⟨n1,k1',off1⟩:=ku
             simp only at hke
             subst hke
             exact(huse hku).1
           have:=R1.inj k' k2 _ _ b _ _ hk' hl' q4 rfl hb' p3
           subst this
           exact hm p2
       have R2:Rel T B w' S' β' ⟨s.e,(w3++(w2++goneW ct.ps args))++(frzW hp K++s.h)⟩ a:=by
         refine R1.gen (w':=w') (S':=S') (β':=β') L.calm (w3++(w2++goneW ct.ps args)) (fun b=>∃ n o',conOf β (uses ct.ps args 0) n=some (b,o')) ?_ L.grow ?_ ?_ L.sub ?_ L.Slt ?_ ?_ ?_ ?_ ?_ ?_ ?_ ?_ ?_ ?_ ?_
         · exact fun b hb hnW=>L.same b hb fun k o' h=>hnW ⟨k,o',h⟩
         · rintro b ⟨n, o', hc⟩
           obtain⟨k,off,o1',ob,_,q1,q2,q3,q4,q5⟩:=hWk hc
           exact⟨k,ob,o1',by simp only[keysW,List.map_append,List.mem_append] at q1 ⊢;exact .inr q1,q4,q3,q5⟩
         · intro k ob hk hm
           have:k ∉ keysW w3:=fun h=>hm (by simp only[keysW,List.map_append,List.mem_append];exact .inl h)
           simp only[β',if_neg this]
         · intro b hb
           rcases L.fresh b hb with h | h | ⟨n,h1,o',h2⟩
           · exact .inl h
           · exact .inr (.inl (Nat.le_trans R.grow h))
           · obtain ⟨k, t, xs, p1, _, p3, _⟩ := hownk h1 h2
             exact .inr (R.liveS p1 rfl p3).2
         · intro k ob b o' hk hm hl hb
           exact hS'no k ob b o' hk (fun h=>hm (by simp only[keysW,List.map_append,List.mem_append];exact .inr (.inr h))) hl hb
         · intro k ob hm hk E
           rcases hgw k ob hk with h | ⟨h0,h⟩ | ⟨_,rfl⟩ | ⟨h0,h⟩
           · obtain ⟨a1, a2, a3, e, xs, v, rfl, hO⟩ := hw3 k ob h
             rw[Nat.zero_add] at hO
             simp only[ORel,hβ3 k _ h]
             simp only[OwnV] at hO
             cases hρ:ρ (k-d*8) with
             | none=>rw[hρ] at hO;exact hO.1
             | some p =>
               obtain⟨b,o'⟩:=p
               rw[hρ] at hO
               obtain⟨rfl,p1,x0,cap,c,_,p2,p3,p4,p5,p6⟩:=hO
               have hmul:=Nat.mul_le_mul_right e.size p2
               refine⟨⟨c,p4,by omega⟩,p6,by simp,fun _=>⟨p1,?_⟩,fun _=>rfl⟩
               rcases L.rdom _ _ _ hρ with h | ⟨n,h1,o3,h2⟩
               · exact .inl (Nat.le_trans R.grow h)
               · obtain ⟨k2, t, xs2, q1, _, q3, _⟩ := hownk h1 h2
                 exact(R.liveS q1 rfl q3).2
           · obtain ⟨t, xs, ys, m, off, p1, p2, p3, p4, rfl, p5, p6⟩ := hw2 k ob h
             have hob:=R1.obs k _ p3
             simp only[ORel,hβo k _ p1] at hob ⊢
             cases hb:β k with
             | none =>
               rw[hb] at hob
               simp only at hob
               subst hob
               have:ys=[]:=List.eq_nil_of_length_eq_zero (by have p5:off+ys.length≤0:=p5;omega)
               subst this
               simp [over]
             | some p =>
               obtain⟨b,o'⟩:=p
               rw[hb] at hob
               obtain⟨⟨c1,hc1,hsz⟩,hrow,_,hlv,ho0⟩:=hob
               obtain⟨hnS,c0,c,q1,q2,q3,q4,q5⟩:=p6 b o' hb
               have:=hc1.inj q1
               subst this
               exact⟨⟨c,q2,by rw[q3,over_length p5];exact hsz⟩,rowAt_over' E.sub E.keep q1 q2 hrow p5 q4 q5,fun e=>absurd e p2,fun _=>⟨hnS,(hlv p2).2⟩,ho0⟩
           · trivial
           · exact absurd hm h0
         · intro k ob hm hk
           obtain⟨ob',h'⟩:=q13q hm
           have h'':get ((w3++(w2++goneW ct.ps args))++(frzW hp K++s.h)) k=some ob':=by rw[q2q,h'];rfl
           refine⟨ob',h'',?_⟩
           rcases hgw k ob' h'' with h | ⟨h0,h⟩ | ⟨_,rfl⟩ | ⟨h0,h⟩
           · have := hnew' k ob' h
             rw[this] at hk;cases hk
           · obtain ⟨t, xs, ys, m, off, p1, p2, p3, p4, rfl, p5, p6⟩ := hw2 k ob' h
             rw[p3] at hk
             injection hk with hk
             subst hk
             refine⟨rfl,over_length p5,hβo k _ p1,fun hmo=>⟨hmo,fun b o' c1 hb hc1=>?_⟩⟩
             obtain⟨hnS,c0,c,q1,q2,q3,_⟩:=p6 b o' hb
             have:=hc1.inj q1
             subst this
             exact⟨c,q2,q3⟩
           · cases ob<;>trivial
           · exact absurd hm h0
         · intro k k' ob ob' b o1' o2' hm hk hl hk' hl' hb hb'
           rcases hold k ob hk hl with h | ⟨g1,g2,ob0,g3,g4⟩
           · rcases hold k' ob' hk' hl' with h' | ⟨g1', g2', ob0', g3', g4'⟩
             · rw [hβ3 k _ h] at hb
               rw[hβ3 k' _ h'] at hb'
               have:=L.rinj _ _ _ _ _ hb hb'
               have:=(hw3 k _ h).1
               have:=(hw3 k' _ h').1
               omega
             · rw [g2'] at hb'
               exact absurd hb' (hw3b k ob h b o1' hb k' ob0' o2' g3' g4' g1')
           · rw [g2] at hb
             rcases hold k' ob' hk' hl' with h' | ⟨g1',g2',ob0',g3',g4'⟩
             · exact absurd hb (hw3b k' ob' h' b o2' hb' k ob0 o1' g3 g4 g1)
             · rw [g2'] at hb'
               exact R1.inj k k' ob0 ob0' b o1' o2' g3 g4 g3' g4' hb hb'
         · rintro k b o' n hL ⟨n1, o1', hc⟩ c hcb
           obtain⟨k1',off1,o2',hg,hb,rfl⟩:=hcon hc
           obtain⟨ob,q1,q2,q3⟩:=hlive (get_mem hg)
           by_cases hlt:∃ t xs,ob=.rows t xs .lent
           · obtain ⟨t, xs, rfl⟩ := hlt
             have hk2:k1'∈keysW w2:=by
               rcases callArgs_uses hca (get_mem hg) with ⟨_,_,_,t',xs',h⟩ | ⟨h1,_⟩
               · have:=hs k1' _ h;rw[q1] at this;cases this
               · exact o1 n1 k1' off1 hg h1
             obtain⟨ob2,h2⟩:=q13q hk2
             obtain⟨t',xs',ys,m,off,p1,p2,p3,p4,p4',p5,p6⟩:=hw2 k1' ob2 h2
             rw[q1] at p1
             injection p1 with p1
             injection p1 with e1 e2 e3
             subst e1
             have e2:=eq_of_heq e2
             subst e2
             obtain⟨hnS,c0,c',r1,r2,r3,r4,_⟩:=p6 b o2' hb
             have:=hcb.inj r1
             subst this
             obtain⟨b3,o3,hL3,hb3⟩:=(R.lentk k1' t xs q1).resolve_left (by rw[hb];simp)
             rw[hb] at hb3
             injection hb3 with hb3
             injection hb3 with hb3 ho3
             subst hb3;subst ho3
             have:=R.ltinj k k1' _ _ _ _ _ hL hL3
             subst this
             rw[hL] at hL3
             injection hL3 with hL3
             injection hL3 with _ hL3
             injection hL3 with e4 e5
             subst e4;subst e5
             have hmul:=Nat.mul_le_mul_right t.size p5
             rw[Nat.add_mul] at hmul
             exact⟨c',r2,r3,fun j hj=>r4 j (by rcases hj with hj | hj;left;omega;right;omega)⟩
           · exact absurd hL (R.sep k1' ob b o2' q1 q2 (fun t xs h=>hlt ⟨t,xs,h⟩) hb k o' n)
         · intro k t xs hm hk
           rcases hgw k _ hk with h | ⟨h0,h⟩ | ⟨_,h⟩ | ⟨h0,h⟩
           · obtain ⟨_, _, _, e, xs', v, h', _⟩ := hw3 k _ h
             cases h'
           · obtain ⟨t', xs', ys, m, off, p1, p2, p3, p4, p4', p5, p6⟩ := hw2 k _ h
             injection p4' with e1 e2 e3
             subst e1
             have e2:=eq_of_heq e2
             subst e2;subst e3
             exact⟨xs',p3,over_length p5,hβo k _ p1⟩
           · cases h
           · exact absurd hm h0
         · intro k ob b o' hm hk hl hnl hb k' o2' n hL
           rcases hgw k ob hk with h | ⟨h0,h⟩ | ⟨_,rfl⟩ | ⟨h0,h⟩
           · rw [hβ3 k ob h] at hb
             rcases L.rdom _ _ _ hb with h | ⟨n1,h1,o3,h2⟩
             · obtain ⟨c0, c, hc0, _⟩ := R.lent k' b o2' n hL
               have:=hc0.lt
               have:=R.grow
               omega
             · obtain ⟨k2, t, xs, q1, _, q3, _⟩ := hownk h1 h2
               exact R.sep k2 _ b 0 q1 rfl (by simp) q3 k' o2' n hL
           · obtain ⟨t, xs, ys, m, off, p1, p2, p3, p4, rfl, p5, p6⟩ := hw2 k ob h
             rw[hβo k _ p1] at hb
             refine R.sep k _ b o' p1 (by cases m<;>first | rfl | exact absurd rfl p2) (fun t' xs' e=>?_) hb k' o2' n hL
             injection e with e1 e2 e3
             subst e3
             exact hnl t _ rfl
           · cases hl
           · exact absurd hm h0
         · intro k l' hm hk
           rcases hgw k _ hk with h | ⟨h0,h⟩ | ⟨_,h⟩ | ⟨h0,h⟩
           · obtain ⟨_, _, _, e, xs', v, h', _⟩ := hw3 k _ h
             cases h'
           · obtain ⟨t', xs', ys, m, off, p1, p2, p3, p4, p4', p5, p6⟩ := hw2 k _ h
             cases p4'
           · cases h
           · exact absurd hm h0
         · intro b hb
           rcases L.fresh b hb with h | h | ⟨n,h1,o',h2⟩
           · exact .inl h
           · exact .inr (.inr h)
           · obtain ⟨k2, t, xs, p1, p2, p3, _⟩ := hownk h1 h2
             have q4:get (frzW hp K++s.h) k2=some (.rows t xs .own):=by
               rw[hfz];exact p1
               obtain⟨ku,hku,hke⟩:=List.mem_map.1 (k4 k2 p2)
               obtain⟨n1,k1',off1⟩:=ku
               simp only at hke
               subst hke
               exact(huse hku).1
             exact .inr (.inl ⟨k2,_,_,q4,rfl,p3⟩)
         · intro k ob b o' hm hk hl hb
           rcases hgw k ob hk with h | ⟨h0,h⟩ | ⟨_,rfl⟩ | ⟨h0,h⟩
           · rw [hβ3 k ob h] at hb
             rcases L.rdom _ _ _ hb with h | ⟨n,h1,o3,h2⟩
             · exact .inr h
             · obtain ⟨k2, t, xs, p1, p2, p3, _⟩ := hownk h1 h2
               have q4:get (frzW hp K++s.h) k2=some (.rows t xs .own):=by
                 rw[hfz];exact p1
                 obtain⟨ku,hku,hke⟩:=List.mem_map.1 (k4 k2 p2)
                 obtain⟨n1,k1',off1⟩:=ku
                 simp only at hke
                 subst hke
                 exact(huse hku).1
               exact .inl ⟨k2,_,_,q4,rfl,p3⟩
           · obtain ⟨t, xs, ys, m, off, p1, p2, p3, p4, rfl, p5, p6⟩ := hw2 k ob h
             rw[hβo k _ p1] at hb
             exact .inl ⟨k,_,o',p3,by cases m<;>first | rfl | exact absurd rfl p2,hb⟩
           · cases hl
           · exact absurd hm h0
         · intro k t xs hm hk
           rcases hgw k _ hk with h | ⟨h0,h⟩ | ⟨_,h⟩ | ⟨h0,h⟩
           · exact .inl (callRes_flat hcr hflat.2 k t xs _ h)
           · exact .inl (callOuts_flat hco hflat.1 k t xs _ h)
           · cases h
           · exact absurd hm h0
       have R3:Rel T B w' S' β' ⟨s.e,ef.hw++s.h⟩ a:=by
         refine R2.ext (fun _=>rfl) fun k=>?_
         rw[hhw]
         simp only[q2q,k5 k]
         simp only[or_assoc']
       have hall:All2 (TRel1 w' S' β' (get (ef.hw++s.h))) l vs:=callRes_v hcr hrs fun n ob hg=>⟨by rw[hhw,q2q,q2q,q2q,hg];rfl,by rw[hβ3 n ob hg,Nat.zero_add]⟩
       refine hnx _ w' S' β' (Rel.app R3 hdo fun pv hpv=>?_)
       rcases hv with ⟨v,rfl,hv⟩ | ⟨hne,hv⟩
       · rw [hv] at hpv
         injection hpv with hpv
         subst hpv
         cases vs with
         | nil=>exact hall.elim
         | cons u vs =>
           cases vs with
           | nil =>
             refine hall.1.up fun q e=>?_
             subst e
             exact hall.1.elim
           | cons _ _=>exact hall.2.elim
       · rw [hv] at hpv
         injection hpv with hpv
         subst hpv
         refine⟨vs,?_,hall⟩
         match vs,hall with
         | [],_=>rfl
         | [u], hall =>
           exfalso
           match l,hall,hne with
           | [v],_,hne=>exact hne v rfl
         | _::_::_,_=>rfl
    · cases h
 · cases h
variable {T:Told} {P:Program} {tb:Tb}
def blkOf (β:Con) (k:Nat):Nat:=((β k).getD (0,0)).1
def UB (h:Hp):List (List CK)→List Nat→List PV→List Nat→Prop
 | [],[],[],[]=>True
 | cs::bx,k::ks,vs,st=>∃ (l a v2:List PV) (s1 s2:List Nat),h k=some (.box l)∧unpC cs l=some (a,s1)∧vs=a++v2∧st=s1++s2∧UB h bx ks v2 s2
 | _,_,_,_=>False
theorem unpB_ub {h:Hp}:∀ {bx:List (List CK)} {q:List Nat} {vs:List PV} {ks:List Nat},unpB h bx q=some (vs,ks)→∃ st,ks=q++st∧UB h bx ks vs st:=by
 intro bx
 induction bx with
 | nil =>
  intro q vs ks hh
  cases q with
  | nil=>simp only[unpB,Option.some.injEq,Prod.mk.injEq] at hh;obtain⟨rfl,rfl⟩:=hh;exact⟨[],rfl,trivial⟩
  | cons _ _=>simp [unpB] at hh
 | cons cs bx ih =>
  intro q vs ks hh
  cases q with
  | nil=>simp [unpB] at hh
  | cons k q =>
   simp only[unpB] at hh
   split at hh
   · rename_i l hl
     split at hh
     · rename_i a b hu
       split at hh
       · rename_i a' b' hb
         simp only[Option.some.injEq,Prod.mk.injEq] at hh
         obtain⟨rfl,rfl⟩:=hh
         obtain⟨st,e,hst⟩:=ih hb
         exact⟨b++st,by rw[e];simp,l,a,a',b,st,hl,hu,rfl,rfl,hst⟩
       · cases hh
     · cases hh
   · cases hh
theorem UB.box {h:Hp}:∀ {bx:List (List CK)} {ks:List Nat} {vs:List PV} {st:List Nat},UB h bx ks vs st→∀ k∈ks,∃ l,h k=some (.box l):=by
 intro bx
 induction bx with
 | nil=>intro ks vs st hu k hk;cases ks with
  | nil=>simp at hk
  | cons _ _=>exact hu.elim
 | cons cs bx ih =>
  intro ks vs st hu k hk
  cases ks with
  | nil=>exact hu.elim
  | cons k0 ks =>
   obtain⟨l,a,v2,s1,s2,h1,_,_,_,h2⟩:=hu
   rcases List.mem_cons.1 hk with rfl | hk
   · exact⟨l,h1⟩
   · exact ih h2 k hk
theorem distinctN_nodup:∀ {l:List Nat},distinctN l=true→l.Nodup
 | [],_=>List.nodup_nil
 | n::r,h=>by
  simp only[distinctN,Bool.and_eq_true,Bool.not_eq_true'] at h
  exact List.nodup_cons.2 ⟨memN_false.1 h.1,distinctN_nodup h.2⟩
section
variable {B:Base} {w w':World} {S S':Foot} {β β':Con} {s:St} {a:Act} {g g':Hp}
theorem TRel.unfx' {pv:PV} {v:Value} (h:TRel w S β g pv v):TRel w S β g pv.unfx v:=by
 cases pv<;>exact h
theorem unpC_wc:∀ {cs:List CK} {pvs vs:List PV} {ks:List Nat} {as:List Value},unpC cs pvs=some (vs,ks)→All2 (TRel w S β g) pvs as →
  (∀ k∈ks,β k=some (blkOf β k,0)∧∃ l,g k=some (.box l))→∃ us,WC cs as us (ks.map (blkOf β))∧All2 (TRel w S β g) vs us:=by
 intro cs
 induction cs with
 | nil =>
  intro pvs vs ks as hh ha hk
  cases pvs with
  | nil =>
   simp only[unpC,Option.some.injEq,Prod.mk.injEq] at hh
   obtain⟨rfl,rfl⟩:=hh
   cases as with
   | nil=>exact⟨[],trivial,trivial⟩
   | cons _ _=>exact ha.elim
  | cons _ _=>simp [unpC] at hh
 | cons c cs ih =>
  intro pvs vs ks as hh ha hk
  cases pvs with
  | nil=>cases c<;>simp [unpC] at hh
  | cons v pvs =>
   cases as with
   | nil=>exact ha.elim
   | cons u as =>
    obtain⟨hu,ha⟩:=ha
    cases c with
    | x =>
     simp only[unpC] at hh
     split at hh
     · rename_i a1 b1 h1
       simp only[Option.some.injEq,Prod.mk.injEq] at hh
       obtain⟨rfl,rfl⟩:=hh
       obtain⟨us,h2,h3⟩:=ih h1 ha hk
       exact⟨u::us,⟨rfl,h2⟩,hu,h3⟩
     · cases hh
    | b =>
     cases v with
     | ptr k i off =>
       cases i with
       | succ i=>simp [unpC] at hh
       | zero =>
        cases off with
        | succ off=>simp [unpC] at hh
        | zero =>
         simp only[unpC] at hh
         split at hh
         · rename_i a1 b1 h1
           simp only[Option.some.injEq,Prod.mk.injEq] at hh
           obtain⟨rfl,rfl⟩:=hh
           obtain⟨us,h2,h3⟩:=ih h1 ha fun k' hk'=>hk k' (List.mem_cons_of_mem _ hk')
           obtain⟨hb,l,hl⟩:=hk k List.mem_cons_self
           have hu:TRel0 w S β g (.ptr k 0 0) u:=hu
           simp only[TRel0,hl] at hu
           obtain⟨b,o,q1,q2⟩:=hu
           rw[hb] at q1
           injection q1 with q1
           injection q1 with q3 q4
           refine⟨us,⟨?_,h2⟩,h3⟩
           rw[q2,← q3,← q4];simp
         · cases hh
     | _=>simp [unpC] at hh
    | h =>
     simp only[unpC] at hh
     exact ih hh ha hk
    | l =>
     simp only[unpC] at hh
     split at hh
     · rename_i a1 b1 h1
       simp only[Option.some.injEq,Prod.mk.injEq] at hh
       obtain⟨rfl,rfl⟩:=hh
       obtain⟨us,h2,h3⟩:=ih h1 ha hk
       exact⟨u::us,⟨rfl,h2⟩,hu.unfx',h3⟩
     · cases hh
theorem All2.up {l:List PV} {vs:List Value} (h:All2 (TRel0 w S β g) l vs):All2 (TRel w S β g) l vs:=h.imp fun _ _ h=>h.up
theorem UB.wb (hob:∀ k l,g k=some (.box l)→∃ c,β k=some (blkOf β k,0)∧Blk w (blkOf β k) c∧All2 (TRel0 w S β g) l c.toList) :
  ∀ {bx:List (List CK)} {ks:List Nat} {vs:List PV} {st:List Nat},UB g bx ks vs st→(∀ k∈st,∃ l,g k=some (.box l)) →
   ∃ us,WB w bx (ks.map (blkOf β)) us (st.map (blkOf β))∧All2 (TRel w S β g) vs us:=by
 intro bx
 induction bx with
 | nil =>
  intro ks vs st hu hst
  match ks,vs,st,hu with
  | [],[],[],_=>exact⟨[],trivial,trivial⟩
 | cons cs bx ih =>
  intro ks vs st hu hst
  match ks,hu with
  | k::ks,hu =>
   obtain⟨l,a1,v2,s1,s2,h1,h2,rfl,rfl,h3⟩:=hu
   obtain⟨c,hb,hc,hl⟩:=hob k l h1
   obtain⟨us1,g1,g2⟩:=unpC_wc (β:=β) h2 hl.up (fun k' hk'=>by
    obtain⟨l',hl'⟩:=hst k' (List.mem_append.2 (.inl hk'))
    obtain⟨_,q,_⟩:=hob k' l' hl'
    exact⟨q,l',hl'⟩)
   obtain⟨us2,g3,g4⟩:=ih h3 fun k' hk'=>hst k' (List.mem_append.2 (.inr hk'))
   exact⟨us1++us2,⟨c,us1,us2,s1.map (blkOf β),s2.map (blkOf β),hc,rfl,by simp,g1,g3⟩,All2.append g2 g4⟩
theorem TRel1.cell {pv:PV} {v:Value} (h:TRel1 w S β g pv v) (hn:noAgg [pv]=true):TRel0 w S β g pv v:=by
 cases pv<;>first | exact h | cases hn
theorem noAgg_cons {v:PV} {r:List PV} (h:noAgg (v::r)=true):noAgg [v]=true∧noAgg r=true:=by
 cases v<;>first | exact⟨rfl,h⟩ | cases h
theorem TRel1.cellF {pv:PV} {v:Value} (h:TRel1 w S β g pv v) (hn:noAggF [pv]=true):TRel0 w S β g pv v:=by
 cases pv<;>first | exact h | cases hn
theorem noAggF_cons {v:PV} {r:List PV} (h:noAggF (v::r)=true):noAggF [v]=true∧noAggF r=true:=by
 cases v<;>first | exact⟨rfl,h⟩ | cases h
theorem WC.lenx:∀ {cs:List CK} {as us:List Value} {q:List Nat},WC (cs.map CK.ex) as us q→∀ {pvs vs:List PV} {ks:List Nat},unpC cs pvs=some (vs,ks)→q.length=ks.length:=by
 intro cs
 induction cs with
 | nil =>
  intro as us q hw pvs vs ks hh
  match as,us,q,hw with
  | [],[],[],_ =>
   cases pvs with
   | nil=>simp only[unpC,Option.some.injEq,Prod.mk.injEq] at hh;obtain⟨rfl,rfl⟩:=hh;rfl
   | cons _ _=>simp [unpC] at hh
 | cons c cs ih =>
  intro as us q hw pvs vs ks hh
  cases pvs with
  | nil=>cases c<;>simp [unpC] at hh
  | cons v pvs =>
   cases c with
   | x =>
    match as,us,hw with
    | u::as,u'::us,hw =>
     simp only[unpC] at hh
     split at hh
     · rename_i a1 b1 h1
       simp only[Option.some.injEq,Prod.mk.injEq] at hh
       obtain⟨rfl,rfl⟩:=hh
       exact ih hw.2 h1
     · cases hh
   | b =>
    match as,q,hw with
    | u::as,b0::q,hw =>
     cases v with
     | ptr k i off =>
       cases i with
       | succ i=>simp [unpC] at hh
       | zero =>
        cases off with
        | succ off=>simp [unpC] at hh
        | zero =>
         simp only[unpC] at hh
         split at hh
         · rename_i a1 b1 h1
           simp only[Option.some.injEq,Prod.mk.injEq] at hh
           obtain⟨rfl,rfl⟩:=hh
           have:=ih hw.2 h1
           simp [this]
         · cases hh
     | _=>simp [unpC] at hh
   | h =>
    match as,hw with
    | u::as,hw =>
     simp only[unpC] at hh
     exact ih hw hh
   | l =>
    match as,hw with
    | u::as,hw =>
     simp only[unpC] at hh
     split at hh
     · rename_i a1 b1 h1
       simp only[Option.some.injEq,Prod.mk.injEq] at hh
       obtain⟨rfl,rfl⟩:=hh
       exact ih (us:=us) hw h1
     · cases hh
theorem ungr_gv:∀ {gs:List GK} {pvs fl:List PV} {as:List Value},ungr gs pvs=some fl→All2 (TRel w S β g) pvs as→∃ cs,GV gs as cs∧All2 (TRel w S β g) fl cs:=by
 have key:∀ {gs:List GK} {pvs fl:List PV} {as:List Value},ungr1 gs pvs=some fl→All2 (TRel w S β g) pvs as→∃ cs,GV1 gs as cs∧All2 (TRel w S β g) fl cs:=by
  intro gs
  induction gs with
  | nil =>
   intro pvs fl as h ha
   cases pvs with
   | nil =>
    simp only[ungr1,Option.some.injEq] at h
    subst h
    cases as with
    | nil=>exact⟨[],trivial,trivial⟩
    | cons _ _=>exact ha.elim
   | cons _ _=>simp [ungr1] at h
  | cons g0 gs ih =>
   intro pvs fl as h ha
   cases pvs with
   | nil=>cases g0<;>simp [ungr1] at h
   | cons v pvs =>
    cases as with
    | nil=>exact ha.elim
    | cons u as =>
     obtain⟨hu,ha⟩:=ha
     cases g0 with
     | x =>
      simp only[ungr1] at h
      split at h
      · rename_i r hr
        injection h with h
        subst h
        obtain⟨cs,h1,h2⟩:=ih hr ha
        exact⟨u::cs,⟨rfl,h1⟩,hu,h2⟩
      · cases h
     | g n =>
      cases v with
      | agg l =>
        simp only[ungr1] at h
        have hbb:=q8q h
        clear h
        obtain⟨hn,h⟩:=hbb
        have hn:=Nat.eq_of_beq_eq_true hn
        split at h
        · rename_i r hr
          injection h with h
          subst h
          obtain⟨cs,h1,h2⟩:=ih hr ha
          obtain⟨vs,hv,hl⟩:=hu
          have hlen:=hl.length
          exact⟨vs++cs,⟨vs,cs,by omega,hv,rfl,h1⟩,All2.append (hl.imp fun _ _ h=>h.up) h2⟩
        · cases h
      | _=>simp [ungr1] at h
     | f fid n =>
      cases v with
      | clo f' l =>
        simp only[ungr1] at h
        have hbb:=q8q h
        clear h
        obtain⟨hn,h⟩:=hbb
        simp only[Bool.and_eq_true] at hn
        have hn1:f'=fid:=Nat.eq_of_beq_eq_true hn.1
        have hn2:=Nat.eq_of_beq_eq_true hn.2
        subst hn1
        split at h
        · rename_i r hr
          injection h with h
          subst h
          obtain⟨cs,h1,h2⟩:=ih hr ha
          obtain⟨vs,hv,hl⟩:=hu
          have hlen:=hl.length
          exact⟨vs++cs,⟨vs,cs,by omega,hv,rfl,h1⟩,All2.append (hl.imp fun _ _ h=>h.up) h2⟩
        · cases h
      | _=>simp [ungr1] at h
 intro gs pvs fl as h ha
 cases gs with
 | nil=>simp only[ungr,Option.some.injEq] at h;subst h;exact⟨as,rfl,ha⟩
 | cons g0 gs=>exact key h ha
theorem grp_rel {R:PV→Value→Prop} (h0:∀ pv v,R pv v→noAgg [pv]=true→TRel0 w S β g pv v) (hg:∀ l vs,All2 (TRel0 w S β g) l vs→R (.agg l) (.agg vs.toArray))
  (hf:∀ fid l vs,All2 (TRel0 w S β g) l vs→R (.clo fid l) (.func (.func fid) #[] vs.toArray)) :
  ∀ {gs:List GK} {fl pvs:List PV} {as cs:List Value},grp gs fl=some pvs→GV gs as cs→All2 R fl cs→All2 R pvs as:=by
 have cells:∀ {l:List PV} {vs:List Value},noAgg l=true→All2 R l vs→All2 (TRel0 w S β g) l vs:=by
  intro l
  induction l with
  | nil=>intro vs _ h;cases vs with
   | nil=>trivial
   | cons _ _=>exact h.elim
  | cons x l ih=>intro vs hn h;cases vs with
   | nil=>exact h.elim
   | cons v vs=>obtain⟨n1,n2⟩:=noAgg_cons hn;exact⟨h0 _ _ h.1 n1,ih n2 h.2⟩
 have key:∀ {gs:List GK} {fl pvs:List PV} {as cs:List Value},grp1 gs fl=some pvs→GV1 gs as cs→All2 R fl cs→All2 R pvs as:=by
  intro gs
  induction gs with
  | nil =>
   intro fl pvs as cs h hv ha
   match as,cs,hv with
   | [],[],_ =>
    cases fl with
    | nil=>simp only[grp1,Option.some.injEq] at h;subst h;trivial
    | cons _ _=>exact ha.elim
  | cons g0 gs ih =>
   intro fl pvs as cs h hv ha
   cases g0 with
   | x =>
    match as,cs,hv with
    | a::as,c::cs,hv =>
     obtain⟨rfl,hv⟩:=hv
     cases fl with
     | nil=>exact ha.elim
     | cons v fl =>
       simp only[grp1] at h
       split at h
       · rename_i r hr
         injection h with h
         subst h
         exact⟨ha.1,ih hr hv ha.2⟩
       · cases h
   | g n =>
    match as,hv with
    | a::as,hv =>
     obtain⟨vs,cs',hn,rfl,rfl,hv2⟩:=hv
     simp only[grp1] at h
     obtain⟨hb,h⟩:=q8q h
     simp only[Bool.and_eq_true] at hb
     split at h
     · rename_i r hr
       injection h with h
       subst h
       have h1:=ha.take n
       have h2:=ha.drop n
       rw[← hn,List.take_left] at h1
       rw[← hn,List.drop_left] at h2
       rw[hn] at h1 h2
       exact⟨hg _ _ (cells hb.2 h1),ih hr hv2 h2⟩
     · cases h
   | f fid n =>
    match as,hv with
    | a::as,hv =>
     obtain⟨vs,cs',hn,rfl,rfl,hv2⟩:=hv
     simp only[grp1] at h
     obtain⟨hb,h⟩:=q8q h
     simp only[Bool.and_eq_true] at hb
     split at h
     · rename_i r hr
       injection h with h
       subst h
       have h1:=ha.take n
       have h2:=ha.drop n
       rw[← hn,List.take_left] at h1
       rw[← hn,List.drop_left] at h2
       rw[hn] at h1 h2
       exact⟨hf _ _ _ (cells hb.2 h1),ih hr hv2 h2⟩
     · cases h
 intro gs fl pvs as cs h hv ha
 cases gs with
 | nil =>
  simp only[grp,Option.some.injEq] at h
  subst h
  have hv:cs=as:=hv
  subst hv
  exact ha
 | cons g0 gs=>exact key h hv ha
theorem pkC_rel:∀ {cs:List CK} {l vs:List PV} {s1:List Nat} {r a1 r':List PV} {as u1 u2:List Value},unpC cs l=some (vs,s1)→pkC cs l r=some (a1,r')→noAggF a1=true →
  WC (cs.map CK.ex) as u1 (s1.map (blkOf β))→All2 (TRel1 w' S' β' g') r (u1++u2)→(∀ k∈s1,β' k=some (blkOf β k,0)∧∃ l',g' k=some (.box l')) →
  ((∀ (j:Nat) (o:PV) (u:Value),(cs[j]?=some .h∨cs[j]?=some .l)→l[j]?=some o→as[j]?=some u→TRel0 w' S' β' g' o u)→All2 (TRel0 w' S' β' g') a1 as)∧All2 (TRel1 w' S' β' g') r' u2:=by
 intro cs
 induction cs with
 | nil =>
  intro l vs s1 r a1 r' as u1 u2 hu hp hn hw hr hk
  cases l with
  | cons _ _=>simp [unpC] at hu
  | nil =>
   simp only[pkC,Option.some.injEq,Prod.mk.injEq] at hp
   obtain⟨rfl,rfl⟩:=hp
   match as,u1,hw with
   | [],[],_=>exact⟨fun _=>trivial,hr⟩
 | cons c cs ih =>
  intro l vs s1 r a1 r' as u1 u2 hu hp hn hw hr hk
  cases l with
  | nil=>cases c<;>simp [unpC] at hu
  | cons o l =>
   cases c with
   | x =>
    match as,u1,hw with
    | u::as,u'::u1,hw =>
     obtain⟨rfl,hw⟩:=hw
     cases r with
     | nil=>simp [pkC] at hp
     | cons v r =>
       simp only[pkC] at hp
       simp only[unpC] at hu
       split at hp
       · rename_i a2 r2 h2
         simp only[Option.some.injEq,Prod.mk.injEq] at hp
         obtain⟨rfl,rfl⟩:=hp
         split at hu
         · rename_i x1 x2 h3
           simp only[Option.some.injEq,Prod.mk.injEq] at hu
           obtain⟨rfl,rfl⟩:=hu
           obtain⟨hv,hr⟩:=hr
           obtain⟨n1,n2⟩:=noAggF_cons hn
           obtain⟨q1,q2⟩:=ih h3 h2 n2 hw hr hk
           exact⟨fun hH=>⟨hv.cellF n1,q1 (fun j o u e1 e2 e3=>hH (j+1) o u (by simpa using e1) (by simpa using e2) (by simpa using e3))⟩,q2⟩
         · cases hu
       · cases hp
   | b =>
    cases o with
    | ptr k i off =>
     cases i with
     | succ i=>simp [unpC] at hu
     | zero =>
       cases off with
       | succ off=>simp [unpC] at hu
       | zero =>
         simp only[unpC] at hu
         split at hu
         · rename_i x1 x2 h3
           simp only[Option.some.injEq,Prod.mk.injEq] at hu
           obtain⟨rfl,rfl⟩:=hu
           simp only[pkC] at hp
           split at hp
           · rename_i a2 r2 h2
             simp only[Option.some.injEq,Prod.mk.injEq] at hp
             obtain⟨rfl,rfl⟩:=hp
             match as,hw with
             | u::as,hw =>
              obtain⟨hu',hw⟩:=hw
              obtain⟨n1,n2⟩:=noAggF_cons hn
              obtain⟨q1,q2⟩:=ih h3 h2 n2 hw hr (fun k' hk'=>hk k' (List.mem_cons_of_mem _ hk'))
              obtain⟨hb,l',hl'⟩:=hk k List.mem_cons_self
              refine⟨fun hH=>⟨?_,q1 (fun j o u e1 e2 e3=>hH (j+1) o u (by simpa using e1) (by simpa using e2) (by simpa using e3))⟩,q2⟩
              simp only[TRel0,hl']
              exact⟨blkOf β k,0,hb,by rw[hu'];simp⟩
           · cases hp
         · cases hu
    | _=>simp [unpC] at hu
   | h =>
    match as,hw with
    | u::as,hw =>
     simp only[unpC] at hu
     simp only[pkC] at hp
     split at hp
     · rename_i a2 r2 h2
       simp only[Option.some.injEq,Prod.mk.injEq] at hp
       obtain⟨rfl,rfl⟩:=hp
       obtain⟨n1,n2⟩:=noAggF_cons hn
       obtain⟨q1,q2⟩:=ih hu h2 n2 hw hr hk
       exact⟨fun hH=>⟨hH 0 o u (.inl rfl) rfl rfl,q1 (fun j o u e1 e2 e3=>hH (j+1) o u (by simpa using e1) (by simpa using e2) (by simpa using e3))⟩,q2⟩
     · cases hp
   | l =>
    match as,hw with
    | u::as,hw =>
     simp only[unpC] at hu
     simp only[pkC] at hp
     split at hu
     rotate_left
     · cases hu
     rename_i y1 y2 hu2
     simp only[Option.some.injEq,Prod.mk.injEq] at hu
     obtain⟨rfl,rfl⟩:=hu
     split at hp
     · rename_i a2 r2 h2
       simp only[Option.some.injEq,Prod.mk.injEq] at hp
       obtain⟨rfl,rfl⟩:=hp
       obtain⟨n1,n2⟩:=noAggF_cons hn
       obtain⟨q1,q2⟩:=ih hu2 h2 n2 (u1:=u1) hw hr hk
       exact⟨fun hH=>⟨hH 0 o u (.inr rfl) rfl rfl,q1 (fun j o u e1 e2 e3=>hH (j+1) o u (by simpa using e1) (by simpa using e2) (by simpa using e3))⟩,q2⟩
     · cases hp
theorem pkB_rel {h:Hp}:∀ {bx:List (List CK)} {ks:List Nat} {vs:List PV} {st:List Nat} {r:List PV} {w4:List (Nat×Ob)} {rest:List PV} {u2 u3:List Value},UB h bx ks vs st→pkB h bx ks r=some (w4,rest) →
  WB w' (exB bx) (ks.map (blkOf β)) u2 (st.map (blkOf β))→All2 (TRel1 w' S' β' g') r (u2++u3)→(∀ k∈st,β' k=some (blkOf β k,0)∧∃ l',g' k=some (.box l')) →
  ((∀ (i:Nat) (cs:List CK) (k:Nat) (l:List PV) (c:Array Value),bx[i]?=some cs→ks[i]?=some k→h k=some (.box l)→Blk w' (blkOf β k) c→∀ (j:Nat) (o:PV) (u:Value),(cs[j]?=some .h∨cs[j]?=some .l)→l[j]?=some o→c[j]?=some u→TRel0 w' S' β' g' o u)→∀ k ob,(k,ob)∈w4→∃ a1 c,ob=.box a1∧Blk w' (blkOf β k) c∧All2 (TRel0 w' S' β' g') a1 c.toList)∧All2 (TRel1 w' S' β' g') rest u3:=by
 intro bx
 induction bx with
 | nil =>
  intro ks vs st r w4 rest u2 u3 hu hp hw hr hk
  match ks,vs,st,hu with
  | [],[],[],_ =>
   simp only[pkB,Option.some.injEq,Prod.mk.injEq] at hp
   obtain⟨rfl,rfl⟩:=hp
   match u2,hw with
   | [],_=>exact⟨fun _ k ob hm=>by simp at hm,hr⟩
 | cons cs bx ih =>
  intro ks vs st r w4 rest u2 u3 hu hp hw hr hk
  match ks,hu with
  | k::ks,hu =>
   obtain⟨l,a1,v2,s1,s2,h1,h2,rfl,rfl,h3⟩:=hu
   simp only[pkB,h1] at hp
   split at hp
   · rename_i b1 r1 hpc
     obtain⟨hn,hp⟩:=q8q hp
     split at hp
     · rename_i w5 r2 hpb
       simp only[Option.some.injEq,Prod.mk.injEq] at hp
       obtain⟨rfl,rfl⟩:=hp
       obtain⟨c,x1,x2,q1,q2,hc,rfl,hq,hwc,hwb⟩:=hw
       have hl:=hwc.lenx h2
       rw[List.map_append] at hq
       obtain⟨e1,e2⟩:=List.append_inj hq (by simp [hl])
       subst e1;subst e2
       rw[List.append_assoc] at hr
       obtain⟨g1,g2⟩:=pkC_rel (β:=β) h2 hpc hn hwc hr (fun k' hk'=>hk k' (List.mem_append.2 (.inl hk')))
       obtain⟨g3,g4⟩:=ih h3 hpb hwb g2 (fun k' hk'=>hk k' (List.mem_append.2 (.inr hk')))
       refine⟨fun hH k' ob hm=>?_,g4⟩
       rcases List.mem_cons.1 hm with hm | hm
       · injection hm with e1 e2
         subst e1;subst e2
         exact⟨b1,c,rfl,hc,g1 fun j o u e1 e2 e3=>hH 0 cs k' l c rfl rfl h1 hc j o u e1 e2 (by simpa using e3)⟩
       · exact g3 (fun i cs' k1 l' c' e1 e2=>hH (i+1) cs' k1 l' c' (by simpa using e1) (by simpa using e2)) k' ob hm
     · cases hp
   · cases hp
theorem pkC_stay:∀ {cs:List CK} {l r a r':List PV} {vs:List PV} {s1:List Nat},unpC cs l=some (vs,s1)→pkC cs l r=some (a,r')→(∀ v∈r,v.stays=false) →
  (∀ v∈r',v.stays=false)∧∀ (i:Nat) (v:PV),a[i]?=some v→v.stays=true→l[i]?=some v∧(cs[i]?=some .h∨cs[i]?=some .l):=by
 intro cs
 induction cs with
 | nil =>
  intro l r a r' vs s1 hu hp hr
  cases l with
  | nil=>simp only[pkC,Option.some.injEq,Prod.mk.injEq] at hp;obtain⟨rfl,rfl⟩:=hp;exact⟨hr,fun i v hi=>by simp at hi⟩
  | cons _ _=>simp [unpC] at hu
 | cons c cs ih =>
  intro l r a r' vs s1 hu hp hr
  cases l with
  | nil=>cases c<;>simp [unpC] at hu
  | cons o l =>
   have step:∀ {vs2:List PV} {s2:List Nat} {r0 a2 r2:List PV} (z:PV),unpC cs l=some (vs2,s2)→pkC cs l r0=some (a2,r2)→(∀ v∈r0,v.stays=false)→(z.stays=true→o=z∧(c=.h∨c=.l)) →
      (∀ v∈r2,v.stays=false)∧∀ (i:Nat) (v:PV),(z::a2)[i]?=some v→v.stays=true→(o::l)[i]?=some v∧((c::cs)[i]?=some .h∨(c::cs)[i]?=some .l):=by
    intro vs2 s2 r0 a2 r2 z h1 h2 h3 h4
    obtain⟨q1,q2⟩:=ih h1 h2 h3
    refine⟨q1,fun i v hi hv=>?_⟩
    cases i with
    | zero =>
      simp only[List.getElem?_cons_zero,Option.some.injEq] at hi ⊢
      subst hi
      exact h4 hv
    | succ i=>simpa using q2 i v (by simpa using hi) hv
   cases c with
   | x =>
    cases r with
    | nil=>simp [pkC] at hp
    | cons v r =>
      simp only[pkC] at hp
      simp only[unpC] at hu
      split at hp
      · rename_i a2 r2 h2
        simp only[Option.some.injEq,Prod.mk.injEq] at hp
        obtain⟨rfl,rfl⟩:=hp
        split at hu
        · rename_i x1 x2 h3
          exact step v h3 h2 (fun v hv=>hr v (List.mem_cons_of_mem _ hv)) (fun h=>by rw[hr v List.mem_cons_self] at h;cases h)
        · cases hu
      · cases hp
   | b =>
    cases o with
    | ptr k i off =>
      cases i with
      | succ i=>simp [unpC] at hu
      | zero =>
        cases off with
        | succ off=>simp [unpC] at hu
        | zero =>
          simp only[unpC] at hu
          simp only[pkC] at hp
          split at hp
          · rename_i a2 r2 h2
            simp only[Option.some.injEq,Prod.mk.injEq] at hp
            obtain⟨rfl,rfl⟩:=hp
            split at hu
            · rename_i x1 x2 h3
              exact step _ h3 h2 hr (fun h=>by cases h)
            · cases hu
          · cases hp
    | _=>simp [unpC] at hu
   | h =>
    simp only[unpC] at hu
    simp only[pkC] at hp
    split at hp
    · rename_i a2 r2 h2
      simp only[Option.some.injEq,Prod.mk.injEq] at hp
      obtain⟨rfl,rfl⟩:=hp
      exact step _ hu h2 hr (fun h=>⟨rfl,.inl rfl⟩)
    · cases hp
   | l =>
    simp only[unpC] at hu
    simp only[pkC] at hp
    split at hp
    · rename_i a2 r2 h2
      simp only[Option.some.injEq,Prod.mk.injEq] at hp
      obtain⟨rfl,rfl⟩:=hp
      split at hu
      · rename_i x1 x2 h3
        exact step _ h3 h2 hr (fun h=>⟨rfl,.inr rfl⟩)
      · cases hu
    · cases hp
theorem pkB_stay {h:Hp}:∀ {bx:List (List CK)} {ks:List Nat} {vs:List PV} {st:List Nat} {r:List PV} {w4:List (Nat×Ob)} {rest:List PV},UB h bx ks vs st→pkB h bx ks r=some (w4,rest)→(∀ v∈r,v.stays=false)→∀ k a,(k,Ob.box a)∈w4 →
  ∃ (m:Nat) (cs:List CK) (l:List PV),bx[m]?=some cs∧ks[m]?=some k∧h k=some (.box l)∧∀ (i:Nat) (v:PV),a[i]?=some v→v.stays=true→l[i]?=some v∧(cs[i]?=some .h∨cs[i]?=some .l):=by
 intro bx
 induction bx with
 | nil =>
  intro ks vs st r w4 rest hu hp hr k a hm
  match ks,vs,st,hu with
  | [],[],[],_ =>
   simp only[pkB,Option.some.injEq,Prod.mk.injEq] at hp
   obtain⟨rfl,_⟩:=hp
   simp at hm
 | cons cs bx ih =>
  intro ks vs st r w4 rest hu hp hr k a hm
  match ks,hu with
  | k0::ks,hu =>
   obtain⟨l,a1,v2,s1,s2,h1,h2,rfl,rfl,h3⟩:=hu
   simp only[pkB,h1] at hp
   split at hp
   · rename_i b1 r1 hpc
     obtain⟨hn,hp⟩:=q8q hp
     split at hp
     · rename_i w5 r2 hpb
       simp only[Option.some.injEq,Prod.mk.injEq] at hp
       obtain⟨rfl,_⟩:=hp
       obtain⟨q1,q2⟩:=pkC_stay h2 hpc hr
       rcases List.mem_cons.1 hm with hm | hm
       · injection hm with e1 e2
         injection e2 with e2
         subst e1;subst e2
         exact⟨0,cs,l,rfl,rfl,h1,q2⟩
       · obtain ⟨m, cs', l', g1, g2, g3, g4⟩ := ih h3 hpb q1 k a hm
         exact⟨m+1,cs',l',by simpa using g1,by simpa using g2,g3,g4⟩
     · cases hp
   · cases hp
theorem toPV_stays {t:Ty} {x:t.den}:(toPV t x).stays=false:=by cases t<;>rfl
theorem callRes_stays {h:Hp}:∀ {rs:List (Ty×Bool)} {y:HL (fsts rs)} {k:Nat} {l:List PV} {w3:List (Nat×Ob)},callRes h rs y k=some (l,w3)→∀ v∈l,v.stays=false:=by
 intro rs
 induction rs with
 | nil =>
  intro y k l w3 hh v hv
  simp only[callRes,Option.some.injEq,Prod.mk.injEq] at hh
  obtain⟨rfl,_⟩:=hh
  simp at hv
 | cons p rs ih =>
  intro y k l w3 hh v hv
  obtain⟨t,o⟩:=p
  obtain⟨x,r⟩:=y
  cases o with
  | true =>
   cases t<;>simp only[callRes] at hh<;>try (cases hh;done)
   split at hh
   · split at hh
     · rename_i l2 w2 h2
       simp only[Option.some.injEq,Prod.mk.injEq] at hh
       obtain⟨rfl,_⟩:=hh
       rcases List.mem_cons.1 hv with rfl | hv
       · rfl
       · exact ih h2 v hv
     · cases hh
   · cases hh
  | false =>
   have hh:(match callRes h rs r k with | some (l,w)=>some (toPV t x::l,w) | none=>none)=some (l,w3):=by
     cases t<;>exact hh
   split at hh
   · rename_i l2 w2 h2
     simp only[Option.some.injEq,Prod.mk.injEq] at hh
     obtain⟨rfl,_⟩:=hh
     rcases List.mem_cons.1 hv with rfl | hv
     · exact toPV_stays
     · exact ih h2 v hv
   · cases hh
theorem pkB_keys {h:Hp}:∀ {bx:List (List CK)} {ks:List Nat} {vs:List PV} {st:List Nat} {r:List PV} {w4:List (Nat×Ob)} {rest:List PV},UB h bx ks vs st→pkB h bx ks r=some (w4,rest)→keysW w4=ks∧∀ k ob,(k,ob)∈w4→∃ l,ob=.box l:=by
 intro bx
 induction bx with
 | nil =>
  intro ks vs st r w4 rest hu hp
  match ks,vs,st,hu with
  | [],[],[],_ =>
   simp only[pkB,Option.some.injEq,Prod.mk.injEq] at hp
   obtain⟨rfl,rfl⟩:=hp
   exact⟨rfl,fun k ob hm=>by simp at hm⟩
 | cons cs bx ih =>
  intro ks vs st r w4 rest hu hp
  match ks,hu with
  | k::ks,hu =>
   obtain⟨l,a1,v2,s1,s2,h1,h2,rfl,rfl,h3⟩:=hu
   simp only[pkB,h1] at hp
   split at hp
   · rename_i b1 r1 hpc
     obtain⟨hn,hp⟩:=q8q hp
     split at hp
     · rename_i w5 r2 hpb
       simp only[Option.some.injEq,Prod.mk.injEq] at hp
       obtain⟨rfl,rfl⟩:=hp
       obtain⟨e1,e2⟩:=ih h3 hpb
       refine⟨by simp only[keysW,List.map_cons] at e1 ⊢;rw[e1],fun k' ob hm=>?_⟩
       rcases List.mem_cons.1 hm with hm | hm
       · injection hm with _ e;exact⟨b1,e⟩
       · exact e2 k' ob hm
     · cases hp
   · cases hp
end
variable {T:Told} {P:Program} {tb:Tb}
theorem UB.mono {h h':Hp} (hs:∀ k ob,h k=some ob→h' k=some ob):∀ {bx:List (List CK)} {ks:List Nat} {vs:List PV} {st:List Nat},UB h bx ks vs st→UB h' bx ks vs st:=by
 intro bx
 induction bx with
 | nil =>
  intro ks vs st hu
  match ks,vs,st,hu with
  | [],[],[],_=>trivial
 | cons cs bx ih =>
  intro ks vs st hu
  match ks,hu with
  | k::ks,hu =>
   obtain⟨l,a1,v2,s1,s2,h1,h2,e1,e2,h3⟩:=hu
   exact⟨l,a1,v2,s1,s2,hs _ _ h1,h2,e1,e2,ih h3⟩
theorem callB_sim {env:Env} (hE:EnvOk T P env) {o:Oper} {s:St} {hp:Hp} (hs:Sub hp s) {f:FuncId} {ct:Ctr} (hf:env f=some ct) {wi:Wir} (hwi:ct.wi=some wi) {args:List PV} {d:Nat} (hd:o.dst=some d)
   (hn:∀ k,d*8≤k→k<d*8+8→hp k=none→get s.h k=none) {ef:Eff}
   (hrun:∀ (B:Base) (w:World) (S:Foot) (β:Con) (a:Act),Rel T B w S β s a→∃ us:List Value,(execOp a.eval o).run P w=(callFunc f us.toArray).run P w∧All2 (TRel w S β (get s.h)) args us)
   (h:effCallB hp d ct wi args some=some ef):OpSim T P o s ef:=by
 intro B w S β a R hdo next Q hnx
 obtain⟨as,hrun,has⟩:=hrun B w S β a R
 obtain⟨⟨fn,f1,f2,f3⟩,hdoes,hflat⟩:=hE f ct hf
 simp only[Ctr.flat,Bool.and_eq_true] at hflat
 rw[hwi] at hdoes
 have hdoes:DoesB T P f ct wi:=hdoes
 unfold Oper.wp
 rw[hrun,run_callFunc f1 f2 f3]
 unfold effCallB at h
 split at h
 · rename_i a1 qk hu0
   obtain⟨fl,hu1,hfl⟩:∃ fl,unpC wi.args fl=some (a1,qk)∧ungr wi.ga args=some fl:=by
     cases hq:ungr wi.ga args with
     | none=>rw[hq] at hu0;cases hu0
     | some fl=>rw[hq] at hu0;exact⟨fl,hu0,rfl⟩
   obtain⟨fas,hgv,hfas⟩:=ungr_gv hfl has
   split at h
   · rename_i a2 ks hu2
     obtain⟨hdist,h⟩:=q8q h
     obtain⟨V,hV⟩:∃ V,V=a1++a2:=⟨_,rfl⟩
     rw[← hV] at h
     split at h
     · rename_i x w1 hca
       cases hF:ct.F x with
       | none=>rw[hF] at h;cases h
       | some r =>
       rw[hF] at h
       simp only[Option.bind_some] at h
       split at h
       · rename_i w2 hco
         split at h
         · rename_i l w3 hcr
           obtain⟨hl7,h⟩:=q8q h
           have hl7:=Nat.le_of_ble_eq_true hl7
           split at h
           · rename_i w4 rst hpk
             have hres:∃ pvs cells w5,ef.v=some (outP pvs)∧ef.hw=w5++(w4++(w3++w2++w1))∧grp wi.gr cells=some pvs∧((w5=[]∧rst=[]∧wi.nb=none∧cells=l.take wi.nres) ∨
                (∃ n,wi.nb=some n∧w5=[(d*8+7,.box rst)]∧cells=(l.take wi.nres).take wi.np++.ptr (d*8+7) 0 0::(l.take wi.nres).drop wi.np∧hp (d*8+7)=none∧rst.length=n∧noAgg rst=true)):=by
              split at h
              · rename_i h1
                split at h
                · rename_i vs hvs
                  injection h with h;subst h
                  exact⟨vs,_,[],rfl,rfl,hvs,.inl ⟨rfl,rfl,h1,rfl⟩⟩
                · cases h
              · rename_i rst _ _ n h1
                split at h
                · rename_i h3
                  obtain⟨h4,h⟩:=q8q h
                  simp only[Bool.and_eq_true] at h4
                  split at h
                  · rename_i vs hvs
                    injection h with h;subst h
                    exact⟨vs,_,[(d*8+7,.box rst)],rfl,rfl,hvs,.inr ⟨n,h1,rfl,rfl,h3,Nat.eq_of_beq_eq_true h4.1,h4.2⟩⟩
                  · cases h
                · cases h
              · cases h
             clear h
             obtain⟨pvs,cells,w5,hpv,hhw,hgrp,hkind⟩:=hres
             obtain⟨st,eks,hub⟩:=unpB_ub hu2
             have hboxp:∀ k∈ks,∃ l,hp k=some (.box l):=hub.box
             have hbox:∀ k∈ks,∃ l,get s.h k=some (.box l):=fun k hk=>by
              obtain⟨l,hl⟩:=hboxp k hk
              exact⟨l,hs k _ hl⟩
             have hbb:∀ k l,get s.h k=some (.box l)→∃ c,β k=some (blkOf β k,0)∧Blk w (blkOf β k) c∧All2 (TRel0 w S β (get s.h)) l c.toList:=by
              intro k l hk
              obtain⟨b,c,h1,h2,h3,_⟩:=R.obs k _ hk
              have e:blkOf β k=b:=by simp [blkOf,h1]
              rw[e];exact⟨c,h1,h2,h3⟩
             have hblk:∀ k∈ks,β k=some (blkOf β k,0):=fun k hk=>by
              obtain⟨l,hl⟩:=hbox k hk
              obtain⟨c,h1,_⟩:=hbb k l hl
              exact h1
             have hqk:∀ k∈qk,k∈ks:=fun k hk=>by rw[eks];exact List.mem_append.2 (.inl hk)
             have hstk:∀ k∈st,k∈ks:=fun k hk=>by rw[eks];exact List.mem_append.2 (.inr hk)
             obtain⟨u1,hwc,hau1⟩:=unpC_wc (β:=β) hu1 hfas (fun k hk=>⟨hblk k (hqk k hk),hbox k (hqk k hk)⟩)
             obtain⟨u2,hwb,hau2⟩:=UB.wb hbb (hub.mono hs) (fun k hk=>hbox k (hstk k hk))
             have hus:All2 (TRel w S β (get s.h)) V (u1++u2):=by rw[hV];exact All2.append hau1 hau2
             obtain⟨k1,k2,k3,k4,k5⟩:=callArgs_keys hca 0
             obtain⟨S1,R1,hS1,hS1n,hdec⟩:=R.frz hs (immKeys ct.ps V)
             generalize hK:immKeys ct.ps V=K at *
             have hfz:∀ k,k ∉ K→get (frzW hp K++s.h) k=get s.h k:=fun k hk=>by rw[q2q,frzW_none hk];rfl
             have huse:∀ {n k off:Nat},(n,(k,off))∈uses ct.ps V 0→k ∉ K∧∃ t xs m,hp k=some (.rows t xs m)∧m≠.frz:=by
              intro n k off hg
              refine⟨(k2 k (List.mem_map.2 ⟨_,hg,rfl⟩)).2.2,?_⟩
              rcases callArgs_uses hca hg with ⟨_,_,_,t,xs,h⟩ | ⟨_,t,xs,m,h1,h2⟩
              · exact⟨t,xs,_,h,by simp⟩
              · exact⟨t,xs,m,h1,h2⟩
             have hlive:∀ {n k off:Nat},(n,(k,off))∈uses ct.ps V 0→∃ ob,get s.h k=some ob∧ob.live=true∧get (frzW hp K++s.h) k=some ob:=by
              intro n k off hg
              obtain⟨h1,t,xs,m,h2,h3⟩:=huse hg
              exact⟨_,hs k _ h2,by cases m<;>first | rfl | exact absurd rfl h3,by rw[hfz k h1];exact hs k _ h2⟩
             have huS:∀ k∈useK (uses ct.ps V 0),∀ b o',β k=some (b,o')→¬ S1 b:=by
              intro k hk b o' hb
              obtain⟨⟨n,k',off⟩,hm,rfl⟩:=List.mem_map.1 hk
              obtain⟨ob,_,h2,h3⟩:=hlive hm
              exact(R1.liveS h3 h2 hb).1
             have hcon:∀ {n b o':Nat},conOf β (uses ct.ps V 0) n=some (b,o')→∃ k off o1,get (uses ct.ps V 0) n=some (k,off)∧β k=some (b,o1)∧o'=o1+off:=by
              intro n b o' hc
              unfold conOf at hc
              split at hc
              · rename_i k off hg
                cases hb:β k with
                | none=>rw[hb] at hc;cases hc
                | some p =>
                  obtain⟨b1,o1⟩:=p
                  rw[hb] at hc
                  simp only[Option.map_some] at hc
                  injection hc with hc
                  injection hc with h1 h2
                  subst h1
                  exact⟨k,off,o1,hg,hb,h2.symm⟩
              · cases hc
             have hsame:∀ {k k' b o1 o2 n n' off off':Nat},(n,(k,off))∈uses ct.ps V 0→(n',(k',off'))∈uses ct.ps V 0→β k=some (b,o1)→β k'=some (b,o2)→k=k':=by
              intro k k' b o1 o2 n n' off off' hg hg' hb hb'
              obtain⟨ob,h1,h2,_⟩:=hlive hg
              obtain⟨ob',h1',h2',_⟩:=hlive hg'
              exact R.inj k k' ob ob' b o1 o2 h1 h2 h1' h2' hb hb'
             have hen:Enter T w S1 (conOf β (uses ct.ps V 0)) ct.ps x (u1++u2):=by
              refine⟨callArgs_args R hs hS1 hdec hca hus (fun k hk=>by rw[← hK];exact hk) huS (fun _ _=>rfl),fun n b o' hc=>?_,fun n n' b o1 o2 h1 h2=>?_,R1.Slt,R1.told,fun b hb=>R1.S0 b (R1.toldS b hb)⟩
              · obtain ⟨k, off, o1, hg, _⟩ := hcon hc
                exact(uses_ge hg).2
              · obtain ⟨k, off, o1', hg, hb, _⟩ := hcon h1
                obtain⟨k',off',o2',hg',hb',_⟩:=hcon h2
                have:=hsame (get_mem hg) (get_mem hg') hb hb'
                subst this
                exact nodup_get k1 hg hg'
             have hnd:ks.Nodup:=distinctN_nodup hdist
             have hk1:∀ k∈ks,∃ l,get (frzW hp K++s.h) k=some (.box l):=fun k hk=>by
              obtain⟨l,hl⟩:=hboxp k hk
              rw[q2q]
              cases hq:get (frzW hp K) k with
              | none=>exact⟨l,hs k _ hl⟩
              | some ob' =>
                obtain⟨ob0,q1,q2⟩:=get_frzW hq
                rw[hl] at q1;injection q1 with q1;subst q1;subst q2
                exact⟨l,rfl⟩
             have hbS1:∀ k∈ks,¬ S1 (blkOf β k)∧B.Mo (blkOf β k):=fun k hk=>by
              obtain⟨l,hl⟩:=hk1 k hk
              exact R1.liveS hl rfl (hblk k hk)
             have hinjb:∀ k∈ks,∀ k' ob o',get s.h k'=some ob→ob.live=true→β k'=some (blkOf β k,o')→k=k':=fun k hk k' ob o' h1 h2 h3=>by
              obtain⟨l,hl⟩:=hbox k hk
              exact R.inj k k' _ ob _ 0 o' hl rfl h1 h2 (hblk k hk) h3
             have hmem:∀ b,b∈qk.map (blkOf β)++st.map (blkOf β)→∃ k∈ks,blkOf β k=b:=fun b hb=>by
              rw[← List.map_append,← eks] at hb
              exact List.mem_map.1 hb
             have henB:EnterB T w S1 (conOf β (uses ct.ps V 0)) wi ct.ps x as (u1++u2) (qk.map (blkOf β)) (st.map (blkOf β)):=by
              refine⟨⟨fas,u1,u2,hgv,rfl,hwc,by rw[← List.map_append,← eks];exact hwb⟩,hen,?_,fun b hb=>?_,fun b hb n o' hc=>?_⟩
              · rw [← List.map_append, ← eks]
                refine List.Pairwise.map _ (R:=fun a b=>a≠b∧a∈ks∧b∈ks) (fun a b hab e=>?_) ?_
                · obtain ⟨l', hl'⟩ := hbox b hab.2.2
                  exact hab.1 (hinjb a hab.2.1 b _ 0 hl' rfl (by rw[e];exact hblk b hab.2.2))
                · exact List.Pairwise.imp_of_mem (fun ha hb h=>⟨h,ha,hb⟩) hnd
              · obtain ⟨k, hk, rfl⟩ := hmem b hb
                exact(hbS1 k hk).1
              · obtain ⟨k, hk, rfl⟩ := hmem b hb
                obtain⟨k',off,o1,hg,hb',_⟩:=hcon hc
                obtain⟨ob,h1,h2,_⟩:=hlive (get_mem hg)
                have:=hinjb k hk k' ob o1 h1 h2 hb'
                subst this
                obtain⟨_,t,xs,m,h3,_⟩:=huse (get_mem hg)
                obtain⟨l',hl'⟩:=hboxp k hk
                rw[hl'] at h3;cases h3
             refine Calls.mono (hdoes x r hF w S1 _ as (u1++u2) _ _ henB) fun e w' he=>?_
             cases e with
             | panicked c=>exact he.elim
             | outgrown=>exact he.elim
             | returned v =>
              obtain⟨S',ρ,L⟩:=he
              obtain⟨u1',u2',u3',hrs,hnr,hwb',rvs,rcs,hvr,hgr,hnb⟩:=L.res
              obtain⟨hll,hw3⟩:=callRes_w hcr hrs
              obtain⟨o1,o2⟩:=callOuts_w (β:=β) hca hco L.outs (fun _ _=>rfl)
              have hnew:∀ n ob,get w3 n=some ob→get s.h n=none:=fun n ob hg=>by
                obtain⟨a1,a2,a3,_⟩:=hw3 n ob hg
                exact hn n a1 (by omega) a3
              have hnew':∀ n ob,get w3 n=some ob→get (frzW hp K++s.h) n=none:=fun n ob hg=>by
                have h1:=hnew n ob hg
                rw[q2q,h1]
                cases hq:get (frzW hp K) n with
                | none=>rfl
                | some ob' =>
                  obtain⟨ob0,q1,_⟩:=get_frzW hq
                  rw[hs n _ q1] at h1;cases h1
              have h5:∃ bn:Option Nat,(bn=none∧w5=[])∨(∃ b,bn=some b∧w5=[(d*8+7,.box rst)]∧rcs=u1'.take wi.np++.pointer (some ⟨b,0,none⟩)::u1'.drop wi.np∧Blk w' b u3'.toArray∧w.heap.size≤b∧¬ S' b∧(∀ j o,ρ j≠some (b,o))∧get s.h (d*8+7)=none∧hp (d*8+7)=none∧noAgg rst=true):=by
                rcases hkind with ⟨e5,_,_,_⟩ | ⟨n,e1,e5,_,e3,_,e6⟩
                · exact⟨none,.inl ⟨rfl,e5⟩⟩
                · rw [e1] at hnb
                  obtain⟨_,b,g1,g2,g3,g4,g5⟩:=hnb
                  exact⟨some b,.inr ⟨b,rfl,e5,g1,g2,g3,g4,g5,hn _ (by omega) (by omega) e3,e3,e6⟩⟩
              obtain⟨bn,h5⟩:=h5
              let β':Con:=fun n=>if n∈keysW w3 then ρ (n-d*8) else if n∈keysW w5 then bn.map fun b=>(b,0) else β n
              have hβ3:∀ n ob,get w3 n=some ob→β' n=ρ (n-d*8):=fun n ob hg=>by simp only[β',if_pos (mem_keysW_of_get hg)]
              have hw5k:∀ n,n∈keysW w5→n=d*8+7∧get s.h n=none:=fun n hn5=>by
                rcases h5 with ⟨_,e⟩ | ⟨b,_,e,_,_,_,_,_,q,_⟩
                · rw[e] at hn5;simp [keysW] at hn5
                · rw[e] at hn5;simp [keysW] at hn5;subst hn5;exact⟨rfl,q⟩
              have h35:∀ n,n∈keysW w3→n ∉ keysW w5:=fun n h3 h5'=>by
                obtain⟨ob,hg⟩:=q13q h3
                obtain⟨_,a2,_⟩:=hw3 n ob hg
                have:=(hw5k n h5').1
                omega
              have hβ5:∀ n ob,get w5 n=some ob→∃ b,β' n=some (b,0)∧bn=some b∧n=d*8+7∧ob=.box rst∧rcs=u1'.take wi.np++.pointer (some ⟨b,0,none⟩)::u1'.drop wi.np∧Blk w' b u3'.toArray∧w.heap.size≤b∧¬ S' b∧(∀ j o,ρ j≠some (b,o))∧get (frzW hp K++s.h) n=none∧noAgg rst=true:=fun n ob hg=>by
                have hm:=mem_keysW_of_get hg
                have h3:n ∉ keysW w3:=fun h=>h35 n h hm
                rcases h5 with ⟨_,e⟩ | ⟨b,e0,e,g1,g2,g3,g4,g5,q,q2,q3⟩
                · rw[e] at hg;simp [get] at hg
                · rw [e, q6q] at hg
                  split at hg
                  · rename_i en
                    injection hg with hg
                    refine⟨b,by simp only[β',if_neg h3,if_pos hm,e0];rfl,e0,en.symm,hg.symm,g1,g2,g3,g4,g5,?_,q3⟩
                    rw[q2q,← en,q]
                    cases hq:get (frzW hp K) (d*8+7) with
                    | none=>rfl
                    | some ob' =>
                      obtain⟨ob0,q1,_⟩:=get_frzW hq
                      rw[q2] at q1;cases q1
                  · simp [get] at hg
              have hβo:∀ n ob,get s.h n=some ob→β' n=β n:=fun n ob hg=>by
                have h3:n ∉ keysW w3:=fun hm=>by
                  obtain⟨ob',h'⟩:=q13q hm
                  rw[hnew n ob' h'] at hg;cases hg
                have h5':n ∉ keysW w5:=fun hm=>by
                  rw[(hw5k n hm).2] at hg;cases hg
                simp only[β',if_neg h3,if_neg h5']
              have hownk:∀ {n b o':Nat},n∈ownK ct.ps 0→conOf β (uses ct.ps V 0) n=some (b,o')→∃ k t xs,get s.h k=some (.rows t xs .own)∧k∈keysW (goneW ct.ps V)∧β k=some (b,0)∧o'=0:=by
                intro n b o' hm hc
                obtain⟨k,off,o1',hg,hb,rfl⟩:=hcon hc
                rcases callArgs_uses hca (get_mem hg) with ⟨g1,_,rfl,t,xs,g2⟩ | ⟨g1,_⟩
                · have g3 := hs k _ g2
                  have:=R.obs k _ g3
                  simp only[ORel,hb] at this
                  have h0:=this.2.2.2.2 trivial
                  subst h0
                  exact⟨k,t,xs,g3,g1,hb,rfl⟩
                · exact absurd g1 (ownK_lentK hm)
              have hWk:∀ {n b o':Nat},conOf β (uses ct.ps V 0) n=some (b,o')→∃ k off o1' ob,(n,(k,off))∈uses ct.ps V 0∧k∈keysW (w2++goneW ct.ps V)∧get s.h k=some ob∧ob.live=true∧get (frzW hp K++s.h) k=some ob∧β k=some (b,o1'):=by
                intro n b o' hc
                obtain⟨k,off,o1',hg,hb,rfl⟩:=hcon hc
                obtain⟨ob,q1,q2,q3⟩:=hlive (get_mem hg)
                refine⟨k,off,o1',ob,get_mem hg,?_,q1,q2,q3,hb⟩
                simp only[keysW,List.map_append,List.mem_append]
                rcases callArgs_uses hca (get_mem hg) with ⟨g1,_⟩ | ⟨g1,_⟩
                · exact .inr g1
                · exact .inl (o1 n k off hg g1)
              have hS'no:∀ k ob b o',get (frzW hp K++s.h) k=some ob→k ∉ keysW (goneW ct.ps V)→ob.live=true→β k=some (b,o')→¬ S' b:=by
                intro k ob b o' hk hm hl hb hS'
                rcases L.fresh b hS' with h | h | ⟨n,h1,o2',h2⟩
                · exact(R1.liveS hk hl hb).1 h
                · obtain ⟨c, hc⟩ := R1.blk hk (by rintro rfl; cases hl) hb
                  have:=hc.lt
                  omega
                · obtain ⟨k', t, xs, q1, q2, q3, _⟩ := hownk h1 h2
                  have q4:get (frzW hp K++s.h) k'=some (.rows t xs .own):=by
                    rw[hfz];exact q1
                    obtain⟨ku,hku,hke⟩:=List.mem_map.1 (k4 k' q2)
                    obtain⟨n1,k1',off1⟩:=ku
                    simp only at hke
                    subst hke
                    exact(huse hku).1
                  have:=R1.inj k k' _ _ b _ _ hk hl q4 rfl hb q3
                  subst this
                  exact hm q2
              have hw2:∀ k ob,get w2 k=some ob→∃ (t:Ty) (xs ys:List t.den) (m:Md) (off:Nat),get s.h k=some (.rows t xs m)∧m≠.frz∧get (frzW hp K++s.h) k=some (.rows t xs m)∧k ∉ keysW (goneW ct.ps V) ∧
                  ob=.rows t (over xs off ys) m∧off+ys.length≤xs.length∧∀ b o',β k=some (b,o')→¬ S' b∧∃ c0 c,Blk w b c0∧Blk w' b c∧c.size=c0.size ∧
                    (∀ j,(j<o'+off*t.size∨o'+off*t.size+ys.length*t.size≤j)→c[j]?=c0[j]?)∧RowAt (Cell w' S' t) t.size w' b (o'+off*t.size) ys:=by
                intro k ob hk
                obtain⟨n,off,len,t,xs,ys,m,q1,q2,q3,q4,q5,j,q6⟩:=o2 k ob hk
                have hk':=hs k _ q3
                have hmf:m≠.frz:=by
                  obtain⟨_,t',xs',m',g1,g2⟩:=huse (get_mem q1)
                  rw[q3] at g1;injection g1 with g1;injection g1 with g1 g3 g4
                  subst g4;exact g2
                obtain⟨u,hu1,hu2⟩:=hus.get q6
                obtain⟨hwin,_⟩:=osl_val R hk' hu2
                have hwl:=winOk_len hwin
                have hlen:=win_length hwin
                obtain⟨q5,q7⟩:=q5
                refine⟨t,xs,ys,m,off,hk',hmf,by rw[hfz k (huse (get_mem q1)).1];exact hk',?_,q4,by omega,fun b o' hb=>?_⟩
                · intro hg
                  obtain⟨n',off',h1,h2⟩:=goneW_uses (i:=0) hg
                  have:=nodup_mem k1 h1 (get_mem q1)
                  subst this
                  exact ownK_lentK h2 q2
                · rw [hb] at q7
                  simp only[Option.map_some] at q7
                  obtain⟨q7,c0,c,q8,q9,q10,q11,q12⟩:=q7
                  exact⟨q7,c0,c,q8,q9,q10,by rw[q5];exact q11,q12⟩
              obtain⟨hk4,hb4⟩:=pkB_keys hub hpk
              have hw4:∀ k ob,get w4 k=some ob→k∈ks∧∃ l,ob=.box l:=fun k ob hg=>by
                refine⟨?_,hb4 k ob (get_mem hg)⟩
                rw[← hk4];exact mem_keysW_of_get hg
              have hgone4:∀ k∈ks,k ∉ keysW (goneW ct.ps V):=fun k hk hg=>by
                obtain⟨n,off,h1,h2⟩:=goneW_uses (i:=0) hg
                obtain⟨_,t,xs,m,h3,_⟩:=huse h1
                obtain⟨l',hl'⟩:=hboxp k hk
                rw[hl'] at h3;cases h3
              have h42:∀ k ob,get w2 k=some ob→k ∉ ks:=fun k ob hg hk=>by
                obtain⟨t,xs,ys,m,off,p1,_⟩:=hw2 k ob hg
                obtain⟨l',hl'⟩:=hbox k hk
                rw[hl'] at p1;cases p1
              have h43:∀ k ob,get w3 k=some ob→k ∉ ks:=fun k ob hg hk=>by
                obtain⟨l',hl'⟩:=hbox k hk
                rw[hnew k ob hg] at hl';cases hl'
              have h45:∀ k,k∈keysW w5→k ∉ ks:=fun k hg hk=>by
                obtain⟨l',hl'⟩:=hbox k hk
                rw[(hw5k k hg).2] at hl';cases hl'
              have hHW:∀ k,k∈keysW ((w5++w4)++(w3++(w2++goneW ct.ps V))) ↔ k∈keysW w5∨k∈ks∨k∈keysW w3∨k∈keysW w2∨k∈keysW (goneW ct.ps V):=fun k=>by
                rw[← hk4];simp only[keysW,List.map_append,List.mem_append,or_assoc]
              have hgw:∀ k ob,get (((w5++w4)++(w3++(w2++goneW ct.ps V)))++(frzW hp K++s.h)) k=some ob→get w5 k=some ob∨(k ∉ keysW w5∧get w4 k=some ob)∨get w3 k=some ob∨(get w3 k=none∧get w2 k=some ob)∨(k∈keysW ((w5++w4)++(w3++(w2++goneW ct.ps V)))∧ob=.gone)∨(k ∉ keysW ((w5++w4)++(w3++(w2++goneW ct.ps V)))∧get (frzW hp K++s.h) k=some ob):=by
                intro k ob hk
                cases e5:get w5 k with
                | some ob5 =>
                  rw[q2q,q2q,q2q,e5] at hk
                  exact .inl hk
                | none =>
                  have n5:k ∉ keysW w5:=fun hm=>by
                    obtain⟨ob',h'⟩:=q13q hm
                    rw[e5] at h';cases h'
                  cases e4:get w4 k with
                  | some ob4 =>
                    rw[q2q,q2q,q2q,e5,e4] at hk
                    exact .inr (.inl ⟨n5,hk⟩)
                  | none =>
                    cases e3:get w3 k with
                    | some ob3 =>
                      rw[q2q,q2q,q2q,q2q,e5,e4,e3] at hk
                      exact .inr (.inr (.inl hk))
                    | none =>
                      cases e2:get w2 k with
                      | some ob2 =>
                        rw[q2q,q2q,q2q,q2q,q2q,e5,e4,e3,e2] at hk
                        exact .inr (.inr (.inr (.inl ⟨rfl,hk⟩)))
                      | none =>
                        cases e1:get (goneW ct.ps V) k with
                        | some ob1 =>
                          rw[q2q,q2q,q2q,q2q,q2q,e5,e4,e3,e2,e1] at hk
                          injection hk with hk
                          subst hk
                          exact .inr (.inr (.inr (.inr (.inl ⟨(hHW k).2 (.inr (.inr (.inr (.inr (mem_keysW_of_get e1))))),goneW_gone e1⟩))))
                        | none =>
                          have hm:k ∉ keysW ((w5++w4)++(w3++(w2++goneW ct.ps V))):=fun hm=>by
                           obtain⟨ob',h'⟩:=q13q hm
                           rw[q2q,q2q,q2q,q2q,e5,e4,e3,e2,e1] at h';cases h'
                          rw[q2q,q2q,q2q,q2q,q2q,e5,e4,e3,e2,e1] at hk
                          exact .inr (.inr (.inr (.inr (.inr ⟨hm,hk⟩))))
              have hold:∀ k ob,get (((w5++w4)++(w3++(w2++goneW ct.ps V)))++(frzW hp K++s.h)) k=some ob→ob.live=true→get w5 k=some ob∨get w3 k=some ob∨(k ∉ keysW (goneW ct.ps V)∧β' k=β k∧∃ ob0,get (frzW hp K++s.h) k=some ob0∧ob0.live=true):=by
                intro k ob hk hl
                rcases hgw k ob hk with h | ⟨_,h⟩ | h | ⟨h0,h⟩ | ⟨_,rfl⟩ | ⟨h0,h⟩
                · exact .inl h
                · obtain ⟨p1, _⟩ := hw4 k ob h
                  obtain⟨l',hl'⟩:=hk1 k p1
                  obtain⟨l2,hl2⟩:=hbox k p1
                  exact .inr (.inr ⟨hgone4 k p1,hβo k _ hl2,_,hl',rfl⟩)
                · exact .inr (.inl h)
                · obtain ⟨t, xs, ys, m, off, p1, p2, p3, p4, _⟩ := hw2 k ob h
                  exact .inr (.inr ⟨p4,hβo k _ p1,_,p3,by cases m<;>first | rfl | exact absurd rfl p2⟩)
                · cases hl
                · have h0' := fun q => h0 ((hHW k).2 q)
                  refine .inr (.inr ⟨fun hm=>h0' (.inr (.inr (.inr (.inr hm)))),?_,ob,h,hl⟩)
                  have q3:k ∉ keysW w3:=fun hm=>h0' (.inr (.inr (.inl hm)))
                  have q5:k ∉ keysW w5:=fun hm=>h0' (.inl hm)
                  simp only[β',if_neg q3,if_neg q5]
              have hw3b:∀ k ob,get w3 k=some ob→∀ b o',β' k=some (b,o')→∀ k' ob' o2,get (frzW hp K++s.h) k'=some ob'→ob'.live=true→k' ∉ keysW (goneW ct.ps V)→β k'≠some (b,o2):=by
                intro k ob hk b o' hb k' ob' o2 hk' hl' hm hb'
                rw[hβ3 k ob hk] at hb
                rcases L.rdom _ _ _ hb with h | ⟨n,h1,o3,h2⟩
                · obtain ⟨c, hc⟩ := R1.blk hk' (by rintro rfl; cases hl') hb'
                  have:=hc.lt;omega
                · obtain ⟨k2, t, xs, p1, p2, p3, _⟩ := hownk h1 h2
                  have q4:get (frzW hp K++s.h) k2=some (.rows t xs .own):=by
                    rw[hfz];exact p1
                    obtain⟨ku,hku,hke⟩:=List.mem_map.1 (k4 k2 p2)
                    obtain⟨n1,k1',off1⟩:=ku
                    simp only at hke
                    subst hke
                    exact(huse hku).1
                  have:=R1.inj k' k2 _ _ b _ _ hk' hl' q4 rfl hb' p3
                  subst this
                  exact hm p2
              have hw5b:∀ k ob,get w5 k=some ob→∀ b o',β' k=some (b,o')→∀ k' ob' o2,get (frzW hp K++s.h) k'=some ob'→ob'.live=true→β k'≠some (b,o2):=by
                intro k ob hk b o' hb k' ob' o2 hk' hl' hb'
                obtain⟨b0,e1,_,_,_,_,_,e2,_⟩:=hβ5 k ob hk
                rw[e1] at hb
                injection hb with hb
                injection hb with hb _
                subst hb
                obtain⟨c,hc⟩:=R1.blk hk' (by rintro rfl;cases hl') hb'
                have:=hc.lt;omega
              have hcells:∀ g':Hp,(∀ n ob,get w3 n=some ob→g' n=some ob)→(∀ k∈ks,∃ l',g' k=some (.box l')) →
                  (Evo w w' S1 S' β β' (get (frzW hp K++s.h)) g'→∀ k ob,get w4 k=some ob→∃ a1 c,ob=.box a1∧Blk w' (blkOf β k) c∧All2 (TRel0 w' S' β' g') a1 c.toList)∧All2 (TRel1 w' S' β' g') rst u3'∧All2 (TRel1 w' S' β' g') (l.take wi.nres) u1':=by
                intro g' h3 hbx
                have hall:All2 (TRel1 w' S' β' g') l (u1'++(u2'++u3')):=callRes_v hcr hrs fun n ob hg=>⟨h3 n ob hg,by rw[hβ3 n ob hg,Nat.zero_add]⟩
                have ht:=hall.take wi.nres
                have hdr:=hall.drop wi.nres
                rw[← hnr,List.take_left] at ht
                rw[← hnr,List.drop_left] at hdr
                rw[hnr] at ht hdr
                obtain⟨q1,q2⟩:=pkB_rel (β:=β) (β':=β') (w':=w') (S':=S') (g':=g') hub hpk (by rw[eks,List.map_append];exact hwb') hdr (fun k hk=>⟨by
                  obtain⟨l2,hl2⟩:=hbox k (hstk k hk)
                  rw[hβo k _ hl2];exact hblk k (hstk k hk),hbx k (hstk k hk)⟩)
                exact⟨fun hEv k ob hg=>q1 (fun i cs k l c e1 e2 e3 e4 j o u e5 e6 e7=>by
                  have hkm:k∈ks:=List.mem_of_getElem? e2
                  have hl1:get (frzW hp K++s.h) k=some (.box l):=by
                    rw[q2q]
                    cases hq:get (frzW hp K) k with
                    | none=>exact hs k _ e3
                    | some ob' =>
                      obtain⟨ob0,q1,q2⟩:=get_frzW hq
                      rw[e3] at q1;injection q1 with q1;subst q1;subst q2;rfl
                  obtain⟨b,c0,p1,p2,p3,_⟩:=R1.obs k _ hl1
                  have hbk:=hblk k hkm
                  rw[hbk] at p1
                  injection p1 with p1
                  injection p1 with p1 _
                  subst p1
                  obtain⟨u0,r1,r2⟩:=p3.get e6
                  have hid:=L.hid i cs (blkOf β k) e1 (by rw[← List.map_append,← eks,List.getElem?_map,e2];rfl) j e5
                  rw[e4.cell,p2.cell,e7] at hid
                  rw[Array.getElem?_toList] at r1
                  rw[r1] at hid
                  injection hid with hid
                  rw[hid]
                  exact r2.evo hEv) k ob (get_mem hg),q2,ht⟩
              have hg3:∀ n ob,get w3 n=some ob→get (((w5++w4)++(w3++(w2++goneW ct.ps V)))++(frzW hp K++s.h)) n=some ob:=fun n ob hg=>by
                have e5:get w5 n=none:=q11q fun h=>h35 n (mem_keysW_of_get hg) h
                have e4:get w4 n=none:=q11q fun h=>h43 n ob hg (by rw[← hk4];exact h)
                rw[q2q,q2q,q2q,q2q,e5,e4,hg];rfl
              have hg4:∀ k∈ks,∃ l',get (((w5++w4)++(w3++(w2++goneW ct.ps V)))++(frzW hp K++s.h)) k=some (.box l'):=fun k hk=>by
                have e5:get w5 k=none:=q11q fun h=>h45 k h hk
                obtain⟨ob,hob⟩:=q13q (hw:=w4) (k:=k) (by rw[hk4];exact hk)
                obtain⟨l',rfl⟩:=(hw4 k ob hob).2
                exact⟨l',by rw[q2q,q2q,q2q,e5,hob];rfl⟩
              obtain⟨hc4,hc5,hc1⟩:=hcells _ hg3 hg4
              have R2:Rel T B w' S' β' ⟨s.e,((w5++w4)++(w3++(w2++goneW ct.ps V)))++(frzW hp K++s.h)⟩ a:=by
                refine R1.gen (w':=w') (S':=S') (β':=β') L.calm ((w5++w4)++(w3++(w2++goneW ct.ps V))) (fun b=>(∃ n o',conOf β (uses ct.ps V 0) n=some (b,o'))∨b∈qk.map (blkOf β)++st.map (blkOf β)) ?_ L.grow ?_ ?_ L.sub ?_ L.Slt ?_ ?_ ?_ ?_ ?_ ?_ ?_ ?_ ?_ ?_ ?_
                · exact fun b hb hnW=>L.same b hb (fun k o' h=>hnW (.inl ⟨k,o',h⟩)) fun h=>hnW (.inr h)
                · rintro b (⟨n, o', hc⟩ | hb)
                  · obtain ⟨k, off, o1', ob, _, q1, q2, q3, q4, q5⟩ := hWk hc
                    refine⟨k,ob,o1',(hHW k).2 ?_,q4,q3,q5⟩
                    simp only[keysW,List.map_append,List.mem_append] at q1
                    rcases q1 with q1 | q1
                    · exact .inr (.inr (.inr (.inl q1)))
                    · exact .inr (.inr (.inr (.inr q1)))
                  · obtain ⟨k, hk, rfl⟩ := hmem b hb
                    obtain⟨l',hl'⟩:=hk1 k hk
                    exact⟨k,_,0,(hHW k).2 (.inr (.inl hk)),hl',rfl,hblk k hk⟩
                · intro k ob hk hm
                  have h0':=fun q=>hm ((hHW k).2 q)
                  have q3:k ∉ keysW w3:=fun h=>h0' (.inr (.inr (.inl h)))
                  have q5:k ∉ keysW w5:=fun h=>h0' (.inl h)
                  simp only[β',if_neg q3,if_neg q5]
                · intro b hb
                  rcases L.fresh b hb with h | h | ⟨n,h1,o',h2⟩
                  · exact .inl h
                  · exact .inr (.inl (Nat.le_trans R.grow h))
                  · obtain ⟨k, t, xs, p1, _, p3, _⟩ := hownk h1 h2
                    exact .inr (R.liveS p1 rfl p3).2
                · intro k ob b o' hk hm hl hb
                  exact hS'no k ob b o' hk (fun h=>hm ((hHW k).2 (.inr (.inr (.inr (.inr h)))))) hl hb
                · intro k ob hm hk E
                  rcases hgw k ob hk with h | ⟨_,h⟩ | h | ⟨h0,h⟩ | ⟨_,rfl⟩ | ⟨h0,h⟩
                  · obtain ⟨b, e1, _, _, rfl, _, e2, e3, e4, _, _, e6⟩ := hβ5 k ob h
                    refine⟨b,_,e1,e2,?_,e4,.inl (Nat.le_trans R.grow e3)⟩
                    have:∀ {rs:List PV} {us:List Value},noAgg rs=true→All2 (TRel1 w' S' β' (get (((w5++w4)++(w3++(w2++goneW ct.ps V)))++(frzW hp K++s.h)))) rs us→All2 (TRel0 w' S' β' (get (((w5++w4)++(w3++(w2++goneW ct.ps V)))++(frzW hp K++s.h)))) rs us:=by
                      intro rs
                      induction rs with
                      | nil => intro us _ h; cases us with
                        | nil=>trivial
                        | cons _ _=>exact h.elim
                      | cons z rs ih => intro us hn h; cases us with
                        | nil=>exact h.elim
                        | cons u us =>
                          obtain⟨n1,n2⟩:=noAgg_cons hn
                          exact⟨h.1.cell n1,ih n2 h.2⟩
                    simpa using this e6 hc5
                  · obtain ⟨p1, _⟩ := hw4 k ob h
                    obtain⟨a1',c,rfl,q1,q2⟩:=hc4 E k ob h
                    obtain⟨l2,hl2⟩:=hbox k p1
                    have hkm:blkOf β k∈qk.map (blkOf β)++st.map (blkOf β):=by rw[← List.map_append,← eks];exact List.mem_map.2 ⟨k,p1,rfl⟩
                    exact⟨blkOf β k,c,by rw[hβo k _ hl2];exact hblk k p1,q1,q2,L.nS _ hkm,(hbS1 k p1).2⟩
                  · obtain ⟨a1, a2, a3, e, xs, v, rfl, hO⟩ := hw3 k ob h
                    rw[Nat.zero_add] at hO
                    simp only[ORel,hβ3 k _ h]
                    simp only[OwnV] at hO
                    cases hρ:ρ (k-d*8) with
                    | none=>rw[hρ] at hO;exact hO.1
                    | some p =>
                      obtain⟨b,o'⟩:=p
                      rw[hρ] at hO
                      obtain⟨rfl,p1,x0,cap,c,_,p2,p3,p4,p5,p6⟩:=hO
                      have hmul:=Nat.mul_le_mul_right e.size p2
                      refine⟨⟨c,p4,by omega⟩,p6,by simp,fun _=>⟨p1,?_⟩,fun _=>rfl⟩
                      rcases L.rdom _ _ _ hρ with h | ⟨n,h1,o3,h2⟩
                      · exact .inl (Nat.le_trans R.grow h)
                      · obtain ⟨k2, t, xs2, q1, _, q3, _⟩ := hownk h1 h2
                        exact(R.liveS q1 rfl q3).2
                  · obtain ⟨t, xs, ys, m, off, p1, p2, p3, p4, rfl, p5, p6⟩ := hw2 k ob h
                    have hob:=R1.obs k _ p3
                    simp only[ORel,hβo k _ p1] at hob ⊢
                    cases hb:β k with
                    | none =>
                      rw[hb] at hob
                      simp only at hob
                      subst hob
                      have:ys=[]:=List.eq_nil_of_length_eq_zero (by have p5:off+ys.length≤0:=p5;omega)
                      subst this
                      simp [over]
                    | some p =>
                      obtain⟨b,o'⟩:=p
                      rw[hb] at hob
                      obtain⟨⟨c1,hc1,hsz⟩,hrow,_,hlv,ho0⟩:=hob
                      obtain⟨hnS,c0,c,q1,q2,q3,q4,q5⟩:=p6 b o' hb
                      have:=hc1.inj q1
                      subst this
                      exact⟨⟨c,q2,by rw[q3,over_length p5];exact hsz⟩,rowAt_over' E.sub E.keep q1 q2 hrow p5 q4 q5,fun e=>absurd e p2,fun _=>⟨hnS,(hlv p2).2⟩,ho0⟩
                  · trivial
                  · exact absurd hm h0
                · intro k ob hm hk
                  obtain⟨ob',h'⟩:=q13q hm
                  have h'':get (((w5++w4)++(w3++(w2++goneW ct.ps V)))++(frzW hp K++s.h)) k=some ob':=by rw[q2q,h'];rfl
                  refine⟨ob',h'',?_⟩
                  rcases hgw k ob' h'' with h | ⟨_,h⟩ | h | ⟨h0,h⟩ | ⟨_,rfl⟩ | ⟨h0,h⟩
                  · obtain ⟨b, _, _, _, _, _, _, _, _, _, e5, _⟩ := hβ5 k ob' h
                    rw[e5] at hk;cases hk
                  · obtain ⟨p1, l', rfl⟩ := hw4 k ob' h
                    obtain⟨l2,hl2⟩:=hk1 k p1
                    rw[hl2] at hk
                    injection hk with hk
                    subst hk
                    obtain⟨l3,hl3⟩:=hbox k p1
                    exact hβo k _ hl3
                  · have := hnew' k ob' h
                    rw[this] at hk;cases hk
                  · obtain ⟨t, xs, ys, m, off, p1, p2, p3, p4, rfl, p5, p6⟩ := hw2 k ob' h
                    rw[p3] at hk
                    injection hk with hk
                    subst hk
                    refine⟨rfl,over_length p5,hβo k _ p1,fun hmo=>⟨hmo,fun b o' c1 hb hc1=>?_⟩⟩
                    obtain⟨hnS,c0,c,q1,q2,q3,_⟩:=p6 b o' hb
                    have:=hc1.inj q1
                    subst this
                    exact⟨c,q2,q3⟩
                  · cases ob<;>trivial
                  · exact absurd hm h0
                · intro k k' ob ob' b o1' o2' hm hk hl hk' hl' hb hb'
                  rcases hold k ob hk hl with h | h | ⟨g1,g2,ob0,g3,g4⟩
                  · obtain ⟨bq, e1, e0, ek, _, _, _, _, _, e5, _⟩ := hβ5 k ob h
                    have hb0:=hb
                    rw[e1] at hb0
                    injection hb0 with hb0
                    injection hb0 with hb0 _
                    subst hb0
                    rcases hold k' ob' hk' hl' with h' | h' | ⟨g1',g2',ob0',g3',g4'⟩
                    · obtain ⟨_, _, _, ek', _⟩ := hβ5 k' ob' h'
                      rw[ek,ek']
                    · rw [hβ3 k' _ h'] at hb'
                      exact absurd hb' (e5 _ _)
                    · rw [g2'] at hb'
                      exact absurd hb' (hw5b k ob h _ o1' hb k' ob0' o2' g3' g4')
                  · rcases hold k' ob' hk' hl' with h' | h' | ⟨g1', g2', ob0', g3', g4'⟩
                    · obtain ⟨bq, e1, _, _, _, _, _, _, _, e5, _⟩ := hβ5 k' ob' h'
                      rw[e1] at hb'
                      injection hb' with hb'
                      injection hb' with hb' _
                      subst hb'
                      rw[hβ3 k _ h] at hb
                      exact absurd hb (e5 _ _)
                    · rw [hβ3 k _ h] at hb
                      rw[hβ3 k' _ h'] at hb'
                      have:=L.rinj _ _ _ _ _ hb hb'
                      have:=(hw3 k _ h).1
                      have:=(hw3 k' _ h').1
                      omega
                    · rw [g2'] at hb'
                      exact absurd hb' (hw3b k ob h b o1' hb k' ob0' o2' g3' g4' g1')
                  · rw [g2] at hb
                    rcases hold k' ob' hk' hl' with h' | h' | ⟨g1',g2',ob0',g3',g4'⟩
                    · exact absurd hb (hw5b k' ob' h' b o2' hb' k ob0 o1' g3 g4)
                    · exact absurd hb (hw3b k' ob' h' b o2' hb' k ob0 o1' g3 g4 g1)
                    · rw [g2'] at hb'
                      exact R1.inj k k' ob0 ob0' b o1' o2' g3 g4 g3' g4' hb hb'
                · rintro k b o' n hL (⟨n1, o1', hc⟩ | hbk) c hcb
                  · obtain ⟨k1', off1, o2', hg, hb, rfl⟩ := hcon hc
                    obtain⟨ob,q1,q2,q3⟩:=hlive (get_mem hg)
                    by_cases hlt:∃ t xs,ob=.rows t xs .lent
                    · obtain ⟨t, xs, rfl⟩ := hlt
                      have hk2:k1'∈keysW w2:=by
                        rcases callArgs_uses hca (get_mem hg) with ⟨_,_,_,t',xs',h⟩ | ⟨h1,_⟩
                        · have:=hs k1' _ h;rw[q1] at this;cases this
                        · exact o1 n1 k1' off1 hg h1
                      obtain⟨ob2,h2⟩:=q13q hk2
                      obtain⟨t',xs',ys,m,off,p1,p2,p3,p4,p4',p5,p6⟩:=hw2 k1' ob2 h2
                      rw[q1] at p1
                      injection p1 with p1
                      injection p1 with e1 e2 e3
                      subst e1
                      have e2:=eq_of_heq e2
                      subst e2
                      obtain⟨hnS,c0,c',r1,r2,r3,r4,_⟩:=p6 b o2' hb
                      have:=hcb.inj r1
                      subst this
                      obtain⟨b3,o3,hL3,hb3⟩:=(R.lentk k1' t xs q1).resolve_left (by rw[hb];simp)
                      rw[hb] at hb3
                      injection hb3 with hb3
                      injection hb3 with hb3 ho3
                      subst hb3;subst ho3
                      have:=R.ltinj k k1' _ _ _ _ _ hL hL3
                      subst this
                      rw[hL] at hL3
                      injection hL3 with hL3
                      injection hL3 with _ hL3
                      injection hL3 with e4 e5
                      subst e4;subst e5
                      have hmul:=Nat.mul_le_mul_right t.size p5
                      rw[Nat.add_mul] at hmul
                      exact⟨c',r2,r3,fun j hj=>r4 j (by rcases hj with hj | hj;left;omega;right;omega)⟩
                    · exact absurd hL (R.sep k1' ob b o2' q1 q2 (fun t xs h=>hlt ⟨t,xs,h⟩) hb k o' n)
                  · obtain ⟨k1', hk1', rfl⟩ := hmem b hbk
                    obtain⟨l',hl'⟩:=hbox k1' hk1'
                    exact absurd hL (R.sep k1' _ _ 0 hl' rfl (by simp) (hblk k1' hk1') k o' n)
                · intro k t xs hm hk
                  rcases hgw k _ hk with h | ⟨_,h⟩ | h | ⟨h0,h⟩ | ⟨_,h⟩ | ⟨h0,h⟩
                  · obtain ⟨_, _, _, _, h', _⟩ := hβ5 k _ h
                    cases h'
                  · obtain ⟨_, _, h'⟩ := hw4 k _ h
                    cases h'
                  · obtain ⟨_, _, _, e, xs', v, h', _⟩ := hw3 k _ h
                    cases h'
                  · obtain ⟨t', xs', ys, m, off, p1, p2, p3, p4, p4', p5, p6⟩ := hw2 k _ h
                    injection p4' with e1 e2 e3
                    subst e1
                    have e2:=eq_of_heq e2
                    subst e2;subst e3
                    exact⟨xs',p3,over_length p5,hβo k _ p1⟩
                  · cases h
                  · exact absurd hm h0
                · intro k ob b o' hm hk hl hnl hb k' o2' n hL
                  rcases hgw k ob hk with h | ⟨_,h⟩ | h | ⟨h0,h⟩ | ⟨_,rfl⟩ | ⟨h0,h⟩
                  · obtain ⟨bq, e1, _, _, _, _, _, e3, _⟩ := hβ5 k ob h
                    rw[e1] at hb
                    injection hb with hb
                    injection hb with hb _
                    subst hb
                    obtain⟨c0,c,hc0,_⟩:=R.lent k' _ o2' n hL
                    have:=hc0.lt
                    have:=R.grow
                    omega
                  · obtain ⟨p1, _⟩ := hw4 k ob h
                    obtain⟨l2,hl2⟩:=hbox k p1
                    rw[hβo k _ hl2] at hb
                    exact R.sep k _ b o' hl2 rfl (by simp) hb k' o2' n hL
                  · rw [hβ3 k ob h] at hb
                    rcases L.rdom _ _ _ hb with h | ⟨n1,h1,o3,h2⟩
                    · obtain ⟨c0, c, hc0, _⟩ := R.lent k' b o2' n hL
                      have:=hc0.lt
                      have:=R.grow
                      omega
                    · obtain ⟨k2, t, xs, q1, _, q3, _⟩ := hownk h1 h2
                      exact R.sep k2 _ b 0 q1 rfl (by simp) q3 k' o2' n hL
                  · obtain ⟨t, xs, ys, m, off, p1, p2, p3, p4, rfl, p5, p6⟩ := hw2 k ob h
                    rw[hβo k _ p1] at hb
                    refine R.sep k _ b o' p1 (by cases m<;>first | rfl | exact absurd rfl p2) (fun t' xs' e=>?_) hb k' o2' n hL
                    injection e with e1 e2 e3
                    subst e3
                    exact hnl t _ rfl
                  · cases hl
                  · exact absurd hm h0
                · intro k l' hm hk
                  rcases hgw k _ hk with h | ⟨_,h⟩ | h | ⟨h0,h⟩ | ⟨_,h⟩ | ⟨h0,h⟩
                  · obtain ⟨bq, e1, _, e, _, _, _, e3, _⟩ := hβ5 k _ h
                    refine⟨fun pq hpq=>(by rw[e,PB_dst hdo hd (j:=7) (by decide)] at hpq;cases hpq),fun _ b o hb=>?_⟩
                    rw[e1] at hb
                    injection hb with hb
                    injection hb with hb _
                    have:=R.grow
                    omega
                  · obtain ⟨p1, _⟩ := hw4 k _ h
                    obtain⟨l2,hl2⟩:=hbox k p1
                    obtain⟨m,cs,l0,g1,g2,g3,g4⟩:=pkB_stay hub hpk (fun v hv=>callRes_stays hcr v (List.mem_of_mem_drop hv)) k _ (get_mem h)
                    have hl0:=hs k _ g3
                    rw[hl2] at hl0
                    injection hl0 with hl0
                    injection hl0 with hl0
                    subst hl0
                    refine(R.boxk k _ hl2).turn (hβo k _ hl2) fun p i v hp hi hv=>?_
                    obtain⟨q1,q2⟩:=g4 i v hi hv
                    have hid:=L.hid m cs (blkOf β k) g1 (by rw[← List.map_append,← eks,List.getElem?_map,g2];rfl) i q2
                    have hbk:=hblk k p1
                    rw[hbk] at hp
                    injection hp with hp
                    injection hp with hp _
                    rw[← hp]
                    exact⟨⟨v,q1,hv⟩,hid⟩
                  · obtain ⟨_, _, _, e, xs', v, h', _⟩ := hw3 k _ h
                    cases h'
                  · obtain ⟨t', xs', ys, m, off, p1, p2, p3, p4, p4', p5, p6⟩ := hw2 k _ h
                    cases p4'
                  · cases h
                  · exact absurd hm h0
                · intro b hb
                  rcases L.fresh b hb with h | h | ⟨n,h1,o',h2⟩
                  · exact .inl h
                  · exact .inr (.inr h)
                  · obtain ⟨k2, t, xs, p1, p2, p3, _⟩ := hownk h1 h2
                    have q4:get (frzW hp K++s.h) k2=some (.rows t xs .own):=by
                      rw[hfz];exact p1
                      obtain⟨ku,hku,hke⟩:=List.mem_map.1 (k4 k2 p2)
                      obtain⟨n1,k1',off1⟩:=ku
                      simp only at hke
                      subst hke
                      exact(huse hku).1
                    exact .inr (.inl ⟨k2,_,_,q4,rfl,p3⟩)
                · intro k ob b o' hm hk hl hb
                  rcases hgw k ob hk with h | ⟨_,h⟩ | h | ⟨h0,h⟩ | ⟨_,rfl⟩ | ⟨h0,h⟩
                  · obtain ⟨bq, e1, _, _, _, _, _, e3, _⟩ := hβ5 k ob h
                    rw[e1] at hb
                    injection hb with hb
                    injection hb with hb _
                    subst hb
                    exact .inr e3
                  · obtain ⟨p1, _⟩ := hw4 k ob h
                    obtain⟨l2,hl2⟩:=hbox k p1
                    obtain⟨l1,hl1⟩:=hk1 k p1
                    rw[hβo k _ hl2] at hb
                    exact .inl ⟨k,_,o',hl1,rfl,hb⟩
                  · rw [hβ3 k ob h] at hb
                    rcases L.rdom _ _ _ hb with h | ⟨n,h1,o3,h2⟩
                    · exact .inr h
                    · obtain ⟨k2, t, xs, p1, p2, p3, _⟩ := hownk h1 h2
                      have q4:get (frzW hp K++s.h) k2=some (.rows t xs .own):=by
                        rw[hfz];exact p1
                        obtain⟨ku,hku,hke⟩:=List.mem_map.1 (k4 k2 p2)
                        obtain⟨n1,k1',off1⟩:=ku
                        simp only at hke
                        subst hke
                        exact(huse hku).1
                      exact .inl ⟨k2,_,_,q4,rfl,p3⟩
                  · obtain ⟨t, xs, ys, m, off, p1, p2, p3, p4, rfl, p5, p6⟩ := hw2 k ob h
                    rw[hβo k _ p1] at hb
                    exact .inl ⟨k,_,o',p3,by cases m<;>first | rfl | exact absurd rfl p2,hb⟩
                  · cases hl
                  · exact absurd hm h0
                · intro k t xs hm hk
                  rcases hgw k _ hk with h | ⟨_,h⟩ | h | ⟨h0,h⟩ | ⟨_,h⟩ | ⟨h0,h⟩
                  · obtain ⟨_, _, _, _, h', _⟩ := hβ5 k _ h
                    cases h'
                  · obtain ⟨_, _, h'⟩ := hw4 k _ h
                    cases h'
                  · exact .inl (callRes_flat hcr hflat.2 k t xs _ h)
                  · exact .inl (callOuts_flat hco hflat.1 k t xs _ h)
                  · cases h
                  · exact absurd hm h0
              have hext:∀ k,get (((w5++w4)++(w3++(w2++goneW ct.ps V)))++(frzW hp K++s.h)) k=get (ef.hw++s.h) k:=fun k=>by
                rw[hhw]
                simp only[q2q,k5 k]
                simp only[or_assoc']
              have R3:Rel T B w' S' β' ⟨s.e,ef.hw++s.h⟩ a:=R2.ext (fun _=>rfl) fun k=>(hext k).symm
              refine hnx _ w' S' β' (Rel.app R3 hdo fun pv' hpv'=>?_)
              rw[hpv] at hpv'
              injection hpv' with hpv'
              subst hpv'
              have eg:get (((w5++w4)++(w3++(w2++goneW ct.ps V)))++(frzW hp K++s.h))=get (ef.hw++s.h):=funext hext
              rw[eg] at hc1
              have hcl:All2 (TRel1 w' S' β' (get (ef.hw++s.h))) cells rcs:=by
                rcases hkind with ⟨e5,_,e1,rfl⟩ | ⟨n,e1,e5,rfl,_,_,_⟩
                · rw [e1] at hnb
                  obtain⟨_,rfl⟩:=hnb
                  exact hc1
                · have hg5 : get w5 (d * 8 + 7) = some (.box rst) := by rw [e5]; simp [q6q]
                  obtain⟨b,q1,_,_,_,q2,_⟩:=hβ5 _ _ hg5
                  have hp7:TRel1 w' S' β' (get (ef.hw++s.h)) (.ptr (d*8+7) 0 0) (.pointer (some ⟨b,0,none⟩)):=by
                    have e:get (ef.hw++s.h) (d*8+7)=some (.box rst):=by rw[hhw,q2q,q2q,hg5];rfl
                    show TRel0 w' S' β' (get (ef.hw++s.h)) (.ptr (d*8+7) 0 0) _
                    simp only[TRel0,e]
                    exact⟨b,0,q1,by simp⟩
                  rw[q2]
                  exact All2.append (hc1.take _) ⟨hp7,hc1.drop _⟩
              have hall:=grp_rel (R:=TRel1 w' S' β' (get (ef.hw++s.h))) (fun pv v h hn=>h.cell hn) (fun l vs h=>⟨vs,rfl,h⟩) (fun fid l vs h=>⟨vs,rfl,h⟩) hgrp hgr hcl
              rw[hvr]
              match pvs,rvs,hall with
              | [],[],_=>exact⟨[],rfl,trivial⟩
              | [p], [u], hall =>
                refine hall.1.up fun q e=>?_
                subst e
                exact hall.1.elim
              | p::p'::ps,u::u'::us,hall=>exact⟨u::u'::us,rfl,hall⟩
           · cases h
         · cases h
       · cases h
     · cases h
   · cases h
 · cases h
theorem call_sim {env:Env} (hE:EnvOk T P env) {o:Oper} {s:St} {hp:Hp} (hs:Sub hp s) {f:FuncId} {ct:Ctr} (hf:env f=some ct) {args:List PV} {d:Nat} (hd:o.dst=some d)
  (hn:∀ k,d*8≤k→k<d*8+8→hp k=none→get s.h k=none) {ef:Eff}
  (hrun:∀ (B:Base) (w:World) (S:Foot) (β:Con) (a:Act),Rel T B w S β s a→∃ us:List Value,(execOp a.eval o).run P w=(callFunc f us.toArray).run P w∧All2 (TRel w S β (get s.h)) args us)
  (h:effCall hp o.dst ct args some=some ef):OpSim T P o s ef:=by
 unfold effCall at h
 cases hwi:ct.wi with
 | none=>rw[hwi] at h;exact call_sim0 hE hs hf hwi hd hn hrun h
 | some wi=>rw[hwi,hd] at h;exact callB_sim hE hs hf hwi hd hn hrun h
variable {T:Told} {P:Program} {tb:Tb} {env:Env}
section
variable {R:Type}
theorem bind_of {α β:Type} {x:Option α} {K:α→Option β} {out:β} (h:x.bind K=some out):∃ ef,K ef=some out∧x=some ef:=by
 cases x with
 | none=>cases h
 | some ef=>exact⟨ef,h,rfl⟩
theorem cond_bind {α β:Type} (c:Bool) (x y:Option α) (K:α→Option β):(cond c x y).bind K=cond c (x.bind K) (y.bind K):=by cases c<;>rfl
theorem obind_bind {α β γ:Type} (x:Option α) (f:α→Option β) (K:β→Option γ):(x.bind f).bind K=x.bind fun a=>(f a).bind K:=by cases x<;>rfl
theorem effStore_bind (h:Hp) (T':TypeId) (a v:PV) (K:Eff→Option R):effStore tb h T' a v K=(effStore tb h T' a v some).bind K:=by
 unfold effStore
 cases a with
 | ptr k i off =>
  simp only
  cases h k with
  | none=>rfl
  | some ob =>
   cases ob with
   | gone=>rfl
   | box l =>
    simp only
    cases tb.ty T' with
    | none=>cases Nat.beq i 0<;>rfl
    | some t=>simp only[cond_bind];rfl
   | rows t xs m =>
    have:∀ m:Md,(match tb.ty T' with
      | some t' =>
       (match decA h t' v.cells with
       | some y =>
        bif t.flat then (bif memN k (keysOf v.cells) || !noAgg v.cells then none else
        (xs[i]?).bind fun x =>
         (match t'.setAt y t x off with
         | some z=>K ⟨none,(k,.rows t (xs.set i z) m)::frzW h (keysOf v.cells)⟩
         | none=>none)) else none
       | none=>none)
      | none=>none)=(match tb.ty T' with
      | some t' =>
       (match decA h t' v.cells with
       | some y =>
        bif t.flat then (bif memN k (keysOf v.cells) || !noAgg v.cells then none else
        (xs[i]?).bind fun x =>
         (match t'.setAt y t x off with
         | some z=>some ⟨none,(k,.rows t (xs.set i z) m)::frzW h (keysOf v.cells)⟩
         | none=>none)) else none
       | none=>none)
      | none=>none:Option Eff).bind K:=by
     intro m
     cases tb.ty T' with
     | none=>rfl
     | some t' =>
      simp only
      cases decA h t' v.cells with
      | none=>rfl
      | some y =>
       simp only[cond_bind,obind_bind]
       congr 3
       funext x
       cases t'.setAt y t x off<;>rfl
    cases m with
    | frz=>rfl
    | own=>exact this .own
    | lent=>exact this .lent
 | _=>rfl
theorem mkRow_bind (h:Hp) (d:Tmp) (e:Ty) (xs:List e.den) (w:List (Nat×Ob)) (K:Eff→Option R):mkRow h d e xs w K=(mkRow h d e xs w some).bind K:=by
 unfold mkRow;cases h (d*8)<;>rfl
theorem effJoin_bind (h:Hp) (d:Tmp) (e:Ty) (k:Nat) (rows:List e.den) (b:PV) (K:Eff→Option R):effJoin h d e k rows b K=(effJoin h d e k rows b some).bind K:=by
 unfold effJoin
 split
 · split
   · rw[mkRow_bind]
   · rfl
 · rfl
theorem effAppend_bind (h:Hp) (dst:Option Tmp) (T':TypeId) (a b:PV) (K:Eff→Option R):effAppend tb h dst T' a b K=(effAppend tb h dst T' a b some).bind K:=by
 unfold effAppend
 split
 · split
   · split
     · simp only[cond_bind];rw[mkRow_bind];rfl
     · split
       · split
         · simp only[cond_bind];rw[mkRow_bind,effJoin_bind];rfl
         · rfl
       · rfl
     · rfl
   · rfl
 · rfl
theorem effCopy_bind (h:Hp) (e:Ty) (a b:PV) (K:Eff→Option R):effCopy h e a b K=(effCopy h e a b some).bind K:=by
 unfold effCopy
 split
 · split
   · rfl
   · split
     · split
       · simp only[cond_bind];rfl
       · rfl
     · rfl
   · rfl
 · rfl
theorem effCall0_bind (h:Hp) (dst:Option Tmp) (c:Ctr) (args:List PV) (K:Eff→Option R):effCall0 h dst c args K=(effCall0 h dst c args some).bind K:=by
 unfold effCall0
 split
 · split
   · rename_i x w1 _
     cases c.F x with
     | none=>rfl
     | some r =>
      simp only[Option.bind_some]
      split
      · split
        · rfl
        · simp only[cond_bind];rfl
        · rfl
      · rfl
   · rfl
 · rfl
theorem effCallB_bind (h:Hp) (d:Nat) (c:Ctr) (wi:Wir) (args:List PV) (K:Eff→Option R):effCallB h d c wi args K=(effCallB h d c wi args some).bind K:=by
 unfold effCallB
 split
 · split
   · rw [cond_bind]
     congr 1
     split
     · rename_i x w1 _
       cases c.F x with
       | none=>rfl
       | some r =>
        simp only[Option.bind_some]
        split
        · split
          · rw [cond_bind]
            congr 1
            split
            · split
              · split<;>rfl
              · split
                · rw [cond_bind]
                  congr 1
                  split<;>rfl
                · rfl
              · rfl
            · rfl
          · rfl
        · rfl
     · rfl
   · rfl
 · rfl
theorem effCall_bind (h:Hp) (dst:Option Tmp) (c:Ctr) (args:List PV) (K:Eff→Option R):effCall h dst c args K=(effCall h dst c args some).bind K:=by
 unfold effCall
 cases c.wi with
 | none=>exact effCall0_bind h dst c args K
 | some wi =>
  cases dst with
  | none=>rfl
  | some d=>exact effCallB_bind h d c wi args K
end
variable {T:Told} {P:Program} {tb:Tb} {env:Env}
section
variable {R:Type}
theorem TRel1.up' {w:World} {S:Foot} {β:Con} {g:Hp} {pv:PV} {v:Value} (h:TRel1 w S β g pv v):TRel w S β g pv v:=by
 cases pv<;>first | exact h | exact h.elim
theorem brel_of {B:Base} {w:World} {S:Foot} {β:Con} {s:St} {a:Act} (Rl:Rel T B w S β s a) (x:Option Operand):BRel w S β (get s.h) (x.map s.pv) (x.map a.eval):=by
 cases x with
 | none=>trivial
 | some x=>exact q14q Rl x
theorem placed_rel {B:Base} {w:World} {S:Foot} {β:Con} {s:St} {a:Act} (Rl:Rel T B w S β s a) (ps:Array (Nat×Operand)) :
  PartsRel w S β (get s.h) (ps.toList.map fun p=>(p.1,s.pv p.2)) (ps.toList.map fun p=>(p.1,a.eval p.2)):=by
 induction ps.toList with
 | nil=>trivial
 | cons p l ih=>exact⟨⟨rfl,q14q Rl p.2⟩,ih⟩
theorem placed_eq (ps:Array (Nat×Operand)) (s:St):placed ps ((ps.toList.map (·.2)).map s.pv)=ps.toList.map fun p=>(p.1,s.pv p.2):=by
 unfold placed
 induction ps.toList with
 | nil=>rfl
 | cons p l ih=>simp only[List.map_cons,List.zipWith_cons_cons,ih]
theorem op_sim (hT:TbOk P tb) (hE:EnvOk T P env) {o:Oper} {l:List PV} {hp:Hp} {K:Eff→Option R} {out:R} (h:effC tb env o.op o.dst l hp K=some out) :
  ∃ ef,K ef=some out∧∀ s:St,(opsOf o.op).map s.pv=l→Sub hp s→(∀ d,o.dst=some d→∀ j,j<8→hp (d*8+j)=none→get s.h (d*8+j)=none)→OpSim T P o s ef:=by
 have hk0:∀ {s:St} {d:Nat},(∀ d,o.dst=some d→∀ j,j<8→hp (d*8+j)=none→get s.h (d*8+j)=none)→o.dst=some d→hp (d*8)=none→get s.h (d*8)=none:=fun h1 h2 h3=>h1 _ h2 0 (by omega) h3
 cases hop:o.op<;>rw[hop] at h
 case move x =>
  match l,h with
  | [v], h =>
    refine⟨_,h,fun s hl hs hn=>OpSim.pure fun B w S β a R=>⟨a.eval x,by simp [execOp,hop],?_⟩⟩
    simp only[hop,opsOf,List.map_cons,List.map_nil,List.cons.injEq,and_true] at hl
    subst hl
    exact q14q R x
 case assign x =>
  match l,h with
  | [v], h =>
    refine⟨_,h,fun s hl hs hn=>OpSim.pure fun B w S β a R=>⟨a.eval x,by simp [execOp,hop],?_⟩⟩
    simp only[hop,opsOf,List.map_cons,List.map_nil,List.cons.injEq,and_true] at hl
    subst hl
    exact q14q R x
 case pick c x y =>
  match l,h with
  | [c', v, u], h =>
    simp only[effC] at h
    split at h
    case h_2=>cases h
    rename_i b
    refine⟨⟨some (cond b v u),[]⟩,by cases b<;>exact h,fun s hl hs hn=>OpSim.pure fun B w S β a R=>?_⟩
    simp only[hop,opsOf,List.map_cons,List.map_nil,List.cons.injEq,and_true] at hl
    obtain⟨h1,rfl,rfl⟩:=hl
    have hc:=q14q R c
    rw[h1] at hc
    have hc:=hc.bool
    cases b with
    | true=>exact⟨a.eval x,by simp [execOp,hop,hc,asBool],q14q R x⟩
    | false=>exact⟨a.eval y,by simp [execOp,hop,hc,asBool],q14q R y⟩
 case binOp op t x y c =>
  match l,h with
  | [u, v], h =>
    simp only[effC] at h
    unfold effBinP at h
    split at h
    · rename_i k i off
      split at h
      · rename_i e _ hg
        have hu:P.underlying t=some (.pointer e):=(hT t _ hg).2
        obtain⟨hth,h⟩:=q8q h
        obtain⟨ob,q1,q2⟩:=there_ok hth
        have hval:∀ {s:St} {w:World} {S:Foot} {β:Con} {v:Value},Sub hp s→TRel w S β (get s.h) (.ptr k i off) v→∃ ad,v=.pointer (some ad):=fun {s} {w} {S} {β} {v} hs hv=>by
          have hv:TRel0 w S β (get s.h) (.ptr k i off) v:=hv
          have hk:=hs k ob q1
          simp only[TRel0,hk] at hv
          cases ob with
          | gone=>exact absurd rfl q2
          | rows t xs m=>obtain⟨b,o',hb,he⟩:=hv;exact⟨_,he⟩
          | box l=>obtain⟨b,o',hb,he⟩:=hv;exact⟨_,he⟩
        split at h
        · refine ⟨_, h, fun s hl hs hn => OpSim.pure fun B w S β a R => ?_⟩
          simp only[hop,opsOf,List.map_cons,List.map_nil,List.cons.injEq,and_true] at hl
          obtain⟨l1,l2⟩:=hl
          have hx:=q14q R x
          have hy:=q14q R y
          rw[l1] at hx;rw[l2] at hy
          obtain⟨ad,hx⟩:=hval hs hx
          have hy:a.eval y=.pointer none:=hy
          exact⟨_,by simp only[execOp,hop];rw[hx,hy];simp [Sem.run_bind,eqGuard,binOp,run_equal_ptr_nil hu],rfl⟩
        · refine ⟨_, h, fun s hl hs hn => OpSim.pure fun B w S β a R => ?_⟩
          simp only[hop,opsOf,List.map_cons,List.map_nil,List.cons.injEq,and_true] at hl
          obtain⟨l1,l2⟩:=hl
          have hx:=q14q R x
          have hy:=q14q R y
          rw[l1] at hx;rw[l2] at hy
          obtain⟨ad,hx⟩:=hval hs hx
          have hy:a.eval y=.pointer none:=hy
          exact⟨_,by simp only[execOp,hop];rw[hx,hy];simp [Sem.run_bind,eqGuard,binOp,run_equal_ptr_nil hu],rfl⟩
        · cases h
      · cases h
    · split at h
      · rename_i e _ hg
        have hu:P.underlying t=some (.pointer e):=(hT t _ hg).2
        split at h
        · refine ⟨_, h, fun s hl hs hn => OpSim.pure fun B w S β a R => ?_⟩
          simp only[hop,opsOf,List.map_cons,List.map_nil,List.cons.injEq,and_true] at hl
          obtain⟨l1,l2⟩:=hl
          have hx:=q14q R x
          have hy:=q14q R y
          rw[l1] at hx;rw[l2] at hy
          have hx:a.eval x=.pointer none:=hx
          have hy:a.eval y=.pointer none:=hy
          exact⟨_,by simp only[execOp,hop];rw[hx,hy];simp [Sem.run_bind,eqGuard,binOp,run_equal_nil_nil hu],rfl⟩
        · refine ⟨_, h, fun s hl hs hn => OpSim.pure fun B w S β a R => ?_⟩
          simp only[hop,opsOf,List.map_cons,List.map_nil,List.cons.injEq,and_true] at hl
          obtain⟨l1,l2⟩:=hl
          have hx:=q14q R x
          have hy:=q14q R y
          rw[l1] at hx;rw[l2] at hy
          have hx:a.eval x=.pointer none:=hx
          have hy:a.eval y=.pointer none:=hy
          exact⟨_,by simp only[execOp,hop];rw[hx,hy];simp [Sem.run_bind,eqGuard,binOp,run_equal_nil_nil hu],rfl⟩
        · cases h
      · cases h
    · obtain ⟨pv, h1, h2⟩ := effBin_sim hT h
      refine⟨_,h1,fun s hl hs hn=>OpSim.pure fun B w S β a R=>?_⟩
      simp only[hop,opsOf,List.map_cons,List.map_nil,List.cons.injEq,and_true] at hl
      obtain⟨rfl,rfl⟩:=hl
      obtain⟨z,z1,z2⟩:=h2 w S β (get s.h) x y _ _ (q14q R x) (q14q R y)
      exact⟨z,by simp only[execOp,hop];rw[Sem.run_bind,z1];rfl,z2⟩
 case unOp op t x =>
  match l,h with
  | [u], h =>
    simp only[effC] at h
    obtain⟨pv,h1,h2⟩:=effUn_sim h
    refine⟨_,h1,fun s hl hs hn=>OpSim.pure fun B w S β a R=>?_⟩
    simp only[hop,opsOf,List.map_cons,List.map_nil,List.cons.injEq,and_true] at hl
    subst hl
    obtain⟨z,z1,z2⟩:=h2 w S β (get s.h) _ (q14q R x)
    exact⟨z,by simp only[execOp,hop];rw[Sem.run_bind,z1];rfl,z2⟩
 case convert src dst x =>
  match l,h with
  | [u], h =>
    simp only[effC] at h
    obtain⟨pv,h1,h2⟩:=effConvert_sim hT h
    refine⟨_,h1,fun s hl hs hn=>OpSim.pure fun B w S β a R=>?_⟩
    simp only[hop,opsOf,List.map_cons,List.map_nil,List.cons.injEq,and_true] at hl
    subst hl
    obtain⟨z,z1,z2⟩:=h2 w S β (get s.h) _ (q14q R x)
    exact⟨z,by simp only[execOp,hop];rw[Sem.run_bind,z1];rfl,z2⟩
 case fieldAddr t x f =>
  match l,h with
  | [u], h =>
    simp only[effC] at h
    obtain⟨pv,h1,h2⟩:=effFieldAddr_sim hT h
    refine⟨_,h1,fun s hl hs hn=>OpSim.pure fun B w S β a R=>?_⟩
    simp only[hop,opsOf,List.map_cons,List.map_nil,List.cons.injEq,and_true] at hl
    subst hl
    obtain⟨z,z1,z2⟩:=h2 w S β (get s.h) _ hs (q14q R x)
    exact⟨z,by simp only[execOp,hop];rw[Sem.run_bind,z1];rfl,z2⟩
 case field t x f =>
  match l,h with
  | [u], h =>
    simp only[effC] at h
    obtain⟨pv,h1,h2⟩:=effField_sim hT h
    refine⟨_,h1,fun s hl hs hn=>OpSim.pure fun B w S β a R=>?_⟩
    simp only[hop,opsOf,List.map_cons,List.map_nil,List.cons.injEq,and_true] at hl
    subst hl
    obtain⟨z,z1,z2⟩:=h2 w S β (get s.h) _ (q14q R x)
    exact⟨z,by simp only[execOp,hop];rw[Sem.run_bind,z1];rfl,z2⟩
 case indexAddr t x y =>
  match l,h with
  | [u, v], h =>
    simp only[effC] at h
    split at h
    · rename_i et e bb hg
      obtain⟨pv,h1,h2⟩:=effIndexAddr_sim hT hg h
      refine⟨_,h1,fun s hl hs hn=>OpSim.pure fun B w S β a R=>?_⟩
      simp only[hop,opsOf,List.map_cons,List.map_nil,List.cons.injEq,and_true] at hl
      obtain⟨rfl,rfl⟩:=hl
      obtain⟨z,z1,z2⟩:=h2 _ _ R hs (q14q R x) (q14q R y)
      exact⟨z,by simp only[execOp,hop];rw[Sem.run_bind,z1];rfl,z2⟩
    · cases h
 case index t x y =>
  match l,h with
  | [u, v], h =>
    simp only[effC] at h
    obtain⟨pv,h1,h2⟩:=effIndex_sim hT h
    refine⟨_,h1,fun s hl hs hn=>OpSim.pure fun B w S β a R=>?_⟩
    simp only[hop,opsOf,List.map_cons,List.map_nil,List.cons.injEq,and_true] at hl
    obtain⟨rfl,rfl⟩:=hl
    obtain⟨z,z1,z2⟩:=h2 w S β (get s.h) _ _ (q14q R x) (q14q R y)
    exact⟨z,by simp only[execOp,hop];rw[Sem.run_bind,z1];rfl,z2⟩
 case load t x =>
  match l,h with
  | [u], h =>
    have h:effLoadX tb hp o.dst t u K=some out:=h
    have plain:effLoad tb hp t u (fun v=>K ⟨some v,[]⟩)=some out→∃ ef,K ef=some out∧∀ s:St,(opsOf (Op.load t x)).map s.pv=[u]→Sub hp s→(∀ d,o.dst=some d→∀ j,j<8→hp (d*8+j)=none→get s.h (d*8+j)=none)→OpSim T P o s ef:=by
      intro h
      obtain⟨pv,h1,h2⟩:=effLoad_sim hT h
      refine⟨_,h1,fun s hl hs hn=>OpSim.pure fun B w S β a R=>?_⟩
      simp only[opsOf,List.map_cons,List.map_nil,List.cons.injEq,and_true] at hl
      subst hl
      obtain⟨z,z1,z2⟩:=h2 _ R hs (q14q R x)
      exact⟨z,by simp only[execOp,hop];rw[Sem.run_bind,z1];rfl,z2⟩
    unfold effLoadX at h
    split at h
    · rename_i k i
      split at h
      · rename_i t0 xs hk
        cases hfl:t0.flat with
        | true=>rw[hfl,cond_true] at h;exact plain h
        | false =>
          rw[hfl,cond_false] at h
          split at h
          · rename_i t' d hty hd
            split at h
            · rename_i e
              subst e
              rw[effOpen_bind] at h
              obtain⟨ef,h1,h2⟩:=bind_of h
              refine⟨ef,h1,fun s hl hs hn=>?_⟩
              simp only[opsOf,List.map_cons,List.map_nil,List.cons.injEq,and_true] at hl
              exact openLoad_sim hT hs hop hd hty hl hk hfl (fun j hj=>hn d hd j hj) h2
            · exact plain h
          · cases h
      · exact plain h
    · exact plain h
 case makeFunc fn first cap =>
  simp only[effC] at h
  split at h
  · rename_i f
    obtain⟨hc,h2⟩:=q8q h
    simp only[Bool.and_eq_true] at hc
    have h0:first=#[]:=Array.eq_empty_of_size_eq_zero (Nat.eq_of_beq_eq_true hc.1)
    subst h0
    refine⟨_,h2,fun s hl hs hn=>OpSim.pure fun B w S β a R=>?_⟩
    simp only[hop,opsOf,List.nil_append] at hl
    refine⟨.func (.func f) #[] (cap.map a.eval),by simp [execOp,hop];try rfl,cap.toList.map a.eval,congrArg _ (by rw[← Array.toList_map]),?_⟩
    have key:∀ (q:List Operand) (l:List PV),q.map s.pv=l→noAgg l=true→All2 (TRel0 w S β (get s.h)) l (q.map a.eval):=by
      intro q
      induction q with
      | nil=>intro l e _;subst e;trivial
      | cons x q ih =>
        intro l e hna
        subst e
        have hx:=q14q R x
        simp only[List.map_cons] at hna ⊢
        cases hp:s.pv x<;>rw[hp] at hna hx<;>first
          | (simp [noAgg] at hna;done)
          | exact⟨hx,ih _ rfl (by simpa [noAgg] using hna)⟩
    exact key _ _ hl hc.2
  · cases h
 case nilCheck x =>
  match l,h with
  | [u], h =>
    simp only[effC] at h
    split at h
    · rename_i k i off
      obtain⟨hth,h⟩:=q8q h
      refine⟨_,h,fun s hl hs hn=>OpSim.pure fun B w S β a R=>?_⟩
      simp only[hop,opsOf,List.map_cons,List.map_nil,List.cons.injEq,and_true] at hl
      have hx:=q14q R x
      rw[hl] at hx
      obtain⟨ob,q1,q2⟩:=there_ok hth
      have hx0:TRel0 w S β (get s.h) (.ptr k i off) (a.eval x):=hx
      have hk:=hs k ob q1
      simp only[TRel0,hk] at hx0
      cases ob with
      | gone=>exact absurd rfl q2
      | rows t xs m=>obtain⟨b,o',hb,he⟩:=hx0;exact⟨a.eval x,by simp [execOp,hop,he],hx⟩
      | box l=>obtain⟨b,o',hb,he⟩:=hx0;exact⟨a.eval x,by simp [execOp,hop,he],hx⟩
    · rename_i t y off
      refine⟨_,h,fun s hl hs hn=>OpSim.pure fun B w S β a R=>?_⟩
      simp only[hop,opsOf,List.map_cons,List.map_nil,List.cons.injEq,and_true] at hl
      have hx:=q14q R x
      rw[hl] at hx
      have hx0:=hx
      obtain⟨b,o',ds,he,_⟩:=hx0
      exact⟨a.eval x,by simp [execOp,hop,he],hx⟩
    · cases h
 case extract x i =>
  match l,h with
  | [u], h =>
    simp only[effC] at h
    split at h
    · rename_i l0
      split at h
      · rename_i v hv
        refine⟨_,h,fun s hl hs hn=>OpSim.pure fun B w S β a R=>?_⟩
        simp only[hop,opsOf,List.map_cons,List.map_nil,List.cons.injEq,and_true] at hl
        have hx:=q14q R x
        rw[hl] at hx
        obtain⟨vs,he,ha⟩:=hx
        obtain⟨z,z1,z2⟩:=ha.get hv
        exact⟨z,by simp [execOp,hop,he,Instr.extract,z1],z2.up'⟩
      · cases h
    · cases h
 case build t ps =>
  have h:effBuild tb t (placed ps l) (fun v=>K ⟨some v,[]⟩)=some out:=h
  obtain⟨pv,h1,h2⟩:=effBuild_sim hT h
  refine⟨_,h1,fun s hl hs hn=>OpSim.pure fun B w S β a R=>?_⟩
  simp only[hop,opsOf] at hl
  subst hl
  rw[placed_eq] at h2
  obtain⟨z,z1,z2⟩:=h2 w S β (get s.h) _ (placed_rel R ps)
  refine⟨z,?_,z2⟩
  have e:(ps.map fun(i,x)=>(i,a.eval x))=(ps.toList.map fun p=>(p.1,a.eval p.2)).toArray:=by
    apply Array.toList_inj.1;simp
  simp only[execOp,hop,e]
  rw[Sem.run_bind,z1];rfl
 case buildSlice t n ps =>
  replace h:effBuildSlice tb hp o.dst t n (placed ps l) K=some out:=h
  unfold effBuildSlice at h
  split at h
  · rename_i et e bb d hg hd
    cases hfl:e.flat with
    | true =>
      rw[hfl,cond_true] at h
      split at h
      · rename_i xs hx
        obtain⟨h0,h⟩:=q8q h
        simp only[Bool.and_eq_true] at h0
        unfold mkRow at h
        split at h
        · rename_i hnone
          refine⟨_,h,fun s hl hs hn=>?_⟩
          simp only[hop,opsOf] at hl
          subst hl
          rw[placed_eq] at hx ⊢
          exact buildSlice_sim hT hs hop hd hg rfl hx (Nat.le_of_ble_eq_true h0.1) hfl (hk0 hn hd hnone) hnone rfl
        · cases h
      · cases h
    | false =>
      rw[hfl,cond_false] at h
      generalize hpl:placed ps l=pl at h
      split at h
      · rename_i v
        split at h
        · rename_i x ks hx
          obtain⟨h0,h⟩:=q8q h
          simp only[Bool.and_eq_true] at h0
          unfold mkRow at h
          split at h
          · rename_i hnone
            refine⟨_,h,fun s hl hs hn=>?_⟩
            simp only[hop,opsOf] at hl
            subst hl
            rw[placed_eq] at hpl
            exact closeSlice_sim hT hs hop hd hg hpl.symm hx h0.1.2 h0.2 (Nat.le_of_ble_eq_true h0.1.1.1) (hk0 hn hd hnone) rfl
          · cases h
        · cases h
      · cases h
  · cases h
 case box t x =>
  match l,h with
  | [u], h =>
    simp only[effC] at h
    split at h
    · rename_i d t' hd ht
      obtain⟨h0,h⟩:=q8q h
      simp only[Bool.and_eq_true] at h0
      unfold mkBox at h
      split at h
      · rename_i hnone
        refine⟨_,h,fun s hl hs hn=>?_⟩
        simp only[hop,opsOf,List.map_cons,List.map_nil,List.cons.injEq,and_true] at hl
        subst hl
        exact box_sim (hp:=hp) hT hop hd ht h0.2 (hk0 hn hd hnone) rfl
      · cases h
    · cases h
 case alloc t =>
  match l,h with
  | [], h =>
    simp only[effC] at h
    split at h
    · rename_i d t' hd ht
      unfold mkBox at h
      split at h
      · rename_i hnone
        exact⟨_,h,fun s hl hs hn=>alloc_sim hT hop hd ht (hk0 hn hd hnone) rfl⟩
      · cases h
    · cases h
 case store t x y =>
  match l,h with
  | [u, v], h =>
    simp only[effC] at h
    split at h
    · rename_i hd
      rw[effStore_bind] at h
      obtain⟨ef,h1,h2⟩:=bind_of h
      refine⟨ef,h1,fun s hl hs hn=>?_⟩
      simp only[hop,opsOf,List.map_cons,List.map_nil,List.cons.injEq,and_true] at hl
      obtain⟨rfl,rfl⟩:=hl
      exact store_sim hT hs hop hd h2
    · cases h
 case makeSlice t x y =>
  match l,h with
  | [u, v], h =>
    simp only[effC] at h
    unfold effMake at h
    split at h
    · rename_i et e bb d n c hg hd
      obtain⟨hfl,h⟩:=q8q h
      obtain⟨h0,h⟩:=q8q h
      simp only[Bool.and_eq_true,decide_eq_true_eq] at h0
      unfold mkRow at h
      split at h
      · rename_i hnone
        refine⟨_,h,fun s hl hs hn=>?_⟩
        simp only[hop,opsOf,List.map_cons,List.map_nil,List.cons.injEq,and_true] at hl
        exact make_sim hT hop hd hg hl.1 hl.2 h0.1.1.1 h0.1.1.2 h0.1.2 h0.2 hfl (hk0 hn hd hnone) rfl
      · cases h
    · cases h
 case slice t x lo hi m =>
  match l,h with
  | u :: vs, h =>
    simp only[effC] at h
    split at h
    · rename_i et e bb hg
      obtain⟨pv,h1,h2⟩:=effSlice_sim hT hg h
      refine⟨_,h1,fun s hl hs hn=>OpSim.pure fun B w S β a R=>?_⟩
      simp only[hop,opsOf,List.map_cons,List.cons.injEq] at hl
      obtain⟨rfl,hl⟩:=hl
      have hb:bound3 lo hi m vs=(lo.map s.pv,hi.map s.pv,m.map s.pv)∨(bound3 lo hi m vs).1=some .junk:=by
        rw[← hl]
        cases lo<;>cases hi<;>cases m<;>first | exact .inl rfl | exact .inr rfl
      rcases hb with hb | hb
      · rw [hb] at h2
        obtain⟨z,z1,z2⟩:=h2 _ _ _ _ R hs (q14q R x) (brel_of R lo) (brel_of R hi) (brel_of R m)
        exact⟨z,by simp only[execOp,hop];rw[Sem.run_bind,z1];rfl,z2⟩
      · exfalso
        rw[hb] at h
        unfold effSlice at h
        simp only[bnd] at h
        cases h
    · cases h
 case call c =>
  simp only[effC] at h
  split at h
  ·
    rename_i hcal
    split at h
    · rename_i x'
      split at h
      · rename_i T' htys
        split at h
        · rename_i et e bb n hg hlen
          refine⟨_,h,fun s hl hs hn=>OpSim.pure fun B w S β a R=>?_⟩
          simp only[hop,opsOf,hcal] at hl
          have hargs:∃ x,c.args.toList=[x]∧s.pv x=x':=by
            match hca:c.args.toList,hl with
            | [x],hl=>simp only[hca,List.map_cons,List.map_nil,List.cons.injEq,and_true] at hl;exact⟨x,rfl,hl⟩
            | [],hl=>simp [hca] at hl
            | _::_::_,hl=>simp [hca] at hl
          obtain⟨x,hx,rfl⟩:=hargs
          have e1:c.args=#[x]:=by apply Array.toList_inj.1;simpa using hx
          have e2:c.argTypes=#[T']:=by apply Array.toList_inj.1;simpa using htys
          have:=lenOf_sim R hT hs hg hlen (q14q R x) o.type
          refine⟨_,?_,trel_int⟩
          simp [execOp,hop,resolve,hcal,e1,e2,invoke,builtin,this]
        · cases h
      · cases h
    · cases h
  ·
    rename_i hcal
    split at h
    · rename_i x' y' T1 T2 htys
      obtain⟨h0,h3⟩:=q8q h
      have h0:=Nat.eq_of_beq_eq_true h0
      clear h
      subst h0
      rw[effAppend_bind] at h3
      obtain⟨ef,h1,h2⟩:=bind_of h3
      refine⟨ef,h1,fun s hl hs hn=>?_⟩
      simp only[hop,opsOf,hcal] at hl
      have hargs:∃ x y,c.args.toList=[x,y]∧s.pv x=x'∧s.pv y=y':=by
        match hca:c.args.toList,hl with
        | [x,y],hl=>simp only[hca,List.map_cons,List.map_nil,List.cons.injEq,and_true] at hl;exact⟨x,y,rfl,hl⟩
        | [],hl=>simp [hca] at hl
        | [_],hl=>simp [hca] at hl
        | _::_::_::_,hl=>simp [hca] at hl
      obtain⟨x,y,hx,rfl,rfl⟩:=hargs
      have e1:c.args=#[x,y]:=by apply Array.toList_inj.1;simpa using hx
      have e2:c.argTypes=#[T1,T1]:=by apply Array.toList_inj.1;simpa using htys
      cases hd:o.dst with
      | none=>rw[hd] at h2;unfold effAppend at h2;split at h2<;>first | cases h2 | (rename_i q;cases q)
      | some d =>
        rw[hd] at h2
        exact append_simX hT hs (fun hq=>hk0 hn hd hq) hop hd hcal e1 e2 h2
    · cases h
  ·
    rename_i hcal
    split at h
    · rename_i x' y' T1 T2 htys
      obtain⟨h0,h3⟩:=q8q h
      have h0:=Nat.eq_of_beq_eq_true h0
      clear h
      subst h0
      split at h3
      · rename_i et e bb hg
        rw[effCopy_bind] at h3
        obtain⟨ef,h1,h2⟩:=bind_of h3
        refine⟨ef,h1,fun s hl hs hn=>?_⟩
        simp only[hop,opsOf,hcal] at hl
        have hargs:∃ x y,c.args.toList=[x,y]∧s.pv x=x'∧s.pv y=y':=by
          match hca:c.args.toList,hl with
          | [x,y],hl=>simp only[hca,List.map_cons,List.map_nil,List.cons.injEq,and_true] at hl;exact⟨x,y,rfl,hl⟩
          | [],hl=>simp [hca] at hl
          | [_],hl=>simp [hca] at hl
          | _::_::_::_,hl=>simp [hca] at hl
        obtain⟨x,y,hx,rfl,rfl⟩:=hargs
        have e1:c.args=#[x,y]:=by apply Array.toList_inj.1;simpa using hx
        have e2:c.argTypes=#[T1,T1]:=by apply Array.toList_inj.1;simpa using htys
        exact copy_sim hT (ety:=et) hs hg (fun a w=>by unfold execOp;simp [hop,resolve,hcal,e1,e2,invoke,builtin]) h2
      · cases h3
    · cases h
  ·
    rename_i hcal
    split at h
    · rename_i k m k' n
      split at h
      · rename_i hkk
        subst hkk
        refine⟨_,h,fun s hl hs hn=>OpSim.pure fun B w S β a R=>?_⟩
        simp only[hop,opsOf,hcal] at hl
        have hargs:∃ x y,c.args.toList=[x,y]∧s.pv x=.val (.int k) m∧s.pv y=.val (.int k) n:=by
          match hca:c.args.toList,hl with
          | [x,y],hl=>simp only[hca,List.map_cons,List.map_nil,List.cons.injEq,and_true] at hl;exact⟨x,y,rfl,hl⟩
          | [],hl=>simp [hca] at hl
          | [_],hl=>simp [hca] at hl
          | _::_::_::_,hl=>simp [hca] at hl
        obtain⟨x,y,hx,h1,h2⟩:=hargs
        have e1:c.args=#[x,y]:=by apply Array.toList_inj.1;simpa using hx
        have hx1:=q14q R x
        have hy1:=q14q R y
        rw[h1] at hx1;rw[h2] at hy1
        refine⟨.int k (mx m n),?_,trel_int⟩
        simp [execOp,hop,resolve,hcal,e1,invoke,builtin,Builtin.max_,hx1.int,hy1.int,Builtin.max2,mx]
      · cases h
    · cases h
  ·
    rename_i hcal
    split at h
    · rename_i k m k' n
      split at h
      · rename_i hkk
        subst hkk
        refine⟨_,h,fun s hl hs hn=>OpSim.pure fun B w S β a R=>?_⟩
        simp only[hop,opsOf,hcal] at hl
        have hargs:∃ x y,c.args.toList=[x,y]∧s.pv x=.val (.int k) m∧s.pv y=.val (.int k) n:=by
          match hca:c.args.toList,hl with
          | [x,y],hl=>simp only[hca,List.map_cons,List.map_nil,List.cons.injEq,and_true] at hl;exact⟨x,y,rfl,hl⟩
          | [],hl=>simp [hca] at hl
          | [_],hl=>simp [hca] at hl
          | _::_::_::_,hl=>simp [hca] at hl
        obtain⟨x,y,hx,h1,h2⟩:=hargs
        have e1:c.args=#[x,y]:=by apply Array.toList_inj.1;simpa using hx
        have hx1:=q14q R x
        have hy1:=q14q R y
        rw[h1] at hx1;rw[h2] at hy1
        refine⟨.int k (mn m n),?_,trel_int⟩
        simp [execOp,hop,resolve,hcal,e1,invoke,builtin,Builtin.min_,hx1.int,hy1.int,Builtin.min2,mn]
      · cases h
    · cases h
  ·
    rename_i fo hcal
    split at h
    · rename_i f l' args
      split at h
      · rename_i ct hct
        rw[effCall_bind] at h
        obtain⟨ef,h1,h2⟩:=bind_of h
        refine⟨ef,h1,fun s hl hs hn=>?_⟩
        simp only[hop,opsOf,hcal,List.map_cons,List.cons.injEq] at hl
        obtain⟨hf1,hargs⟩:=hl
        cases hd:o.dst with
        | none =>
          rw[hd] at h2
          unfold effCall at h2
          cases hw:ct.wi with
          | none=>rw[hw] at h2;unfold effCall0 at h2;cases h2
          | some wi=>rw[hw] at h2;cases h2
        | some d =>
          refine call_sim hE hs hct hd (fun k q1 q2 q3=>?_) (fun B w S β a R=>?_) h2
          · have := hn d hd (k - d * 8) (by omega)
            rw[Nat.add_sub_cancel' q1] at this
            exact this q3
          · have hf2 := q14q R fo
            rw[hf1] at hf2
            obtain⟨vs,he,hvs⟩:=hf2
            refine⟨c.args.toList.map a.eval++vs,?_,?_⟩
            · have : (c.args.toList.map a.eval ++ vs).toArray = #[] ++ c.args.map a.eval ++ vs.toArray := by
               apply Array.toList_inj.1;simp
              rw[this]
              simp [execOp,hop,resolve,hcal,he,Deferred.ofValue,invoke]
            · refine All2.append ?_ (hvs.imp fun _ _ h => h.up)
              rw[← hargs]
              have:∀ xs:List Operand,All2 (TRel w S β (get s.h)) (xs.map s.pv) (xs.map a.eval):=by
               intro xs
               induction xs with
               | nil=>trivial
               | cons x xs ih=>exact⟨q14q R x,ih⟩
              exact this _
      · cases h
    · cases h
  · cases h
 all_goals exact absurd h (by simp [effC])
end
end Go.Proofs.YtilflbimpjokjaaGreatDoor.X
