/- Own work: part of the proof; the first line of each part says what it tells. -/
import Derived.Test.YthcpiofmhkhbeaaDoorLb7


namespace Go.Proofs.YthcpiofmhkhbeaaDoor.X
open Go
set_option linter.unusedVariables false
set_option linter.unusedSimpArgs false
theorem lp_allh' {V T:Type} {step:(V → Option T) → V → Option T} (f:Nat → V) (n:Nat) (ok:Nat → Prop) (Q:T → Prop) (fin:T)
  (hs:∀ i,i < n → (∀ j,j < i → ok j) → (ok i ∧ ∀ g,step g (f i) = g (f (i + 1))) ∨ (¬ ok i ∧ ∃ r,Q r ∧ ∀ g,step g (f i) = some r)) (he:∀ g,step g (f n) = some fin) :
  ∀ (d i m:Nat),i + d = n → d < m → (∀ j,j < i → ok j) → ((∀ i,i < n → ok i) ∧ lp step m (f i) = some fin) ∨ (¬ (∀ i,i < n → ok i) ∧ ∃ r,Q r ∧ lp step m (f i) = some r):=by
 intro d
 induction d with
 | zero =>
  intro i m hi hm hok
  obtain ⟨m,rfl⟩:∃ k,m = k + 1:=⟨m - 1,by omega⟩
  have:i = n:=by omega
  subst this
  exact .inl ⟨hok,he _⟩
 | succ d ih =>
  intro i m hi hm hok
  obtain ⟨m,rfl⟩:∃ k,m = k + 1:=⟨m - 1,by omega⟩
  rcases hs i (by omega) hok with ⟨h1,h2⟩ | ⟨h1,r,h2,h3⟩
  · have := ih (i + 1) m (by omega) (by omega) (fun j hj => by
     by_cases e:j = i
     · subst e;exact h1
     · exact hok j (by omega))
    have e:lp step (m + 1) (f i) = lp step m (f (i + 1)):=h2 _
    rw [e];exact this
  · exact .inr ⟨fun h=>h1 (h i (by omega)),r,h2,h3 _⟩
theorem lp_allh {V T:Type} {step:(V → Option T) → V → Option T} (f:Nat → V) (n:Nat) (ok:Nat → Prop) (Q:T → Prop) (fin:T) (hn:n < 18446744073709551616)
  (hs:∀ i,i < n → (∀ j,j < i → ok j) → (ok i ∧ ∀ g,step g (f i) = g (f (i + 1))) ∨ (¬ ok i ∧ ∃ r,Q r ∧ ∀ g,step g (f i) = some r)) (he:∀ g,step g (f n) = some fin) :
  ((∀ i,i < n → ok i) ∧ lp step K0 (f 0) = some fin) ∨ (¬ (∀ i,i < n → ok i) ∧ ∃ r,Q r ∧ lp step K0 (f 0) = some r) :=
 lp_allh' f n ok Q fin hs he n 0 K0 (by omega) hn (fun j h=>by omega)
def NodeFits (n:NODE):Prop:=0 ≤ nFeat n ∧ nFeat n ≤ 64 ∧ 0 ≤ nL n ∧ nL n ≤ 255 ∧ 0 ≤ nR n ∧ nR n ≤ 255
def TreeFits (t:List NODE):Prop:=1 ≤ t.length ∧ t.length ≤ 255 ∧ ∀ i (h:i < t.length),NodeFits t[i]
def FitsP (m:MODEL):Prop:=0 ≤ m.1 ∧ m.1 ≤ 64 ∧ m.2.length ≤ 64 ∧ ∀ i (h:i < m.2.length),TreeFits m.2[i]
theorem fits_inner (a:List (List NODE)) (b c:Int) {t:List NODE} (hl:t.length < 4294967296) :
   ((∀ i (h:i < t.length),NodeFits t[i]) ∧ lp model_Fits_s9 K0 ((a,b,c,t,((t.length:Nat):Int),0,()),()) = some (.inl ((a,b,c,()),()))) ∨
   (¬ (∀ i (h:i < t.length),NodeFits t[i]) ∧ lp model_Fits_s9 K0 ((a,b,c,t,((t.length:Nat):Int),0,()),()) = some (.inr ((false,()),()))):=by
 rcases lp_all (step:=model_Fits_s9) (fun i=>((a,b,c,t,((t.length:Nat):Int),(i:Int),()),())) t.length (fun i=>∀ h:i < t.length,NodeFits t[i]) (fun i=>.inr ((false,()),())) (.inl ((a,b,c,()),())) (by omega) (by
    intro i hi
    have d0:(i:Int) < ((t.length:Nat):Int):=by omega
    have d1:(0:Int) ≤ (i:Int):=by omega
    have head:∀ g,model_Fits_s9 g ((a,b,c,t,((t.length:Nat):Int),(i:Int),()),()) = bif (decide (nFeat t[i] < 0)) then (some (.inr ((false,()),()))) else (bif (decide (nFeat t[i] > 64)) then (some (.inr ((false,()),()))) else (bif (decide (nL t[i] < 0)) then (some (.inr ((false,()),()))) else (bif (decide (nL t[i] > 255)) then (some (.inr ((false,()),()))) else (bif (decide (nR t[i] < 0)) then (some (.inr ((false,()),()))) else (bif (decide (nR t[i] > 255)) then (some (.inr ((false,()),()))) else (g ((a,b,c,t,((t.length:Nat):Int),((i + 1:Nat):Int),()),()))))))):=by
      intro g
      rw [model_Fits_s9,cnd d0,cnd d1,Int.toNat_natCast,List.getElem?_eq_getElem hi,Option.bind_some,iadd1 (by omega)]
      rfl
    by_cases h:NodeFits t[i]
    · refine .inl ⟨fun _ => h, fun g => ?_⟩
      obtain ⟨h1,h2,h3,h4,h5,h6⟩:=h
      rw [head,cnd' (by omega),cnd' (by omega),cnd' (by omega),cnd' (by omega),cnd' (by omega),cnd' (by omega)]
    · refine .inr ⟨fun h' => h (h' hi), fun g => ?_⟩
      rw [head]
      by_cases h1:nFeat t[i] < 0
      · rw [cnd h1]
      by_cases h2:nFeat t[i] > 64
      · rw [cnd' h1,cnd h2]
      by_cases h3:nL t[i] < 0
      · rw [cnd' h1,cnd' h2,cnd h3]
      by_cases h4:nL t[i] > 255
      · rw [cnd' h1,cnd' h2,cnd' h3,cnd h4]
      by_cases h5:nR t[i] < 0
      · rw [cnd' h1,cnd' h2,cnd' h3,cnd' h4,cnd h5]
      by_cases h6:nR t[i] > 255
      · rw [cnd' h1,cnd' h2,cnd' h3,cnd' h4,cnd' h5,cnd h6]
      exfalso;apply h;unfold NodeFits;omega) (by
    intro g
    rw [model_Fits_s9,cnd' (by omega)]) with ⟨h,hlp⟩ | ⟨i,hi,h,hlp⟩
 · exact .inl ⟨fun i hi=>h i hi hi,hlp⟩
 · exact .inr ⟨fun hh=>h (fun hi=>hh i hi),hlp⟩
theorem Fits_ok {m:MODEL} (hl:m.2.length < 4294967296) (ht:∀ t ∈ m.2,t.length < 4294967296):∃ b,model_Fits m = some b ∧ (b = true ↔ FitsP m):=by
 unfold model_Fits
 by_cases h1:m.1 < 0
 · exact ⟨false,by rw [cnd h1],fun h=>(by cases h),fun h=>by have:=h.1;omega⟩
 by_cases h2:m.1 > 64
 · exact ⟨false,by rw [cnd' h1,cnd h2],fun h=>(by cases h),fun h=>by have:=h.2.1;omega⟩
 by_cases h3:((m.2.length:Nat):Int) > 64
 · exact ⟨false,by rw [cnd' h1,cnd' h2,cnd h3],fun h=>(by cases h),fun h=>by have:=h.2.2.1;omega⟩
 rw [cnd' h1,cnd' h2,cnd' h3]
 rcases lp_all (step:=model_Fits_s4) (fun i=>((m.2,((m.2.length:Nat):Int),(i:Int),()),())) m.2.length (fun i=>∀ h:i < m.2.length,TreeFits m.2[i]) (fun i=>.inr ((false,()),())) (.inl ((),())) (by omega) (by
    intro i hi
    have d0:(i:Int) < ((m.2.length:Nat):Int):=by omega
    have d1:(0:Int) ≤ (i:Int):=by omega
    have hti:=ht _ (List.getElem_mem hi)
    by_cases g1:((m.2[i].length:Nat):Int) < 1
    · refine .inr ⟨fun h => by have := (h hi).1; omega, fun g => ?_⟩
      rw [model_Fits_s4,cnd d0,cnd d1,Int.toNat_natCast,List.getElem?_eq_getElem hi,Option.bind_some,cnd g1]
    by_cases g2:((m.2[i].length:Nat):Int) > 255
    · refine .inr ⟨fun h => by have := (h hi).2.1; omega, fun g => ?_⟩
      rw [model_Fits_s4,cnd d0,cnd d1,Int.toNat_natCast,List.getElem?_eq_getElem hi,Option.bind_some,cnd' g1,cnd g2]
    rcases fits_inner m.2 ((m.2.length:Nat):Int) (i:Int) hti with ⟨h,hlp⟩ | ⟨h,hlp⟩
    · refine .inl ⟨fun _ => ⟨by omega, by omega, h⟩, fun g => ?_⟩
      rw [model_Fits_s4,cnd d0,cnd d1,Int.toNat_natCast,List.getElem?_eq_getElem hi,Option.bind_some,cnd' g1,cnd' g2,hlp,Option.bind_some]
      dsimp only
      rw [iadd1 (by omega)]
      rfl
    · refine .inr ⟨fun hh => h (hh hi).2.2, fun g => ?_⟩
      rw [model_Fits_s4,cnd d0,cnd d1,Int.toNat_natCast,List.getElem?_eq_getElem hi,Option.bind_some,cnd' g1,cnd' g2,hlp,Option.bind_some]) (by
    intro g
    rw [model_Fits_s4,cnd' (by omega)]) with ⟨h,hlp⟩ | ⟨i,hi,h,hlp⟩
 · have hlp : lp model_Fits_s4 K0 ((m.2, ((m.2.length : Nat) : Int), 0, ()), ()) = some (.inl ((), ())) := hlp
   exact ⟨true,by rw [hlp];rfl,fun _=>⟨by omega,by omega,by omega,fun i hi=>h i hi hi⟩,fun _=>rfl⟩
 · have hlp : lp model_Fits_s4 K0 ((m.2, ((m.2.length : Nat) : Int), 0, ()), ()) = some (.inr ((false, ()), ())) := hlp
   exact ⟨false,by rw [hlp];rfl,fun h'=>(by cases h'),fun hp=>absurd (fun hh=>hp.2.2.2 i hh) h⟩
def RuleP (f:Int):Nat → List NODE → Prop
 | 0,t=>RangesP t f
 | 1,t=>ShapeP t
 | 2,t=>CoversP t
 | _,t=>SumsP t
def Good (m:MODEL):Prop:=FitsP m ∧ ∀ r,r < 4 → ∀ i (h:i < m.2.length),RuleP m.1 r m.2[i]
theorem Good.ranges {m:MODEL} (h:Good m) {i:Nat} (hi:i < m.2.length):RangesP m.2[i] m.1:=h.2 0 (by decide) i hi
theorem Good.shape {m:MODEL} (h:Good m) {i:Nat} (hi:i < m.2.length):ShapeP m.2[i]:=h.2 1 (by decide) i hi
theorem Good.covers {m:MODEL} (h:Good m) {i:Nat} (hi:i < m.2.length):CoversP m.2[i]:=h.2 2 (by decide) i hi
theorem Good.sums {m:MODEL} (h:Good m) {i:Nat} (hi:i < m.2.length):SumsP m.2[i]:=h.2 3 (by decide) i hi
def MSz (m:MODEL) (k:Nat):Prop:=∀ t ∈ m.2,TSz t k
theorem check_inner {m:MODEL} {k:Nat} (hf:FitsP m) (hs:MSz m k) (hk:k < 500000000000) {r:Nat} (hr:r < 4) (hlow:∀ r',r' < r → ∀ i (h:i < m.2.length),RuleP m.1 r' m.2[i]) (z:Int × Int × Int × Int) :
   ((∀ i (h:i < m.2.length),RuleP m.1 r m.2[i]) ∧ lp valid_Check_s7 K0 (((r:Int),(r:Int),m.2,((m.2.length:Nat):Int),0,()),((m.1,m.2,()),(z.1,z.2.1,z.2.2.1,z.2.2.2,()),())) = some (.inl (((r:Int),()),((m.1,m.2,()),(z.1,z.2.1,z.2.2.1,z.2.2.2,()),())))) ∨
   (¬ (∀ i (h:i < m.2.length),RuleP m.1 r m.2[i]) ∧ ∃ e a b c,e ≠ 0 ∧ lp valid_Check_s7 K0 (((r:Int),(r:Int),m.2,((m.2.length:Nat):Int),0,()),((m.1,m.2,()),(z.1,z.2.1,z.2.2.1,z.2.2.2,()),())) = some (.inr ((),((e,a,b,c,()),())))):=by
 have hlen:=hf.2.2.1
 have ans:∀ i (h:i < m.2.length),∃ a e,(e = 0 ↔ RuleP m.1 r m.2[i]) ∧ ∀ g,valid_Check_s7 g (((r:Int),(r:Int),m.2,((m.2.length:Nat):Int),(i:Int),()),((m.1,m.2,()),(z.1,z.2.1,z.2.2.1,z.2.2.2,()),())) =
     bif (!decide (e = 0)) then some (.inr ((),((e,0,(i:Int),a,()),()))) else g (((r:Int),(r:Int),m.2,((m.2.length:Nat):Int),((i + 1:Nat):Int),()),((m.1,m.2,()),(z.1,z.2.1,z.2.2.1,z.2.2.2,()),())):=by
   intro i hi
   have d0:(i:Int) < ((m.2.length:Nat):Int):=by omega
   have d1:(0:Int) ≤ (i:Int):=by omega
   have htf:=hf.2.2.2 i hi
   have htl:m.2[i].length < 4294967296:=by have:=htf.2.1;omega
   have ht0:0 < m.2[i].length:=htf.1
   have hts:=hs _ (List.getElem_mem hi)
   match r,hr with
   | 0, _ =>
     obtain ⟨a,e,h1,h2⟩:=ranges_ok (f:=m.1) htl
     refine ⟨a,e,h2,fun g=>?_⟩
     rw [valid_Check_s7,cnd d0,cnd d1,Int.toNat_natCast,List.getElem?_eq_getElem hi,Option.bind_some,cnd (by rfl),h1,Option.bind_some,iadd1 (by omega)]
     rfl
   | 1, _ =>
     obtain ⟨a,e,h1,h2⟩:=shape_ok htl ht0 (hlow 0 (by decide) i hi)
     refine ⟨a,e,h2,fun g=>?_⟩
     rw [valid_Check_s7,cnd d0,cnd d1,Int.toNat_natCast,List.getElem?_eq_getElem hi,Option.bind_some,cnd' (by decide),cnd (by rfl),h1,Option.bind_some,iadd1 (by omega)]
     rfl
   | 2, _ =>
     obtain ⟨a,e,h1,h2⟩:=covers_ok htl hts (by omega)
     refine ⟨a,e,h2,fun g=>?_⟩
     rw [valid_Check_s7,cnd d0,cnd d1,Int.toNat_natCast,List.getElem?_eq_getElem hi,Option.bind_some,cnd' (by decide),cnd' (by decide),cnd (by rfl),h1,Option.bind_some,iadd1 (by omega)]
     rfl
   | 3, _ =>
     obtain ⟨a,e,h1,h2⟩:=sums_ok htl hts hk (hlow 0 (by decide) i hi)
     refine ⟨a,e,h2,fun g=>?_⟩
     rw [valid_Check_s7,cnd d0,cnd d1,Int.toNat_natCast,List.getElem?_eq_getElem hi,Option.bind_some,cnd' (by decide),cnd' (by decide),cnd' (by decide),cnd (by rfl),h1,Option.bind_some,iadd1 (by omega)]
     rfl
 have ans2:∀ i,∃ a e,∀ h:i < m.2.length,(e = 0 ↔ RuleP m.1 r m.2[i]) ∧ ∀ g,valid_Check_s7 g (((r:Int),(r:Int),m.2,((m.2.length:Nat):Int),(i:Int),()),((m.1,m.2,()),(z.1,z.2.1,z.2.2.1,z.2.2.2,()),())) =
     bif (!decide (e = 0)) then some (.inr ((),((e,0,(i:Int),a,()),()))) else g (((r:Int),(r:Int),m.2,((m.2.length:Nat):Int),((i + 1:Nat):Int),()),((m.1,m.2,()),(z.1,z.2.1,z.2.2.1,z.2.2.2,()),())):=by
   intro i
   by_cases h:i < m.2.length
   · obtain ⟨a, e, h1, h2⟩ := ans i h
     exact ⟨a,e,fun _=>⟨h1,h2⟩⟩
   · exact ⟨0,0,fun h'=>absurd h' h⟩
 have A:=fun i=>(ans2 i).choose
 let E:Nat → Int:=fun i=>(ans2 i).choose_spec.choose
 have hE:∀ i (h:i < m.2.length),(E i = 0 ↔ RuleP m.1 r m.2[i]) ∧ ∀ g,valid_Check_s7 g (((r:Int),(r:Int),m.2,((m.2.length:Nat):Int),(i:Int),()),((m.1,m.2,()),(z.1,z.2.1,z.2.2.1,z.2.2.2,()),())) =
     bif (!decide (E i = 0)) then some (.inr ((),((E i,0,(i:Int),(ans2 i).choose,()),()))) else g (((r:Int),(r:Int),m.2,((m.2.length:Nat):Int),((i + 1:Nat):Int),()),((m.1,m.2,()),(z.1,z.2.1,z.2.2.1,z.2.2.2,()),())):=fun i h=>(ans2 i).choose_spec.choose_spec h
 rcases lp_all (step:=valid_Check_s7) (fun i=>(((r:Int),(r:Int),m.2,((m.2.length:Nat):Int),(i:Int),()),((m.1,m.2,()),(z.1,z.2.1,z.2.2.1,z.2.2.2,()),()))) m.2.length (fun i=>E i = 0) (fun i=>.inr ((),((E i,0,(i:Int),(ans2 i).choose,()),()))) (.inl (((r:Int),()),((m.1,m.2,()),(z.1,z.2.1,z.2.2.1,z.2.2.2,()),()))) (by omega) (by
     intro i hi
     obtain ⟨h1,h2⟩:=hE i hi
     by_cases h0:E i = 0
     · exact .inl ⟨h0,fun g=>by rw [h2,decide_eq_true h0];rfl⟩
     · exact .inr ⟨h0,fun g=>by rw [h2,decide_eq_false h0];rfl⟩) (by
     intro g
     rw [valid_Check_s7,cnd' (by omega)]) with ⟨h,hlp⟩ | ⟨i,hi,h,hlp⟩
 · exact .inl ⟨fun i hi=>(hE i hi).1.1 (h i hi),hlp⟩
 · exact .inr ⟨fun hh=>h ((hE i hi).1.2 (hh i hi)),E i,0,(i:Int),_,h,hlp⟩
theorem Ok_ok {m:MODEL} {k:Nat} (hl:m.2.length < 4294967296) (ht:∀ t ∈ m.2,t.length < 4294967296) (hs:MSz m k) (hk:k < 500000000000):∃ b,valid_Ok m = some b ∧ (b = true ↔ Good m):=by
 obtain ⟨b,hb,hbf⟩:=Fits_ok hl ht
 cases b with
 | false =>
  have hnf:¬ FitsP m:=fun h=>by have:=hbf.2 h;cases this
  refine ⟨false,?_,fun h=>(by cases h),fun h=>absurd h.1 hnf⟩
  rw [valid_Ok,valid_Check,hb,Option.bind_some]
  rfl
 | true =>
  have hf:=hbf.1 rfl
  rcases lp_allh (step:=valid_Check_s4) (fun r=>(((r:Int),()),((m.1,m.2,()),(0,0,0,0,()),()))) 4 (fun r=>∀ i (h:i < m.2.length),RuleP m.1 r m.2[i]) (fun r=>∃ e a b c,e ≠ 0 ∧ r = .inr ((),((e,a,b,c,()),()))) (.inl ((),((0,0,0,0,()),()))) (by omega) (by
     intro r hr hlow
     have d0:(r:Int) < 4:=by omega
     rcases check_inner hf hs hk hr (fun r' hr'=>hlow r' hr') (0,0,0,0) with ⟨h1,h2⟩ | ⟨h1,e,a,b,c,h2,h3⟩
     · refine .inl ⟨h1, fun g => ?_⟩
       rw [valid_Check_s4,cnd d0,h2,Option.bind_some]
       dsimp only
       rw [iadd1 (by omega)]
       rfl
     · refine .inr ⟨h1, _, ⟨e, a, b, c, h2, rfl⟩, fun g => ?_⟩
       rw [valid_Check_s4,cnd d0,h3,Option.bind_some]) (by
     intro g
     rw [valid_Check_s4,cnd' (by decide)]) with ⟨h,hlp⟩ | ⟨h,r,⟨e,a,b,c,he,rfl⟩,hlp⟩
  · have hlp : lp valid_Check_s4 K0 (((0 : Int), ()), ((m.1, m.2, ()), (0, 0, 0, 0, ()), ())) = _ := hlp
    refine ⟨true,?_,fun _=>⟨hf,h⟩,fun _=>rfl⟩
    rw [valid_Ok,valid_Check,hb,Option.bind_some,Bool.not_true,cond_false,hlp]
    rfl
  · have hlp : lp valid_Check_s4 K0 (((0 : Int), ()), ((m.1, m.2, ()), (0, 0, 0, 0, ()), ())) = _ := hlp
    refine ⟨false,?_,fun h'=>(by cases h'),fun hg=>absurd hg.2 h⟩
    rw [valid_Ok,valid_Check,hb,Option.bind_some,Bool.not_true,cond_false,hlp,Option.bind_some]
    dsimp only
    rw [Option.bind_some,decide_eq_false he]
    rfl
theorem number07_ok (a:RAT):dendronlaw07_number a = some (cutR 4 a):=by
 obtain ⟨⟨s,x⟩,y⟩:=a
 unfold dendronlaw07_number cutR
 by_cases h1:4 < x.length
 · have c1 : ((x.length : Nat) : Int) > 4 := by omega
   have c2:(4:Int) ≤ ((x.length:Nat):Int):=by omega
   by_cases h2:4 < y.length
   · have c3 : ((y.length : Nat) : Int) > 4 := by omega
     have c4:(4:Int) ≤ ((y.length:Nat):Int):=by omega
     rw [cnd c1,cnd c2,cnd c3,cnd c4]
   · have c3 : ¬ ((y.length : Nat) : Int) > 4 := by omega
     rw [cnd c1,cnd c2,cnd' c3,List.take_of_length_le (l:=y) (by omega)]
 · have c1 : ¬ ((x.length : Nat) : Int) > 4 := by omega
   by_cases h2:4 < y.length
   · have c3 : ((y.length : Nat) : Int) > 4 := by omega
     have c4:(4:Int) ≤ ((y.length:Nat):Int):=by omega
     rw [cnd' c1,cnd c3,cnd c4,List.take_of_length_le (l:=x) (by omega)]
   · have c3 : ¬ ((y.length : Nat) : Int) > 4 := by omega
     rw [cnd' c1,cnd' c3,List.take_of_length_le (l:=x) (by omega),List.take_of_length_le (l:=y) (by omega)]
def cutNode (n:NODE):NODE:=(n.1,n.2.1,cutR 4 n.2.2.1,n.2.2.2.1,n.2.2.2.2.1,n.2.2.2.2.2.1,cutR 4 n.2.2.2.2.2.2.1,cutR 4 n.2.2.2.2.2.2.2)
def cutTree (t:List NODE):List NODE:=(t.take 15).map cutNode
def cutM (m:MODEL):MODEL:=(m.1,(m.2.take 6).map cutTree)
theorem cutNode_sz (n:NODE):NSz (cutNode n) 4:=⟨cutR_sz 4 _,cutR_sz 4 _,cutR_sz 4 _⟩
theorem cutTree_sz (t:List NODE):TSz (cutTree t) 4:=by
 intro n hn
 obtain ⟨x,_,rfl⟩:=List.mem_map.1 hn
 exact cutNode_sz x
theorem cutTree_len (t:List NODE):(cutTree t).length ≤ 15:=by simp [cutTree];omega
theorem Few07_inner {m:MODEL} {i:Nat} (hi:i < m.2.length) (hl:m.2[i].length ≤ 9223372036854775807) (hi2:i < 4611686018427387904) (z w:Int × List (List NODE)) :
  lp dendronlaw07_Few_s7 K0 (((i:Int),[],0,()),((m.1,m.2,()),(z.1,z.2,()),(w.1,w.2,()),())) = some (((i:Int),cutTree m.2[i],()),((m.1,m.2,()),(z.1,z.2,()),(w.1,w.2,()),())):=by
 have hn:min m.2[i].length 15 ≤ m.2[i].length:=Nat.min_le_left _ _
 exact lp_up (step:=dendronlaw07_Few_s7) (fun k=>(((i:Int),(m.2[i].take k).map cutNode,(k:Int),()),((m.1,m.2,()),(z.1,z.2,()),(w.1,w.2,()),()))) (min m.2[i].length 15) (by omega) (by
  intro g k hk
  have h1:k < m.2[i].length:=by omega
  have d0:(0:Int) ≤ (i:Int):=by omega
  have d1:(k:Int) < ((m.2[i].length:Nat):Int):=by omega
  have d2:(k:Int) < 15:=by omega
  have d3:(0:Int) ≤ (k:Int):=by omega
  have d4:(((m.2[i].take k).map cutNode).length + 1) * 208 ≤ 140737488355328:=by simp;omega
  rw [dendronlaw07_Few_s7,cnd d0,Int.toNat_natCast,List.getElem?_eq_getElem hi,Option.bind_some,cnd d1,cnd d2,cnd d0,Option.bind_some,cnd d3,Int.toNat_natCast,List.getElem?_eq_getElem h1,Option.bind_some,number07_ok,Option.bind_some,number07_ok,Option.bind_some,number07_ok,Option.bind_some,blt d4,cond_true,iadd1 (by omega),map_take_succ _ h1]
  rfl) (by
  intro g
  have d0:(0:Int) ≤ (i:Int):=by omega
  by_cases h:m.2[i].length ≤ 15
  · have c1 : ¬ ((min m.2[i].length 15 : Nat) : Int) < ((m.2[i].length : Nat) : Int) := by omega
    rw [dendronlaw07_Few_s7,cnd d0,Int.toNat_natCast,List.getElem?_eq_getElem hi,Option.bind_some,cnd' c1,Nat.min_eq_left h,List.take_of_length_le (Nat.le_refl _),cutTree,List.take_of_length_le h]
  · have c1 : ((min m.2[i].length 15 : Nat) : Int) < ((m.2[i].length : Nat) : Int) := by omega
    have c2:¬ ((min m.2[i].length 15:Nat):Int) < 15:=by omega
    rw [dendronlaw07_Few_s7,cnd d0,Int.toNat_natCast,List.getElem?_eq_getElem hi,Option.bind_some,cnd c1,cnd' c2,Nat.min_eq_right (by omega),cutTree])
theorem Few07_ok (m:MODEL) (hl:m.2.length ≤ 9223372036854775807) (ht:∀ t ∈ m.2,t.length ≤ 9223372036854775807):dendronlaw07_Few m = some (cutM m):=by
 have hn:min m.2.length 6 ≤ m.2.length:=Nat.min_le_left _ _
 have key:=lp_up (step:=dendronlaw07_Few_s3) (fun i=>(((i:Int),()),((m.1,m.2,()),(0,[],()),(m.1,(m.2.take i).map cutTree,()),()))) (min m.2.length 6) (r:=((),((0,[],()),(m.1,(m.2.take 6).map cutTree,()),()))) (by omega) (by
  intro g i hi
  have h1:i < m.2.length:=by omega
  have d0:(i:Int) < ((m.2.length:Nat):Int):=by omega
  have d1:(i:Int) < 6:=by omega
  have hin:=Few07_inner h1 (ht _ (List.getElem_mem h1)) (by omega) (0,[]) (m.1,(m.2.take i).map cutTree)
  have d4:(((m.2.take i).map cutTree).length + 1) * 24 ≤ 140737488355328:=by simp;omega
  rw [dendronlaw07_Few_s3,cnd d0,cnd d1,hin,Option.bind_some,blt d4,cond_true,iadd1 (by omega),map_take_succ _ h1]
  rfl) (by
  intro g
  by_cases h:m.2.length ≤ 6
  · have c1 : ¬ ((min m.2.length 6 : Nat) : Int) < ((m.2.length : Nat) : Int) := by omega
    rw [dendronlaw07_Few_s3,cnd' c1,Nat.min_eq_left h,List.take_of_length_le (Nat.le_refl _),List.take_of_length_le h]
  · have c1 : ((min m.2.length 6 : Nat) : Int) < ((m.2.length : Nat) : Int) := by omega
    have c2:¬ ((min m.2.length 6:Nat):Int) < 6:=by omega
    rw [dendronlaw07_Few_s3,cnd c1,cnd' c2,Nat.min_eq_right (by omega)])
 have key':lp dendronlaw07_Few_s3 K0 ((0,()),((m.1,m.2,()),(0,[],()),(m.1,[],()),())) = _:=key
 rw [dendronlaw07_Few,key']
 rfl
inductive TR where
 | leaf (i:Nat)
 | split (i:Nat) (l r:TR)
def TR.top:TR → Nat
 | .leaf i=>i
 | .split i _ _=>i
def TR.size:TR → Nat
 | .leaf _=>1
 | .split _ l r=>1 + l.size + r.size
def TR.deep:TR → Nat
 | .leaf _=>1
 | .split _ l r=>1 + max l.deep r.deep
def Is (t:List NODE) (f:Int):TR → Prop
 | .leaf i=>∃ h:i < t.length,nLeaf t[i] = true
 | .split i l r=>∃ h:i < t.length,nLeaf t[i] = false ∧ 0 ≤ nFeat t[i] ∧ nFeat t[i] < f ∧ nL t[i] = (l.top:Int) ∧ nR t[i] = (r.top:Int) ∧ Is t f l ∧ Is t f r
theorem tree_at {t:List NODE} {f:Int} (hr:RangesP t f) (hrk:Ranked t):∀ i,i < t.length → ∃ T,Is t f T ∧ T.top = i ∧ T.deep ≤ t.length + 1:=by
 obtain ⟨rk,hrk⟩:=hrk
 have key:∀ (d i:Nat),i < t.length → rk i ≤ d → ∃ T,Is t f T ∧ T.top = i ∧ T.deep ≤ rk i + 1:=by
  intro d
  induction d with
  | zero =>
   intro i hi hd
   cases hl:nLeaf t[i] with
   | true=>exact ⟨.leaf i,⟨hi,hl⟩,rfl,by simp [TR.deep]⟩
   | false =>
    have:=(hrk i hi).2 (nL t[i]).toNat (by rw [kids_split hi hl];simp)
    omega
  | succ d ih =>
   intro i hi hd
   cases hl:nLeaf t[i] with
   | true=>exact ⟨.leaf i,⟨hi,hl⟩,rfl,by simp [TR.deep]⟩
   | false =>
    obtain ⟨r1,r2,r3,r4,r5,r6⟩:=hr i hi hl
    have k1:=(hrk i hi).2 (nL t[i]).toNat (by rw [kids_split hi hl];simp)
    have k2:=(hrk i hi).2 (nR t[i]).toNat (by rw [kids_split hi hl];simp)
    obtain ⟨L,hL,hLt,hLd⟩:=ih (nL t[i]).toNat (by omega) (by omega)
    obtain ⟨R,hR,hRt,hRd⟩:=ih (nR t[i]).toNat (by omega) (by omega)
    refine ⟨.split i L R,⟨hi,hl,r1,r2,by rw [hLt];omega,by rw [hRt];omega,hL,hR⟩,rfl,?_⟩
    simp only [TR.deep]
    omega
 intro i hi
 obtain ⟨T,h1,h2,h3⟩:=key (rk i) i hi (Nat.le_refl _)
 have:=(hrk i hi).1
 exact ⟨T,h1,h2,by omega⟩
theorem Good.tree {m:MODEL} (h:Good m) {i:Nat} (hi:i < m.2.length):∃ T,Is m.2[i] m.1 T ∧ T.top = 0 ∧ T.deep ≤ m.2[i].length + 1 :=
 tree_at (h.ranges hi) (h.shape hi).2 0 (h.1.2.2.2 i hi).1
abbrev zR:RAT:=((false,[]),[])
abbrev zN:NODE:=(false,0,zR,0,0,false,zR,zR)
def nodeAt (t:List NODE) (i:Nat):NODE:=(t[i]?).getD zN
theorem nodeAt_get {t:List NODE} {i:Nat} (h:i < t.length):nodeAt t i = t[i]:=by simp [nodeAt,h]
def cellAt (row:List CELL) (i:Nat):CELL:=(row[i]?).getD (false,zR)
theorem cellAt_get {row:List CELL} {i:Nat} (h:i < row.length):cellAt row i = row[i]:=by simp [cellAt,h]
def goes (n:NODE) (c:CELL):Bool:=if c.1 then nMiss n else decide (rv c.2 < rv (nCut n))
def goL (t:List NODE) (row:List CELL) (i:Nat):Bool:=goes (nodeAt t i) (cellAt row (nFeat (nodeAt t i)).toNat)
theorem Is.top_lt {t:List NODE} {f:Int} {T:TR} (h:Is t f T):T.top < t.length:=by
 cases T with
 | leaf i=>exact h.1
 | split i l r=>exact h.1
theorem TR.deep_pos (T:TR):0 < T.deep:=by cases T <;> simp [TR.deep] <;> omega
theorem TSz.at {t:List NODE} {k:Nat} (h:TSz t k) {i:Nat} (hi:i < t.length):NSz (nodeAt t i) k:=by rw [nodeAt_get hi];exact h _ (List.getElem_mem hi)
theorem cov_sz {t:List NODE} (hs:TSz t 4) {i:Nat} (hi:i < t.length):SzQ (cov t i) 4:=(hs.at hi).2.2.szQ (by decide)
def mkT (t:List NODE):Nat → Nat → TR
 | 0,i=>.leaf i
 | d + 1,i=>if nLeaf (nodeAt t i) then .leaf i else .split i (mkT t d (nL (nodeAt t i)).toNat) (mkT t d (nR (nodeAt t i)).toNat)
theorem mkT_eq {t:List NODE} {f:Int}:∀ (d:Nat) (T:TR),Is t f T → T.deep ≤ d → mkT t d T.top = T:=by
 intro d
 induction d with
 | zero=>intro T _ h;have:=T.deep_pos;omega
 | succ d ih =>
  intro T h hd
  cases T with
  | leaf i =>
   obtain ⟨h1,h2⟩:=h
   simp only [TR.top,mkT,nodeAt_get h1,h2,if_true]
  | split i l r =>
   obtain ⟨h1,h2,_,_,h3,h4,h5,h6⟩:=h
   simp only [TR.deep] at hd
   show mkT t (d + 1) i = _
   rw [mkT,nodeAt_get h1,h2,h3,h4,Int.toNat_natCast,Int.toNat_natCast,ih l h5 (by omega),ih r h6 (by omega)]
   rfl
def treeOf (t:List NODE):TR:=mkT t (t.length + 1) 0
theorem Good.treeOf {m:MODEL} (h:Good m) {i:Nat} (hi:i < m.2.length):Is m.2[i] m.1 (treeOf m.2[i]) ∧ (treeOf m.2[i]).top = 0 ∧ (treeOf m.2[i]).deep ≤ m.2[i].length + 1:=by
 obtain ⟨T,h1,h2,h3⟩:=h.tree hi
 have:X.treeOf m.2[i] = T:=by rw [X.treeOf,← h2];exact mkT_eq _ T h1 h3
 rw [this];exact ⟨h1,h2,h3⟩
def treeAt (m:MODEL) (i:Nat):List NODE:=(m.2[i]?).getD []
theorem treeAt_get {m:MODEL} {i:Nat} (h:i < m.2.length):treeAt m i = m.2[i]:=by simp [treeAt,h]
theorem deep16 {m:MODEL} (h:Good m) (hl:∀ t ∈ m.2,t.length ≤ 15) {i:Nat} (hi:i < m.2.length):(treeOf (treeAt m i)).deep ≤ 16:=by
 rw [treeAt_get hi]
 have:=(h.treeOf hi).2.2
 have:=hl _ (List.getElem_mem hi)
 omega
def CSz (row:List CELL) (k:Nat):Prop:=∀ c ∈ row,SzR c.2 k
theorem goes_ok {n:NODE} {c:CELL} {k j:Nat} (hn:SzR (nCut n) k) (hk:k < 1099511627776) (hc:SzR c.2 j) (hj:j < 1099511627776):route_goes n c = some (goes n c):=by
 unfold route_goes goes
 cases h:c.1 with
 | true=>rfl
 | false =>
  rw [cond_false,ratio_Cmp_ok (hc.sm hj) (hn.sm hk),Option.bind_some,if_neg (by decide)]
  congr 1
  by_cases h:rv c.2 < rv (nCut n)
  · rw [decide_eq_true (rcmp_neg.2 h),decide_eq_true h]
  · rw [decide_eq_false (fun e=>h (rcmp_neg.1 e)),decide_eq_false h]
theorem Left_ok {n:NODE} {c:CELL} {k j:Nat} (hn:SzR (nCut n) k) (hk:k < 1099511627776) (hc:SzR c.2 j) (hj:j < 1099511627776):route_Left n c = some (!nLeaf n && goes n c):=by
 unfold route_Left
 rw [goes_ok hn hk hc hj]
 show _ = some (!n.1 && goes n c)
 cases h:n.1 with
 | true=>rfl
 | false=>rfl
theorem goL_ok {t:List NODE} {f:Int} {row:List CELL} {i:Nat} (hs:TSz t 4) (hc:CSz row 9) (hi:i < t.length) (h0:0 ≤ nFeat t[i]) (h1:nFeat t[i] < (row.length:Int)) :
  ∃ c,row[(nFeat t[i]).toNat]? = some c ∧ SzR c.2 9 ∧ goes t[i] c = goL t row i:=by
 have hlt:(nFeat t[i]).toNat < row.length:=by omega
 refine ⟨row[(nFeat t[i]).toNat],List.getElem?_eq_getElem hlt,hc _ (List.getElem_mem hlt),?_⟩
 rw [goL,nodeAt_get hi,cellAt_get hlt]
theorem TreeV_ok {t:List NODE} {f:Int} (ht:t.length ≤ 15) (hs:TSz t 4):∃ b,valid_Tree t f = some b ∧ (b = true ↔ Good (f,[t])):=by
 obtain ⟨b,h1,h2⟩:=Ok_ok (m:=(f,[t])) (k:=4) (by simp) (by intro u hu;simp at hu;subst hu;omega) (by intro u hu;simp at hu;subst hu;exact hs) (by decide)
 exact ⟨b,by rw [valid_Tree,h1];rfl,h2⟩
theorem cutRow_sz (l:List CELL):CSz (l.map cutCell) 9:=by
 intro c hc
 obtain ⟨x,_,rfl⟩:=List.mem_map.1 hc
 exact ⟨Nat.le_trans (cutR_sz 3 _).1 (by decide),Nat.le_trans (cutR_sz 3 _).2 (by decide)⟩
theorem fitsOk {m:MODEL} {row:List CELL} (hl:m.2.length < 4294967296) (ht:∀ t ∈ m.2,t.length < 4294967296) (hs:MSz m 4) :
  ∃ e:Int,route_fits m row = some e ∧ route_Fits m row = some e ∧ (e = 0 ↔ Good m ∧ (row.length:Int) = m.1):=by
 obtain ⟨b,h1,h2⟩:=Ok_ok hl ht hs (by decide)
 have key:∃ e:Int,route_fits m row = some e ∧ (e = 0 ↔ Good m ∧ (row.length:Int) = m.1):=by
  cases b with
  | false => exact ⟨1, by rw [route_fits, h1]; rfl, by constructor; · intro h; exact absurd h (by decide)
                                                       · intro h;have:=h2.2 h.1;simp at this⟩
  | true =>
   by_cases h:(row.length:Int) = m.1
   · exact ⟨0,by rw [route_fits,h1,Option.bind_some,Bool.not_true,cond_false,decide_eq_true h];rfl,by simp [h2.1 rfl,h]⟩
   · exact ⟨14,by rw [route_fits,h1,Option.bind_some,Bool.not_true,cond_false,decide_eq_false h];rfl,by simp [h]⟩
 obtain ⟨e,h3,h4⟩:=key
 exact ⟨e,h3,by rw [route_Fits,h3];rfl,h4⟩
structure Askd (m:MODEL) (row:List CELL):Prop where
 good:Good m
 len:(row.length:Int) = m.1
 ms:MSz m 4
 ml:m.2.length ≤ 6
 mt:∀ t ∈ m.2,t.length ≤ 15
 cs:CSz row 9
theorem Askd.tree {m:MODEL} {row:List CELL} (h:Askd m row) {i:Nat} (hi:i < m.2.length):TSz m.2[i] 4 ∧ Is m.2[i] (row.length:Int) (treeOf (treeAt m i)) ∧ (treeOf (treeAt m i)).top = 0 ∧ (treeOf (treeAt m i)).deep ≤ 16 ∧ treeAt m i = m.2[i]:=by
 have h1:=h.good.treeOf hi
 have h2:=deep16 h.good h.mt hi
 rw [treeAt_get hi] at h2 ⊢
 exact ⟨h.ms _ (List.getElem_mem hi),by rw [h.len];exact h1.1,h1.2.1,h2,rfl⟩
theorem Askd.cov {m:MODEL} {row:List CELL} (h:Askd m row) {i:Nat} (hi:i < m.2.length):CoversP m.2[i]:=h.good.covers hi
theorem Askd.f64 {m:MODEL} {row:List CELL} (h:Askd m row):row.length ≤ 64:=by
 have:=h.good.1.2.1
 have:=h.len
 omega
def rprod (f:Nat → Rat):Nat → Rat
 | 0=>1
 | n + 1=>rprod f n * f n
def qcan (qs:List Rat):List RAT:=qs.map canQ
@[simp] theorem qcan_len (qs:List Rat):(qcan qs).length = qs.length:=by simp [qcan]
def lsum:List Rat → Rat
 | []=>0
 | x :: r=>x + lsum r
theorem lsum_append (a b:List Rat):lsum (a ++ b) = lsum a + lsum b:=by
 induction a with
 | nil=>simp [lsum,Rat.zero_add]
 | cons x a ih=>simp only [List.cons_append,lsum,ih,Rat.add_assoc]
theorem CoversP.ne {t:List NODE} (h:CoversP t):∀ i,i < t.length → cov t i ≠ 0:=by
 intro i hi e
 have:=h i hi
 rw [cov_get hi] at e
 rw [e] at this
 exact absurd this (by decide)
abbrev AP:=Nat × Rat × Bool
def encP (p:AP):PART:=((p.1:Int),canQ p.2.1,p.2.2)
def encW (w:List AP):List PART:=w.map encP
theorem encW_len (w:List AP):(encW w).length = w.length:=by simp [encW]
theorem encW_get {w:List AP} {i:Nat} (h:i < w.length):(encW w)[i]? = some (encP w[i]):=by simp [encW,h]
def along (f:Nat) (q:Rat) (ok:Bool):List AP → List AP
 | []=>[(f,q,ok)]
 | p :: w=>if p.1 < f then p :: along f q ok w else if p.1 = f then (f,p.2.1 * q,p.2.2 && ok) :: w else (f,q,ok) :: p :: w
theorem along_len (f:Nat) (q:Rat) (ok:Bool) (w:List AP):(along f q ok w).length ≤ w.length + 1:=by
 induction w with
 | nil=>simp [along]
 | cons p w ih => simp only [along]; split
                  · simp only [List.length_cons];omega
                  · split <;> simp
def ASz (w:List AP) (k:Nat):Prop:=∀ p ∈ w,SzQ p.2.1 k
theorem along_sz {f:Nat} {q:Rat} {ok:Bool} {w:List AP} {k j:Nat} (h:ASz w k) (hq:SzQ q j):ASz (along f q ok w) (k + j):=by
 induction w with
 | nil=>intro p hp;simp [along] at hp;subst hp;exact hq.mono (by omega)
 | cons p w ih =>
  have h1:SzQ p.2.1 k:=h p List.mem_cons_self
  have h2:ASz w k:=fun x hx=>h x (List.mem_cons_of_mem _ hx)
  intro x hx
  simp only [along] at hx
  split at hx
  · rcases List.mem_cons.1 hx with rfl | hx
    · exact h1.mono (by omega)
    · exact ih h2 x hx
  · split at hx
    · rcases List.mem_cons.1 hx with rfl | hx
      · exact h1.mul hq
      · exact (h2 x hx).mono (by omega)
    · rcases List.mem_cons.1 hx with rfl | hx
      · exact hq.mono (by omega)
      · exact (h x hx).mono (by omega)
abbrev AL:=Nat × Rat × List AP
def featT (t:List NODE) (i:Nat):Nat:=(nFeat (nodeAt t i)).toNat
def legsT (t:List NODE) (row:List CELL):TR → List AP → List AL
 | .leaf i,w=>[(i,rv (nVal (nodeAt t i)),w)]
 | .split i l r,w=>legsT t row l (along (featT t i) (cov t l.top / cov t i) (goL t row i) w) ++ legsT t row r (along (featT t i) (cov t r.top / cov t i) (!goL t row i) w)
def WSz (w:List AP) (m:Nat) (f:Nat):Prop:=ASz w (8 * m + 1) ∧ w.length ≤ m ∧ ∀ p ∈ w,p.1 < f
theorem along_mem {f:Nat} {q:Rat} {ok:Bool} {w:List AP}:∀ p ∈ along f q ok w,p.1 = f ∨ ∃ p' ∈ w,p'.1 = p.1:=by
 induction w with
 | nil=>intro p hp;simp [along] at hp;subst hp;exact .inl rfl
 | cons a w ih =>
  intro p hp
  simp only [along] at hp
  split at hp
  · rcases List.mem_cons.1 hp with rfl | hp
    · exact .inr ⟨p,List.mem_cons_self,rfl⟩
    · rcases ih p hp with h | ⟨p', h1, h2⟩
      · exact .inl h
      · exact .inr ⟨p',List.mem_cons_of_mem _ h1,h2⟩
  · split at hp
    · rcases List.mem_cons.1 hp with rfl | hp
      · exact .inl rfl
      · exact .inr ⟨p,List.mem_cons_of_mem _ hp,rfl⟩
    · rcases List.mem_cons.1 hp with rfl | hp
      · exact .inl rfl
      · exact .inr ⟨p,hp,rfl⟩
theorem WSz.along {w:List AP} {m f g:Nat} {q:Rat} {ok:Bool} (h:WSz w m g) (hq:SzQ q 8) (hf:f < g):WSz (X.along f q ok w) (m + 1) g:=by
 refine ⟨fun p hp=>(along_sz h.1 hq p hp).mono (by omega),Nat.le_trans (along_len _ _ _ _) (by have:=h.2.1;omega),fun p hp=>?_⟩
 rcases along_mem p hp with e | ⟨p',h1,h2⟩
 · omega
 · have:=h.2.2 p' h1;omega
theorem share_sz {t:List NODE} (hs:TSz t 4) {a i:Nat} (ha:a < t.length) (hi:i < t.length):SzQ (cov t a / cov t i) 8:=(cov_sz hs ha).div (cov_sz hs hi)
theorem legsT_sz {t:List NODE} {row:List CELL} {T:TR} {g:Nat} (hs:TSz t 4) (h:Is t (g:Int) T):∀ {w:List AP} {m:Nat},WSz w m g → ∀ x ∈ legsT t row T w,WSz x.2.2 (m + T.deep) g ∧ SzQ x.2.1 4:=by
 induction T with
 | leaf i =>
  intro w m hw x hx
  simp only [legsT,List.mem_singleton] at hx
  subst hx
  refine ⟨⟨fun p hp=>(hw.1 p hp).mono (by simp only [TR.deep];omega),by have:=hw.2.1;simp only [TR.deep];omega,hw.2.2⟩,(hs.at h.1).2.1.szQ (by decide)⟩
 | split i l r ihl ihr =>
  intro w m hw x hx
  obtain ⟨h1,h2,f0,f1,h3,h4,h5,h6⟩:=h
  have hf:featT t i < g:=by rw [featT,nodeAt_get h1];omega
  simp only [legsT,List.mem_append] at hx
  rcases hx with hx | hx
  · have := ihl h5 (hw.along (ok := goL t row i) (share_sz hs h5.top_lt h1) hf) x hx
    refine ⟨⟨fun p hp=>(this.1.1 p hp).mono (by simp only [TR.deep];omega),by have:=this.1.2.1;simp only [TR.deep];omega,this.1.2.2⟩,this.2⟩
  · have := ihr h6 (hw.along (ok := !goL t row i) (share_sz hs h6.top_lt h1) hf) x hx
    refine ⟨⟨fun p hp=>(this.1.1 p hp).mono (by simp only [TR.deep];omega),by have:=this.1.2.1;simp only [TR.deep];omega,this.1.2.2⟩,this.2⟩
def lprod:List Rat → Rat
 | []=>1
 | x :: r=>x * lprod r
theorem lprod_append (a b:List Rat):lprod (a ++ b) = lprod a * lprod b:=by
 induction a with
 | nil=>simp [lprod,Rat.one_mul]
 | cons x a ih=>simp only [List.cons_append,lprod,ih,Rat.mul_assoc]
def facP (set:Nat) (p:AP):Rat:=if set.testBit p.1 then (if p.2.2 then 1 else 0) else p.2.1
def reachA (set:Nat) (w:List AP):Rat:=lprod (w.map (facP set))
theorem WSz.nil (f:Nat):WSz [] 0 f:=⟨fun p hp=>absurd hp (by simp),Nat.le_refl _,fun p hp=>absurd hp (by simp)⟩
def nodesT:TR → List Nat
 | .leaf i=>[i]
 | .split i l r=>i :: (nodesT l ++ nodesT r)
theorem nodesT_len (T:TR):(nodesT T).length = T.size:=by
 induction T with
 | leaf i=>rfl
 | split i l r ihl ihr=>simp only [nodesT,TR.size,List.length_cons,List.length_append,ihl,ihr];omega
theorem nodesT_lt {t:List NODE} {f:Int} {T:TR} (h:Is t f T):∀ j ∈ nodesT T,j < t.length:=by
 induction T with
 | leaf i=>intro j hj;simp [nodesT] at hj;subst hj;exact h.1
 | split i l r ihl ihr =>
  obtain ⟨h1,_,_,_,_,_,h2,h3⟩:=h
  intro j hj
  simp only [nodesT,List.mem_cons,List.mem_append] at hj
  rcases hj with rfl | hj | hj
  · exact h1
  · exact ihl h2 j hj
  · exact ihr h3 j hj
theorem Is.kids {t:List NODE} {f:Int} {i:Nat} {l r:TR} (h:Is t f (.split i l r)):kids t i = [l.top,r.top]:=by
 obtain ⟨h1,h2,_,_,h3,h4,_,_⟩:=h
 rw [kids_split h1 h2,h3,h4,Int.toNat_natCast,Int.toNat_natCast]
theorem nodesT_parent {t:List NODE} {f:Int} {T:TR} (h:Is t f T):∀ j ∈ nodesT T,j = T.top ∨ ∃ p ∈ nodesT T,j ∈ kids t p:=by
 induction T with
 | leaf i=>intro j hj;simp [nodesT] at hj;exact .inl hj
 | split i l r ihl ihr =>
  have hk:=h.kids
  obtain ⟨h1,_,_,_,_,_,h2,h3⟩:=h
  intro j hj
  simp only [nodesT,List.mem_cons,List.mem_append] at hj
  have hi:i ∈ nodesT (.split i l r):=by simp [nodesT]
  rcases hj with rfl | hj | hj
  · exact .inl rfl
  · refine .inr ?_
    rcases ihl h2 j hj with rfl | ⟨p,hp,hm⟩
    · exact ⟨i,hi,by rw [hk];simp⟩
    · exact ⟨p,by simp [nodesT,hp],hm⟩
  · refine .inr ?_
    rcases ihr h3 j hj with rfl | ⟨p,hp,hm⟩
    · exact ⟨i,hi,by rw [hk];simp⟩
    · exact ⟨p,by simp [nodesT,hp],hm⟩
theorem nodesT_rank {t:List NODE} {f:Int} {rk:Nat → Nat} (hrk:∀ i,i < t.length → rk i ≤ t.length ∧ ∀ c ∈ kids t i,rk c < rk i) {T:TR} (h:Is t f T):∀ j ∈ nodesT T,rk j ≤ rk T.top:=by
 induction T with
 | leaf i=>intro j hj;simp [nodesT] at hj;subst hj;exact Nat.le_refl _
 | split i l r ihl ihr =>
  have hk:=h.kids
  obtain ⟨h1,_,_,_,_,_,h2,h3⟩:=h
  have a:=(hrk i h1).2 l.top (by rw [hk];simp)
  have b:=(hrk i h1).2 r.top (by rw [hk];simp)
  intro j hj
  simp only [nodesT,List.mem_cons,List.mem_append] at hj
  show rk j ≤ rk i
  rcases hj with rfl | hj | hj
  · exact Nat.le_refl _
  · have:=ihl h2 j hj;omega
  · have:=ihr h3 j hj;omega
theorem flatMap_count {t:List NODE} {n j p p':Nat} (hp:p < n) (hp':p' < n) (hne:p ≠ p') (h:j ∈ kids t p) (h':j ∈ kids t p'):2 ≤ ((List.range n).flatMap (kids t)).count j:=by
 have key:∀ {a b n:Nat},a < b → b < n → j ∈ kids t a → j ∈ kids t b → 2 ≤ ((List.range n).flatMap (kids t)).count j:=by
   intro a b n hab hb ha hbm
   have e:List.range n = List.range b ++ (List.range (n - b)).map (· + b):=by
    have h1:n = b + (n - b):=by omega
    conv=>lhs;rw [h1,List.range_add]
    congr 1
    refine List.map_congr_left fun x _=>Nat.add_comm _ _
   rw [e,List.flatMap_append,List.count_append]
   have c1:0 < ((List.range b).flatMap (kids t)).count j:=List.count_pos_iff.2 (List.mem_flatMap.2 ⟨a,by simpa using hab,ha⟩)
   have c2:0 < (((List.range (n - b)).map (· + b)).flatMap (kids t)).count j:=List.count_pos_iff.2 (List.mem_flatMap.2 ⟨b,List.mem_map.2 ⟨0,by simp;omega,by simp⟩,hbm⟩)
   omega
 rcases Nat.lt_or_gt_of_ne hne with hlt | hlt
 · exact key hlt hp' h h'
 · exact key hlt hp h' h
theorem nodesT_nodup {t:List NODE} {f:Int} (hs:ShapeP t) {T:TR} (h:Is t f T):(nodesT T).Nodup:=by
 obtain ⟨hc,rk,hrk⟩:=hs
 have one:∀ j p p',p < t.length → p' < t.length → 0 < j → j < t.length → j ∈ kids t p → j ∈ kids t p' → p = p':=by
  intro j p p' hp hp' h0 hj hm hm'
  refine Classical.byContradiction fun hne=>?_
  have h1:=flatMap_count hp hp' hne hm hm'
  have h2:=hc j h0 hj
  rw [cnt] at h2
  omega
 induction T with
 | leaf i=>simp [nodesT]
 | split i l r ihl ihr =>
  have hk:=h.kids
  obtain ⟨h1,g1,g2,g3,g4,g5,h2,h3⟩:=h
  have ra:=(hrk i h1).2 l.top (by rw [hk];simp)
  have rb:=(hrk i h1).2 r.top (by rw [hk];simp)
  have nl:=nodesT_rank hrk h2
  have nr:=nodesT_rank hrk h3
  have top0:∀ j ∈ kids t i,0 < j → True:=fun _ _ _=>trivial
  refine List.nodup_cons.2 ⟨fun hm=>?_,List.nodup_append.2 ⟨ihl h2,ihr h3,?_⟩⟩
  · rcases List.mem_append.1 hm with hm | hm
    · have:=nl i hm;omega
    · have:=nr i hm;omega
  ·
    have key:∀ (d j:Nat),t.length - rk j ≤ d → j ∈ nodesT l → j ∈ nodesT r → False:=by
      intro d
      induction d with
      | zero =>
       intro j hd hl hr
       have:=nl j hl
       have:=(hrk i h1).1
       omega
      | succ d ih =>
       intro j hd hl hr
       have hjl:=nodesT_lt h2 j hl
       have par:∃ p p',p < t.length ∧ p' < t.length ∧ j ∈ kids t p ∧ j ∈ kids t p' ∧ ((p = i ∧ j = l.top) ∨ p ∈ nodesT l) ∧ ((p' = i ∧ j = r.top) ∨ p' ∈ nodesT r):=by
         have hk1:l.top ∈ kids t i:=by rw [hk];simp
         have hk2:r.top ∈ kids t i:=by rw [hk];simp
         rcases nodesT_parent h2 j hl with e | ⟨p,hp,hm⟩
         · rcases nodesT_parent h3 j hr with e' | ⟨p', hp', hm'⟩
           · exact ⟨i,i,h1,h1,by rw [e];exact hk1,by rw [e];exact hk1,.inl ⟨rfl,e⟩,.inl ⟨rfl,e'⟩⟩
           · exact ⟨i,p',h1,nodesT_lt h3 p' hp',by rw [e];exact hk1,hm',.inl ⟨rfl,e⟩,.inr hp'⟩
         · rcases nodesT_parent h3 j hr with e' | ⟨p', hp', hm'⟩
           · exact ⟨p,i,nodesT_lt h2 p hp,h1,hm,by rw [e'];exact hk2,.inr hp,.inl ⟨rfl,e'⟩⟩
           · exact ⟨p,p',nodesT_lt h2 p hp,nodesT_lt h3 p' hp',hm,hm',.inr hp,.inr hp'⟩
       obtain ⟨p,p',q1,q2,q3,q4,q5,q6⟩:=par
       by_cases h0:0 < j
       · have e := one j p p' q1 q2 h0 hjl q3 q4
         subst e
         rcases q5 with ⟨e1,e2⟩ | q5
         · rcases q6 with ⟨_, e3⟩ | q6
           ·
             have h5:=hc j h0 hjl
             rw [cnt] at h5
             have:((List.range t.length).flatMap (kids t)).count j ≥ (kids t i).count j:=by
               have hi:i ∈ List.range t.length:=by simpa using h1
               obtain ⟨a,b,eab⟩:=List.append_of_mem hi
               rw [eab,List.flatMap_append,List.flatMap_cons,List.count_append,List.count_append]
               omega
             rw [hk,← e2,← e3] at this
             simp at this
             omega
           · rw [e1] at q6
             have:=nr i q6;omega
         · rcases q6 with ⟨e1, _⟩ | q6
           · rw [e1] at q5
             have:=nl i q5;omega
           · have := (hrk p q1).2 j q3
             have:=(hrk p q1).1
             exact ih p (by omega) q5 q6
       ·
         have j0:j = 0:=by omega
         have nokid:∀ (d q:Nat),t.length - rk q ≤ d → q < t.length → j ∈ kids t q → False:=by
           intro d
           induction d with
           | zero =>
             intro q hd hq hm
             have:=(hrk q hq).2 j hm
             by_cases hq0:q = 0
             · rw [j0,hq0] at this;omega
             · obtain ⟨p, hp, hpm⟩ := has_parent hc (by omega) hq
               have a:=(hrk p hp).2 q hpm
               have b:=(hrk p hp).1
               omega
           | succ d ihd =>
             intro q hd hq hm
             have hlt:=(hrk q hq).2 j hm
             by_cases hq0:q = 0
             · rw [j0,hq0] at hlt;omega
             ·
               have up:∀ (d2 u:Nat),t.length - rk u ≤ d2 → u < t.length → rk q ≤ rk u → False:=by
                intro d2
                induction d2 with
                | zero =>
                 intro u hu hu2 hqu
                 by_cases hu0:u = 0
                 · rw [hu0] at hqu;rw [j0] at hlt;omega
                 · obtain ⟨p, hp, hpm⟩ := has_parent hc (by omega) hu2
                   have a:=(hrk p hp).2 u hpm
                   have b:=(hrk p hp).1
                   omega
                | succ d2 ihd2 =>
                 intro u hu hu2 hqu
                 by_cases hu0:u = 0
                 · rw [hu0] at hqu;rw [j0] at hlt;omega
                 · obtain ⟨p, hp, hpm⟩ := has_parent hc (by omega) hu2
                   have a:=(hrk p hp).2 u hpm
                   have b:=(hrk p hp).1
                   exact ihd2 p (by omega) hp (by omega)
               exact up _ q (Nat.le_refl _) hq (Nat.le_refl _)
         exact nokid _ p (Nat.le_refl _) q1 q3
    intro a ha b hb e
    subst e
    exact key _ a (Nat.le_refl _) ha hb
theorem tree_size {t:List NODE} {f:Int} (hs:ShapeP t) {T:TR} (h:Is t f T):T.size ≤ t.length:=by
 rw [← nodesT_len]
 exact nodup_len (nodesT_nodup hs h) (nodesT_lt h)
theorem TR.size_pos (T:TR):0 < T.size:=by cases T <;> simp [TR.size] <;> omega
theorem deep_half (T:TR):2 * T.deep ≤ T.size + 1:=by
 induction T with
 | leaf i=>simp [TR.deep,TR.size]
 | split i l r ihl ihr =>
  have:=l.size_pos
  have:=r.size_pos
  simp only [TR.deep,TR.size]
  omega
def SortA (w:List AP):Prop:=w.Pairwise fun a b=>a.1 < b.1
theorem along_sort {f:Nat} {q:Rat} {ok:Bool} {w:List AP} (h:SortA w):SortA (along f q ok w):=by
 induction w with
 | nil=>simp [along,SortA]
 | cons p w ih =>
  have h1:=List.pairwise_cons.1 h
  simp only [along]
  split
  · rename_i hp
    refine List.pairwise_cons.2 ⟨fun a ha=>?_,ih h1.2⟩
    rcases along_mem a ha with e | ⟨p',h3,h4⟩
    · omega
    · have:=h1.1 p' h3;omega
  · split
    · rename_i e
      exact List.pairwise_cons.2 ⟨fun a ha=>by have:=h1.1 a ha;show f < a.1;omega,h1.2⟩
    · refine List.pairwise_cons.2 ⟨fun a ha => ?_, h⟩
      show f < a.1
      rcases List.mem_cons.1 ha with rfl | ha
      · omega
      · have:=h1.1 a ha;omega
def flo (n:Nat) (o:Nat → Rat):List RAT:=(List.range n).map fun f=>canQ (o f)
theorem flo_len (n:Nat) (o:Nat → Rat):(flo n o).length = n:=by simp [flo]
theorem flo_get {n f:Nat} (o:Nat → Rat) (h:f < n):(flo n o)[f]? = some (canQ (o f)):=by simp [flo,h]
theorem flo_congr {n:Nat} {o p:Nat → Rat} (h:∀ f,f < n → o f = p f):flo n o = flo n p:=by
 rw [flo,flo]
 exact List.map_congr_left fun f hf=>by rw [h f (List.mem_range.1 hf)]
theorem flo_set {n i:Nat} {o p:Nat → Rat} {x:Rat} (hx:p i = x) (hp:∀ f,f ≠ i → p f = o f):(flo n o).set i (canQ x) = flo n p:=by
 apply List.ext_getElem?
 intro f
 rw [List.getElem?_set]
 by_cases hf:f < n
 · rw [flo_get _ hf, flo_get _ hf, flo_len]
   by_cases e:i = f
   · rw [if_pos e,if_pos (by omega),← e,hx]
   · rw [if_neg e,hp f (fun h=>e h.symm)]
 · have h1 : (flo n o)[f]? = none := List.getElem?_eq_none (by rw [flo_len]; omega)
   have h2:(flo n p)[f]? = none:=List.getElem?_eq_none (by rw [flo_len];omega)
   rw [h1,h2]
   split
   · rw [if_neg (by rw [flo_len];omega)]
   · rfl
theorem legs_sort {t:List NODE} {row:List CELL} (T:TR):∀ {w:List AP},SortA w → ∀ x ∈ legsT t row T w,SortA x.2.2:=by
 induction T with
 | leaf i=>intro w h x hx;simp only [legsT,List.mem_singleton] at hx;subst hx;exact h
 | split i l r ihl ihr =>
  intro w h x hx
  simp only [legsT,List.mem_append] at hx
  rcases hx with hx | hx
  · exact ihl (along_sort h) x hx
  · exact ihr (along_sort h) x hx
theorem lsum_zero {l:List Rat} (h:∀ x ∈ l,x = 0):lsum l = 0:=by
 induction l with
 | nil=>rfl
 | cons x l ih=>rw [lsum,h x List.mem_cons_self,ih fun y hy=>h y (List.mem_cons_of_mem _ hy),Rat.add_zero]
theorem rsum_zeros {f:Nat → Rat} {n:Nat} (h:∀ i,i < n → f i = 0):rsum f n = 0:=by
 induction n with
 | zero=>rfl
 | succ n ih=>rw [rsum,ih fun i hi=>h i (by omega),h n (by omega),Rat.add_zero]
theorem bit_add {S f:Nat} (h:S.testBit f = false):∀ j,(S + 2 ^ f).testBit j = (decide (j = f) || S.testBit j):=by
 induction f generalizing S with
 | zero =>
  intro j
  have h0:S % 2 = 0:=by rw [Nat.testBit_zero] at h;simpa using h
  cases j with
  | zero=>rw [Nat.testBit_zero];simp;omega
  | succ j =>
   rw [Nat.testBit_succ,Nat.testBit_succ,show (S + 2 ^ 0) / 2 = S / 2 by omega]
   simp
 | succ f ih =>
  intro j
  rw [Nat.testBit_succ] at h
  have e1:(S + 2 ^ (f + 1)) / 2 = S / 2 + 2 ^ f:=by rw [Nat.pow_succ];omega
  have e2:(S + 2 ^ (f + 1)) % 2 = S % 2:=by rw [Nat.pow_succ];omega
  cases j with
  | zero=>rw [Nat.testBit_zero,Nat.testBit_zero,e2];simp
  | succ j =>
   rw [Nat.testBit_succ,Nat.testBit_succ,e1,ih h]
   simp
theorem bit_add_lt {S f n:Nat} (h:S.testBit f = false) (hS:S < 2 ^ n) (hf:f < n):S + 2 ^ f < 2 ^ n:=by
 refine Nat.lt_pow_two_of_testBit _ fun i hi=>?_
 rw [bit_add h,decide_eq_false (by omega),Bool.false_or]
 exact Nat.testBit_lt_two_pow (Nat.lt_of_lt_of_le hS (Nat.pow_le_pow_right (by decide) hi))
def popc:Nat → Nat → Nat
 | 0,_=>0
 | n + 1,S=>popc n S + (if S.testBit n then 1 else 0)
theorem popc_congr {n S S':Nat} (h:∀ j,j < n → S.testBit j = S'.testBit j):popc n S = popc n S':=by
 induction n with
 | zero=>rfl
 | succ n ih=>rw [popc,popc,ih fun j hj=>h j (by omega),h n (by omega)]
theorem rsum_split (f:Nat → Rat) (a b:Nat):rsum f (a + b) = rsum f a + rsum (fun i=>f (i + a)) b:=by
 induction b with
 | zero=>simp [rsum,Rat.add_zero]
 | succ b ih=>rw [← Nat.add_assoc,rsum,ih,rsum,Rat.add_assoc,Nat.add_comm a b]
theorem rprod_congr {f g:Nat → Rat} {n:Nat} (h:∀ i,i < n → f i = g i):rprod f n = rprod g n:=by
 induction n with
 | zero=>rfl
 | succ n ih=>rw [rprod,rprod,ih fun i hi=>h i (by omega),h n (by omega)]
abbrev BA:=Rat × Rat
def pick (x:BA) (b:Bool):Rat:=if b then x.2 else x.1
def EE:List BA → (Nat → Rat) → Rat
 | [],c=>c 0
 | x :: L,c=>x.1 * EE L c + x.2 * EE L fun k=>c (k + 1)
theorem EE_congr {L:List BA}:∀ {c d:Nat → Rat},(∀ k,k ≤ L.length → c k = d k) → EE L c = EE L d:=by
 induction L with
 | nil=>intro c d h;exact h 0 (Nat.le_refl _)
 | cons x L ih =>
  intro c d h
  rw [EE,EE,ih fun k hk=>h k (by simp only [List.length_cons];omega),ih fun k hk=>h (k + 1) (by simp only [List.length_cons];omega)]
theorem EE_add {L:List BA}:∀ {c d:Nat → Rat},EE L (fun k=>c k + d k) = EE L c + EE L d:=by
 induction L with
 | nil=>intro c d;rfl
 | cons x L ih=>intro c d;rw [EE,EE,EE,ih,ih];grind
theorem EE_mul {L:List BA}:∀ {c:Nat → Rat} {q:Rat},EE L (fun k=>q * c k) = q * EE L c:=by
 induction L with
 | nil=>intro c q;rfl
 | cons x L ih=>intro c q;rw [EE,EE,ih,ih];grind
theorem EE_perm {L M:List BA} (h:L.Perm M):∀ c,EE L c = EE M c:=by
 induction h with
 | nil=>intro c;rfl
 | cons x _ ih=>intro c;rw [EE,EE,ih,ih]
 | swap x y L=>intro c;simp only [EE];grind
 | trans _ _ ih1 ih2=>intro c;rw [ih1,ih2]
theorem EE_out {L:List BA} {x:BA}:∀ c,EE (x :: L) c = EE (L ++ [x]) c:=fun c=>EE_perm (by
 have:=(List.perm_append_comm (l₁:=[x]) (l₂:=L));simpa using this) c
theorem EE_one (L:List BA) (c:Nat → Rat):EE ((1,1) :: L) c = EE L fun k=>c k + c (k + 1):=by
 rw [EE,EE_add];grind
theorem EE_off (L:List BA) (c:Nat → Rat):EE ((1,0) :: L) c = EE L c:=by rw [EE];grind
theorem sets_sum (g:Nat → BA) (n:Nat):∀ c:Nat → Rat,rsum (fun S=>c (popc n S) * rprod (fun j=>pick (g j) (S.testBit j)) n) (2 ^ n) = EE ((List.range n).map g) c:=by
 induction n with
 | zero=>intro c;simp [rsum,popc,rprod,EE,Rat.mul_one,Rat.zero_add]
 | succ n ih =>
  intro c
  have hb:∀ S,S < 2 ^ n → S.testBit n = false:=fun S hS=>Nat.testBit_lt_two_pow hS
  have e1:rsum (fun S=>c (popc (n + 1) S) * rprod (fun j=>pick (g j) (S.testBit j)) (n + 1)) (2 ^ n) = (g n).1 * rsum (fun S=>c (popc n S) * rprod (fun j=>pick (g j) (S.testBit j)) n) (2 ^ n):=by
   rw [Rat.mul_comm (g n).1,← rsum_mul]
   refine rsum_congr fun S hS=>?_
   rw [popc,rprod,hb S hS,if_neg (by decide),Nat.add_zero,pick,if_neg (by decide)];grind
  have e2:rsum (fun S=>c (popc (n + 1) (S + 2 ^ n)) * rprod (fun j=>pick (g j) ((S + 2 ^ n).testBit j)) (n + 1)) (2 ^ n) = (g n).2 * rsum (fun S=>c (popc n S + 1) * rprod (fun j=>pick (g j) (S.testBit j)) n) (2 ^ n):=by
   rw [Rat.mul_comm (g n).2,← rsum_mul]
   refine rsum_congr fun S hS=>?_
   have hj:=bit_add (hb S hS)
   have hp:popc n (S + 2 ^ n) = popc n S:=popc_congr fun j hj'=>by rw [hj j,decide_eq_false (by omega),Bool.false_or]
   have hr:rprod (fun j=>pick (g j) ((S + 2 ^ n).testBit j)) n = rprod (fun j=>pick (g j) (S.testBit j)) n:=rprod_congr fun j hj'=>by rw [hj j,decide_eq_false (by omega),Bool.false_or]
   rw [popc,rprod,hp,hr,hj n,decide_eq_true rfl,Bool.true_or,if_pos rfl,pick,if_pos rfl];grind
  rw [Nat.pow_succ,Nat.mul_two,rsum_split,e1,e2,ih c,ih fun k=>c (k + 1),List.range_succ,List.map_append]
  show _ = EE (_ ++ [g n]) c
  rw [← EE_out,EE]
theorem wq_add {k n:Nat} (h:k < n):wq k (n + 1) + wq (k + 1) (n + 1) = wq k n:=by
 unfold wq quo
 have e1:n + 1 - k - 1 = (n - k - 1) + 1:=by omega
 have e2:n + 1 - (k + 1) - 1 = n - k - 1:=by omega
 rw [e1,e2]
 obtain ⟨j,hj⟩:∃ j,j = n - k - 1:=⟨_,rfl⟩
 rw [← hj]
 have hn:((n:Nat):Rat) = (j:Rat) + (k:Rat) + 1:=by
  have:n = j + k + 1:=by omega
  rw [this];push_cast;rfl
 have f1:((fac (j + 1):Nat):Rat) = ((j:Rat) + 1) * ((fac j:Nat):Rat):=by rw [fac];push_cast;rfl
 have f2:((fac (k + 1):Nat):Rat) = ((k:Rat) + 1) * ((fac k:Nat):Rat):=by rw [fac];push_cast;rfl
 have f3:((fac (n + 1):Nat):Rat) = ((n:Rat) + 1) * ((fac n:Nat):Rat):=by rw [fac];push_cast;rfl
 have p1:((fac n:Nat):Rat) ≠ 0:=by
  have:=fac_pos n
  intro e
  have:(fac n:Nat) = 0:=by exact_mod_cast e
  omega
 have p2:(n:Rat) + 1 ≠ 0:=by
  intro e
  have:((n + 1:Nat):Rat) = 0:=by push_cast;exact e
  have:(n + 1:Nat) = 0:=by exact_mod_cast this
  omega
 rw [f1,f2,f3]
 obtain ⟨a,ha⟩:∃ a,a = ((fac k:Nat):Rat):=⟨_,rfl⟩
 obtain ⟨b,hb⟩:∃ b,b = ((fac j:Nat):Rat):=⟨_,rfl⟩
 obtain ⟨d,hd⟩:∃ d,d = ((fac n:Nat):Rat):=⟨_,rfl⟩
 obtain ⟨x,hx⟩:∃ x,x = (j:Rat):=⟨_,rfl⟩
 obtain ⟨y,hy⟩:∃ y,y = (k:Rat):=⟨_,rfl⟩
 rw [← hd] at p1 ⊢
 rw [hn,← hx,← hy] at p2
 rw [hn,← ha,← hb,← hx,← hy]
 grind
theorem EE_dummy (L:List BA) (d:Nat):EE (List.replicate d (1,1) ++ L) (fun k=>wq k (L.length + 1 + d)) = EE L fun k=>wq k (L.length + 1):=by
 induction d with
 | zero=>rfl
 | succ d ih =>
  rw [List.replicate_succ,List.cons_append,EE_one,← ih]
  refine EE_congr fun k hk=>?_
  simp only [List.length_append,List.length_replicate] at hk
  exact wq_add (k:=k) (n:=L.length + 1 + d) (by omega)
def shapT (v:Nat → Rat) (n f S:Nat):Rat:=if S.testBit f then 0 else wq (popc n S) n * (v (S + 2 ^ f) - v S)
def shapQ (v:Nat → Rat) (n f:Nat):Rat:=rsum (shapT v n f) (2 ^ n)
theorem shapQ_congr {v w:Nat → Rat} {n f:Nat} (hf:f < n) (h:∀ S,S < 2 ^ n → v S = w S):shapQ v n f = shapQ w n f:=by
 refine rsum_congr fun S hS=>?_
 unfold shapT
 cases hb:S.testBit f with
 | true=>rfl
 | false=>rw [if_neg (by decide),if_neg (by decide),h S hS,h _ (bit_add_lt hb hS hf)]
theorem rsum_addF (f g:Nat → Rat) (n:Nat):rsum (fun i=>f i + g i) n = rsum f n + rsum g n:=by
 induction n with
 | zero=>simp [rsum,Rat.add_zero]
 | succ n ih=>rw [rsum,rsum,rsum,ih];grind
theorem shapQ_mul (v:Nat → Rat) (n f:Nat) (q:Rat):shapQ (fun S=>v S * q) n f = shapQ v n f * q:=by
 unfold shapQ
 rw [← rsum_mul]
 refine rsum_congr fun S _=>?_
 unfold shapT
 split
 · rw [Rat.zero_mul]
 · grind
abbrev FP:=Nat × BA
def lkG:List FP → Nat → BA
 | [],_=>(1,1)
 | p :: P,j=>if p.1 = j then p.2 else lkG P j
theorem lkG_out {P:List FP} {j:Nat} (h:j ∉ P.map (·.1)):lkG P j = (1,1):=by
 induction P with
 | nil=>rfl
 | cons p P ih =>
  simp only [List.map_cons,List.mem_cons,not_or] at h
  rw [lkG,if_neg (fun e=>h.1 e.symm),ih h.2]
theorem lkG_map {P:List FP} (hnd:(P.map (·.1)).Nodup):(P.map (·.1)).map (lkG P) = P.map (·.2):=by
 induction P with
 | nil=>rfl
 | cons p P ih =>
  have h:=List.nodup_cons.1 hnd
  have ih:=ih h.2
  simp only [List.map_cons,lkG,if_true,List.cons.injEq,true_and]
  rw [← ih]
  refine List.map_congr_left fun j hj=>?_
  exact if_neg (fun e=>h.1 (by subst e;exact hj))
theorem range_perm {n:Nat} {F:List Nat} (hnd:F.Nodup) (hlt:∀ j ∈ F,j < n):∃ R:List Nat,(List.range n).Perm (F ++ R) ∧ ∀ j ∈ R,j ∉ F:=by
 refine ⟨(List.range n).filter fun j=>!F.contains j,?_,fun j hj=>by simpa using (List.mem_filter.1 hj).2⟩
 refine (List.perm_ext_iff_of_nodup List.nodup_range ?_).2 fun a=>?_
 · refine List.nodup_append.2 ⟨hnd, List.Nodup.sublist List.filter_sublist List.nodup_range, fun a ha b hb e => ?_⟩
   subst e
   have:=(List.mem_filter.1 hb).2
   simp at this
   exact this ha
 · simp only [List.mem_append, List.mem_filter, List.mem_range]
   constructor
   · intro h
     by_cases ha:a ∈ F
     · exact .inl ha
     · exact .inr ⟨h,by simpa using ha⟩
   · rintro (h | h)
     · exact hlt a h
     · exact h.1
theorem lprod_perm {a b:List Rat} (h:a.Perm b):lprod a = lprod b:=by
 induction h with
 | nil=>rfl
 | cons x _ ih=>rw [lprod,lprod,ih]
 | swap x y l=>simp only [lprod];grind
 | trans _ _ h1 h2=>rw [h1,h2]
theorem rprod_range (h:Nat → Rat) (n:Nat):rprod h n = lprod ((List.range n).map h):=by
 induction n with
 | zero=>rfl
 | succ n ih=>rw [rprod,ih,List.range_succ,List.map_append,lprod_append];simp [lprod,Rat.mul_one]
theorem lprod_ones {l:List Rat} (h:∀ x ∈ l,x = 1):lprod l = 1:=by
 induction l with
 | nil=>rfl
 | cons x l ih=>rw [lprod,h x List.mem_cons_self,ih fun y hy=>h y (List.mem_cons_of_mem _ hy),Rat.mul_one]
def prodP (P:List FP) (S:Nat):Rat:=lprod (P.map fun p=>pick p.2 (S.testBit p.1))
theorem shap_prod {n f:Nat} {x:BA} {P:List FP} (hf:f < n) (hnd:(P.map (·.1)).Nodup) (hlt:∀ p ∈ P,p.1 < n) (hnf:f ∉ P.map (·.1)) :
  shapQ (fun S=>pick x (S.testBit f) * prodP P S) n f = (x.2 - x.1) * EE (P.map (·.2)) fun k=>wq k (P.length + 1):=by
 obtain ⟨R,hR,hRF⟩:=range_perm (n:=n) (F:=f :: P.map (·.1)) (List.nodup_cons.2 ⟨hnf,hnd⟩) (fun j hj=>by
  rcases List.mem_cons.1 hj with rfl | hj
  · exact hf
  · obtain ⟨p,hp,rfl⟩:=List.mem_map.1 hj;exact hlt p hp)
 obtain ⟨g,hg⟩:∃ g:Nat → BA,g = fun j=>if j = f then (1,0) else lkG P j:=⟨_,rfl⟩
 have gf:g f = (1,0):=by rw [hg];exact if_pos rfl
 have gP:(P.map (·.1)).map g = P.map (·.2):=by
  rw [← lkG_map hnd]
  refine List.map_congr_left fun j hj=>?_
  rw [hg]
  exact if_neg fun e=>hnf (by rw [← e];exact hj)
 have gR:∀ j ∈ R,g j = (1,1):=fun j hj=>by
  have:=hRF j hj
  simp only [List.mem_cons,not_or] at this
  rw [hg]
  show (if j = f then _ else _) = _
  rw [if_neg this.1,lkG_out this.2]
 have hlen:n = P.length + 1 + R.length:=by
  have:=hR.length_eq
  simp only [List.length_range,List.length_append,List.length_cons,List.length_map] at this
  omega
 have hprod:∀ S,rprod (fun j=>pick (g j) (S.testBit j)) n = if S.testBit f then 0 else prodP P S:=fun S=>by
  rw [rprod_range,lprod_perm (hR.map _),List.map_append,lprod_append,List.map_cons,lprod,gf,lprod_ones (l:=R.map _) (fun y hy=>by
    obtain ⟨j,hj,rfl⟩:=List.mem_map.1 hy
    rw [gR j hj];unfold pick;split <;> rfl)]
  have e:((P.map (·.1)).map fun j=>pick (g j) (S.testBit j)) = P.map fun p=>pick p.2 (S.testBit p.1):=by
    rw [List.map_map]
    refine List.map_congr_left fun p hp=>?_
    show pick (g p.1) _ = _
    have:g p.1 = p.2:=by
     obtain ⟨i,hi,rfl⟩:=List.mem_iff_getElem.1 hp
     have:=congrArg (fun l=>l[i]?) gP
     simp only [List.getElem?_map,List.getElem?_eq_getElem hi,Option.map_some,Option.some.injEq] at this
     exact this
    rw [this]
  rw [e]
  unfold pick prodP
  split
  · simp [Rat.zero_mul]
  · simp [Rat.one_mul,Rat.mul_one];rfl
 have hsum:shapQ (fun S=>pick x (S.testBit f) * prodP P S) n f = (x.2 - x.1) * rsum (fun S=>wq (popc n S) n * rprod (fun j=>pick (g j) (S.testBit j)) n) (2 ^ n):=by
  unfold shapQ
  rw [Rat.mul_comm,← rsum_mul]
  refine rsum_congr fun S hS=>?_
  rw [hprod]
  unfold shapT
  cases hb:S.testBit f with
  | true=>simp [Rat.mul_zero,Rat.zero_mul]
  | false =>
    have hb':=bit_add hb
    have e1:prodP P (S + 2 ^ f) = prodP P S:=by
     unfold prodP
     congr 1
     refine List.map_congr_left fun p hp=>?_
     rw [hb' p.1,decide_eq_false (fun e=>hnf (List.mem_map.2 ⟨p,hp,e⟩)),Bool.false_or]
    dsimp only
    rw [if_neg (by decide),if_neg (by decide),e1,hb' f,decide_eq_true rfl,Bool.true_or]
    simp only [pick,if_true,Bool.false_eq_true,if_false]
    grind
 have hss:=sets_sum g n fun k=>wq k n
 rw [hsum,hss]
 congr 1
 have hp2:((List.range n).map g).Perm ((1,0) :: (List.replicate R.length (1,1) ++ P.map (·.2))):=by
  refine (hR.map g).trans ?_
  rw [List.map_append,List.map_cons,gf,gP,List.cons_append]
  have:R.map g = List.replicate R.length (1,1):=by
    rw [List.eq_replicate_iff]
    exact ⟨by simp,fun y hy=>by obtain ⟨j,hj,rfl⟩:=List.mem_map.1 hy;exact gR j hj⟩
  rw [this]
  exact List.Perm.cons _ List.perm_append_comm
 rw [EE_perm hp2,EE_off]
 have:=EE_dummy (P.map (·.2)) R.length
 rw [List.length_map] at this
 rw [← this,← hlen]
theorem shap_none {n f:Nat} {P:List FP} (hnf:f ∉ P.map (·.1)):shapQ (prodP P) n f = 0:=by
 unfold shapQ
 refine rsum_zeros fun S _=>?_
 unfold shapT
 cases hb:S.testBit f with
 | true=>rfl
 | false =>
  have e1:prodP P (S + 2 ^ f) = prodP P S:=by
   unfold prodP
   congr 1
   refine List.map_congr_left fun p hp=>?_
   rw [bit_add hb p.1,decide_eq_false (fun e=>hnf (List.mem_map.2 ⟨p,hp,e⟩)),Bool.false_or]
  rw [if_neg (by decide),e1];grind
def one0 (b:Bool):Rat:=if b then 1 else 0
def mulF (x:BA) (P:Nat → Rat) (k:Nat):Rat:=x.1 * P k + (if k = 0 then 0 else x.2 * P (k - 1))
def polF:List BA → Nat → Rat
 | []=>fun k=>if k = 0 then 1 else 0
 | x :: L=>mulF x (polF L)
theorem polF_EE (L:List BA):∀ k,polF L k = EE L fun j=>if j = k then 1 else 0:=by
 induction L with
 | nil => intro k; show (if k = 0 then (1 : Rat) else 0) = if 0 = k then 1 else 0
          by_cases h:k = 0
          · subst h;rfl
          · rw [if_neg h,if_neg (fun e=>h e.symm)]
 | cons x L ih =>
  intro k
  show mulF x (polF L) k = _
  rw [mulF,EE,ih]
  congr 1
  by_cases h:k = 0
  · subst h
    rw [if_pos rfl]
    have:EE L (fun j=>if j + 1 = 0 then (1:Rat) else 0) = EE L fun j=>0 * 0:=EE_congr fun j _=>by rw [if_neg (by omega),Rat.mul_zero]
    rw [this,EE_mul,Rat.zero_mul,Rat.mul_zero]
  · rw [if_neg h, ih]
    congr 1
    refine EE_congr fun j _=>?_
    by_cases e:j = k - 1
    · rw [if_pos e,if_pos (by omega)]
    · rw [if_neg e,if_neg (by omega)]
theorem polF_out (L:List BA):∀ k,L.length + 1 ≤ k → polF L k = 0:=by
 induction L with
 | nil=>intro k h;exact if_neg (by simp at h;omega)
 | cons x L ih =>
  intro k h
  simp only [List.length_cons] at h
  show mulF x (polF L) k = 0
  rw [mulF,ih k (by omega),if_neg (by omega),ih (k - 1) (by omega),Rat.mul_zero,Rat.mul_zero,Rat.add_zero]
theorem polF_perm {L M:List BA} (h:L.Perm M):polF L = polF M:=by
 funext k;rw [polF_EE,polF_EE];exact EE_perm h _
theorem rsum_shift (f:Nat → Rat) (n:Nat):rsum f (n + 1) = f 0 + rsum (fun i=>f (i + 1)) n:=by
 induction n with
 | zero=>simp [rsum,Rat.add_zero,Rat.zero_add]
 | succ n ih=>rw [rsum,ih,rsum,Rat.add_assoc]
theorem rsum_ext {f:Nat → Rat} {n m:Nat} (h:∀ i,n ≤ i → f i = 0) (hm:n ≤ m):rsum f m = rsum f n:=by
 induction m with
 | zero => have : n = 0 := by omega
           subst this;rfl
 | succ m ih =>
  by_cases e:n = m + 1
  · rw [e]
  · rw [rsum,h m (by omega),ih (by omega),Rat.add_zero]
theorem EE_rsum (L:List BA):∀ c,EE L c = rsum (fun j=>polF L j * c j) (L.length + 1):=by
 induction L with
 | nil=>intro c;show c 0 = 0 + 1 * c 0;rw [Rat.one_mul,Rat.zero_add]
 | cons x L ih =>
  intro c
  have e1:rsum (fun j=>polF (x :: L) j * c j) ((x :: L).length + 1) = x.1 * rsum (fun j=>polF L j * c j) (L.length + 1) + x.2 * rsum (fun j=>polF L j * c (j + 1)) (L.length + 1):=by
   have a:∀ j,polF (x :: L) j * c j = (polF L j * c j) * x.1 + (if j = 0 then 0 else polF L (j - 1) * c j) * x.2:=fun j=>by
    show mulF x (polF L) j * c j = _
    rw [mulF]
    split <;> grind
   have b:rsum (fun j=>polF (x :: L) j * c j) (L.length + 2) = rsum (fun j=>(polF L j * c j) * x.1 + (if j = 0 then 0 else polF L (j - 1) * c j) * x.2) (L.length + 2):=rsum_congr fun j _=>a j
   show rsum _ (L.length + 2) = _
   rw [b,rsum_addF,rsum_mul,rsum_mul]
   have e2:rsum (fun j=>polF L j * c j) (L.length + 2) = rsum (fun j=>polF L j * c j) (L.length + 1):=rsum_ext (fun j hj=>by rw [polF_out L j hj,Rat.zero_mul]) (by omega)
   have e3:rsum (fun j=>if j = 0 then 0 else polF L (j - 1) * c j) (L.length + 2) = rsum (fun j=>polF L j * c (j + 1)) (L.length + 1):=by
    rw [rsum_shift,if_pos rfl,Rat.zero_add]
    exact rsum_congr fun j _=>by rw [if_neg (by omega),Nat.add_sub_cancel]
   rw [e2,e3];grind
  rw [e1,EE,ih,ih]
theorem natQ_ne {n:Nat} (h:0 < n):((n:Nat):Rat) ≠ 0:=by
 intro e
 have:(n:Nat) = 0:=by exact_mod_cast e
 omega
theorem wq_stay {i n:Nat} (h:i < n):wq i (n + 1) = wq i n * (((n - i:Nat):Rat) / ((n + 1:Nat):Rat)):=by
 obtain ⟨j,rfl⟩:∃ j,n = i + j + 1:=⟨n - i - 1,by omega⟩
 have e1:i + j + 1 + 1 - i - 1 = j + 1:=by omega
 have e2:i + j + 1 - i - 1 = j:=by omega
 have e3:i + j + 1 - i = j + 1:=by omega
 have a1:((fac (j + 1):Nat):Rat) = ((j + 1:Nat):Rat) * ((fac j:Nat):Rat):=by rw [fac];push_cast;rfl
 have a2:((fac (i + j + 1 + 1):Nat):Rat) = ((i + j + 1 + 1:Nat):Rat) * ((fac (i + j + 1):Nat):Rat):=by rw [fac];push_cast;rfl
 have n1:=natQ_ne (fac_pos (i + j + 1))
 have n2:=natQ_ne (show 0 < i + j + 1 + 1 by omega)
 simp only [wq,quo]
 rw [e1,e2,e3,a1,a2]
 generalize ((fac i:Nat):Rat) = x
 generalize ((fac j:Nat):Rat) = y
 generalize ((fac (i + j + 1):Nat):Rat) = z at *
 generalize ((j + 1:Nat):Rat) = u
 generalize ((i + j + 1 + 1:Nat):Rat) = v at *
 rw [Rat.div_def,Rat.div_def,Rat.div_def,Rat.inv_mul_rev]
 grind
theorem wq_join {i n:Nat} (h:i < n):wq (i + 1) (n + 1) = wq i n * (((i + 1:Nat):Rat) / ((n + 1:Nat):Rat)):=by
 obtain ⟨j,rfl⟩:∃ j,n = i + j + 1:=⟨n - i - 1,by omega⟩
 have e1:i + j + 1 + 1 - (i + 1) - 1 = j:=by omega
 have e2:i + j + 1 - i - 1 = j:=by omega
 have a1:((fac (i + 1):Nat):Rat) = ((i + 1:Nat):Rat) * ((fac i:Nat):Rat):=by rw [fac];push_cast;rfl
 have a2:((fac (i + j + 1 + 1):Nat):Rat) = ((i + j + 1 + 1:Nat):Rat) * ((fac (i + j + 1):Nat):Rat):=by rw [fac];push_cast;rfl
 simp only [wq,quo]
 rw [e1,e2,a1,a2]
 generalize ((fac i:Nat):Rat) = x
 generalize ((fac j:Nat):Rat) = y
 generalize ((fac (i + j + 1):Nat):Rat) = z at *
 generalize ((i + 1:Nat):Rat) = u
 generalize ((i + j + 1 + 1:Nat):Rat) = v at *
 rw [Rat.div_def,Rat.div_def,Rat.div_def,Rat.inv_mul_rev]
 grind
def fcP (p:AP):BA:=(p.2.1,one0 p.2.2)
def ekP (P:List AP):Nat → Rat:=polF (P.map fcP)
def wtP (P:List AP) (k:Nat):Rat:=wq k (P.length + 1) * ekP P k
theorem ekP_perm {P Q:List AP} (h:P.Perm Q):ekP P = ekP Q:=polF_perm (h.map fcP)
theorem ekP_snoc (P:List AP) (p:AP):ekP (P ++ [p]) = mulF (fcP p) (ekP P):=by
 have:(P ++ [p]).Perm (p :: P):=List.perm_append_comm.trans (List.Perm.refl _)
 rw [ekP_perm this];rfl
theorem ekP_out (P:List AP) {k:Nat} (h:P.length < k):ekP P k = 0:=polF_out _ k (by simp;omega)
theorem wtP_nil:wtP [] 0 = 1:=by
 show wq 0 1 * 1 = 1
 rw [Rat.mul_one];decide +kernel
abbrev LK:=Int × RAT × CELL
def lkF (P:List AP) (w:Nat → Rat) (i:Nat):LK :=
 if i = 0 then (-1,canQ 1,true,canQ (w 0)) else
  let p:=(P[i - 1]?).getD (0,0,false)
  ((p.1:Int),canQ p.2.1,p.2.2,canQ (w i))
def encK (P:List AP) (w:Nat → Rat):List LK:=(List.range (P.length + 1)).map (lkF P w)
theorem encK_len (P:List AP) (w:Nat → Rat):(encK P w).length = P.length + 1:=by simp [encK]
theorem encK_get {P:List AP} {w:Nat → Rat} {i:Nat} (h:i < P.length + 1):(encK P w)[i]? = some (lkF P w i):=by simp [encK,h]
theorem encK_congr {P:List AP} {w w':Nat → Rat} (h:∀ i,i ≤ P.length → w i = w' i):encK P w = encK P w':=by
 refine List.map_congr_left fun i hi=>?_
 have hi:=List.mem_range.1 hi
 unfold lkF
 split
 · rename_i e;subst e;rw [h 0 (by omega)]
 · rw [h i (by omega)]
theorem lkF_w (P:List AP) (w:Nat → Rat) (i:Nat):(lkF P w i).2.2.2 = canQ (w i):=by
 unfold lkF;split
 · rename_i e;subst e;rfl
 · rfl
theorem lkF_upd (P:List AP) (w:Nat → Rat) (i:Nat) (q:Rat):((lkF P w i).1,(lkF P w i).2.1,(lkF P w i).2.2.1,canQ q) = lkF P (fun j=>if j = i then q else w j) i:=by
 unfold lkF
 split
 · rename_i e;subst e;simp
 · simp
theorem encK_set {P:List AP} {w:Nat → Rat} {i:Nat} (q:Rat):(encK P w).set i ((lkF P w i).1,(lkF P w i).2.1,(lkF P w i).2.2.1,canQ q) = encK P fun j=>if j = i then q else w j:=by
 rw [lkF_upd]
 refine List.ext_getElem? fun j=>?_
 rw [List.getElem?_set]
 by_cases e:i = j
 · subst e
   rw [if_pos rfl]
   by_cases hi:i < P.length + 1
   · rw [if_pos (by rw [encK_len];exact hi),encK_get hi]
   · rw [if_neg (by rw [encK_len];exact hi),List.getElem?_eq_none (by rw [encK_len];omega)]
 · rw [if_neg e]
   by_cases hj:j < P.length + 1
   · rw [encK_get hj, encK_get hj]
     have:(if j = i then q else w j) = w j:=if_neg fun h=>e h.symm
     unfold lkF
     split
     · rename_i e0;subst e0;simp only [this]
     · simp only [this]
   · rw [List.getElem?_eq_none (by rw [encK_len];omega),List.getElem?_eq_none (by rw [encK_len];omega)]
theorem lkF_part {P:List AP} {w:Nat → Rat} {i:Nat} (h:i < P.length):lkF P w (i + 1) = ((P[i].1:Int),canQ P[i].2.1,P[i].2.2,canQ (w (i + 1))):=by
 simp [lkF,List.getElem?_eq_getElem h]
theorem encK_snoc (P:List AP) (w:Nat → Rat) (p:AP) (q:Rat):encK P w ++ [((p.1:Int),canQ p.2.1,p.2.2,canQ q)] = encK (P ++ [p]) fun j=>if j = P.length + 1 then q else w j:=by
 have e:encK (P ++ [p]) (fun j=>if j = P.length + 1 then q else w j) = (List.range (P.length + 1)).map (lkF (P ++ [p]) fun j=>if j = P.length + 1 then q else w j) ++ [lkF (P ++ [p]) (fun j=>if j = P.length + 1 then q else w j) (P.length + 1)]:=by
   unfold encK
   rw [List.length_append,List.length_singleton,List.range_succ,List.map_append];rfl
 rw [e]
 congr 1
 · refine List.map_congr_left fun i hi => ?_
   have hi:=List.mem_range.1 hi
   unfold lkF
   split
   · rename_i e;subst e;simp
   · have : ¬ i = P.length + 1 := by omega
     rw [List.getElem?_append_left (by omega)]
     simp only [if_neg this]
 · simp [lkF]
structure PathP (P:List AP) (k g:Nat):Prop where
 nd:(P.map (·.1)).Nodup
 sz:ASz P k
 len:P.length ≤ 20
 lt:∀ p ∈ P,p.1 < g
 pos:∀ p ∈ P,0 < p.2.1
theorem New15_ok:pathshap_New = some (encK [] (wtP [])):=by
 rw [pathshap_New,ratio_One_ok,Option.bind_some,Option.bind_some]
 show some [_] = some [lkF [] (wtP []) 0]
 simp only [lkF,if_true,wtP_nil]
theorem Find_at {P:List AP} {w:Nat → Rat} {f i:Nat} (hi:i < P.length) (he:P[i].1 = f) (hn:∀ j (hj:j < P.length),j < i → P[j].1 ≠ f) (hl:P.length ≤ 1000000):pathshap_Path_Find (f:Int) (encK P w) = some (((i + 1:Nat):Int),encK P w):=by
 have el:=encK_len P w
 have key:=lp_up (step:=pathshap_Path_Find_s4) (fun k=>(((f:Int),((P.length + 1:Nat):Int),(k:Int),()),((encK P w,()),()))) (i + 1) (r:=.inr ((((i + 1:Nat):Int),()),((encK P w,()),()))) (by omega) (by
  intro g k hk
  have d0:(k:Int) < ((P.length + 1:Nat):Int):=by omega
  have d1:(0:Int) ≤ (k:Int):=by omega
  have d2:(k:Int) < ((encK P w).length:Int):=by omega
  rw [pathshap_Path_Find_s4,cnd d0,cnd2 d1 d2,Int.toNat_natCast,encK_get (by omega),Option.bind_some]
  cases k with
  | zero=>rw [cnd' (by omega),iadd1 (by omega)];rfl
  | succ k =>
   have hne:¬ (lkF P w (k + 1)).1 = (f:Int):=by
    rw [lkF_part (by omega)]
    have:=hn k (by omega) (by omega)
    show ¬ ((P[k].1:Nat):Int) = _
    omega
   rw [cnd (by omega),cnd' hne,iadd1 (by omega)];rfl) (by
  intro g
  have d0:((i + 1:Nat):Int) < ((P.length + 1:Nat):Int):=by omega
  have d1:(0:Int) ≤ ((i + 1:Nat):Int):=by omega
  have d2:((i + 1:Nat):Int) < ((encK P w).length:Int):=by omega
  have he':(lkF P w (i + 1)).1 = (f:Int):=by rw [lkF_part hi];show ((P[i].1:Nat):Int) = _;omega
  rw [pathshap_Path_Find_s4,cnd d0,cnd2 d1 d2,Int.toNat_natCast,encK_get (by omega),Option.bind_some,cnd (by omega),cnd he'])
 have key:lp pathshap_Path_Find_s4 K0 (((f:Int),((P.length + 1:Nat):Int),0,()),((encK P w,()),())) = _:=key
 rw [pathshap_Path_Find,el,key];rfl
theorem Find_not {P:List AP} {w:Nat → Rat} {f:Nat} (hn:∀ p ∈ P,p.1 ≠ f) (hl:P.length ≤ 1000000):pathshap_Path_Find (f:Int) (encK P w) = some (0,encK P w):=by
 have el:=encK_len P w
 have key:=lp_up (step:=pathshap_Path_Find_s4) (fun k=>(((f:Int),((P.length + 1:Nat):Int),(k:Int),()),((encK P w,()),()))) (P.length + 1) (r:=.inl ((),((encK P w,()),()))) (by omega) (by
  intro g k hk
  have d0:(k:Int) < ((P.length + 1:Nat):Int):=by omega
  have d1:(0:Int) ≤ (k:Int):=by omega
  have d2:(k:Int) < ((encK P w).length:Int):=by omega
  rw [pathshap_Path_Find_s4,cnd d0,cnd2 d1 d2,Int.toNat_natCast,encK_get (by omega),Option.bind_some]
  cases k with
  | zero=>rw [cnd' (by omega),iadd1 (by omega)];rfl
  | succ k =>
   have hne:¬ (lkF P w (k + 1)).1 = (f:Int):=by
    rw [lkF_part (by omega)]
    have:=hn P[k] (List.getElem_mem (by omega))
    show ¬ ((P[k].1:Nat):Int) = _
    omega
   rw [cnd (by omega),cnd' hne,iadd1 (by omega)];rfl) (by
  intro g
  rw [pathshap_Path_Find_s4,cnd' (by omega)])
 have key:lp pathshap_Path_Find_s4 K0 (((f:Int),((P.length + 1:Nat):Int),0,()),((encK P w,()),())) = _:=key
 rw [pathshap_Path_Find,el,key];rfl
theorem Parts15_ok {P:List AP} {w:Nat → Rat} (hl:P.length ≤ 1000000):pathshap_Path_Parts (encK P w) = some (encW P,encK P w):=by
 have el:=encK_len P w
 have key:=lp_up (step:=pathshap_Path_Parts_s5) (fun k=>((encW (P.take (k - 1)),((P.length + 1:Nat):Int),(k:Int),()),((encK P w,()),()))) (P.length + 1) (r:=((encW P,()),((encK P w,()),()))) (by omega) (by
  intro g k hk
  have d0:(k:Int) < ((P.length + 1:Nat):Int):=by omega
  have d1:(0:Int) ≤ (k:Int):=by omega
  have d2:(k:Int) < ((encK P w).length:Int):=by omega
  rw [pathshap_Path_Parts_s5,cnd d0,cnd2 d1 d2,Int.toNat_natCast,encK_get (by omega),Option.bind_some]
  cases k with
  | zero=>rw [cnd' (by omega),iadd1 (by omega)];rfl
  | succ k =>
   have hk':k < P.length:=by omega
   have e:encW (P.take (k + 1)) = encW (P.take k) ++ [((lkF P w (k + 1)).1,(lkF P w (k + 1)).2.1,(lkF P w (k + 1)).2.2.1)]:=by
    rw [lkF_part hk']
    exact map_take_succ encP hk'
   rw [cnd (by omega),blt (by rw [encW_len,List.length_take];omega),cond_true,iadd1 (by omega)]
   show g ((encW (P.take k) ++ _,_,_,_),_) = g ((encW (P.take (k + 1)),_,_,_),_)
   rw [e];rfl) (by
  intro g
  rw [pathshap_Path_Parts_s5,cnd' (by omega),Nat.add_sub_cancel,List.take_of_length_le (Nat.le_refl _)])
 have key:lp pathshap_Path_Parts_s5 K0 (([],((P.length + 1:Nat):Int),0,()),((encK P w,()),())) = _:=key
 rw [pathshap_Path_Parts,el,key];rfl
theorem frac_ok {a b:Nat} (ha:a < 1000000) (hb:b < 1000000):ratio_Frac (a:Int) (b:Int) = some (canQ ((a:Rat) / (b:Rat))):=by
 have:=ratio_Frac_ok (n:=(a:Int)) (d:=(b:Int)) (by omega) (by omega) (by omega) (by omega)
 rw [this];rfl
theorem frac_sz {a b:Nat} (ha:a < 1000000) (hb:b < 1000000):SzQ ((a:Rat) / (b:Rat)) 2:=by
 have h:∀ {n:Nat},n < 1000000 → SzQ (n:Rat) 1:=fun {n} hn=>by
  have:=SzQ.int (z:=(n:Int)) (by omega)
  exact this
 exact (h ha).div (h hb)
theorem one0_sz (b:Bool):SzQ (one0 b) 1:=by cases b;exact SzQ.zero;exact SzQ.one
def ekS (k:Nat):Nat → Nat
 | 0=>1
 | n + 1=>2 * ekS k n + k + 2
theorem ekS_mono (k:Nat) {n m:Nat} (h:n ≤ m):ekS k n ≤ ekS k m:=by
 induction h with
 | refl=>exact Nat.le_refl _
 | step _ ih=>simp only [ekS];omega
theorem ekS_le {k n:Nat} (hk:k ≤ 70) (hn:n ≤ 20):ekS k n ≤ 76546048:=by
 have h1:=ekS_mono k hn
 have h2:ekS k 20 ≤ ekS 70 20:=by
  have:∀ n,ekS k n ≤ ekS 70 n:=by
   intro n
   induction n with
   | zero=>exact Nat.le_refl _
   | succ n ih=>simp only [ekS];omega
  exact this 20
 have h3:ekS 70 20 ≤ 76546048:=by decide +kernel
 omega
theorem ekP_sz {P:List AP} {k:Nat} (h:ASz P k):∀ i,SzQ (ekP P i) (ekS k P.length):=by
 induction P with
 | nil =>
  intro i
  show SzQ (if i = 0 then (1:Rat) else 0) 1
  split
  · exact SzQ.one
  · exact SzQ.zero
 | cons p P ih =>
  intro i
  have h1:SzQ p.2.1 k:=h p List.mem_cons_self
  have ih:=ih fun x hx=>h x (List.mem_cons_of_mem _ hx)
  show SzQ (mulF (fcP p) (ekP P) i) _
  unfold mulF
  have a:SzQ ((fcP p).1 * ekP P i) (k + ekS k P.length):=h1.mul (ih i)
  have b:SzQ (if i = 0 then 0 else (fcP p).2 * ekP P (i - 1)) (1 + ekS k P.length):=by
    split
    · exact SzQ.zero.mono (by omega)
    · exact (one0_sz p.2.2).mul (ih _)
  exact (a.add b).mono (by simp only [List.length_cons,ekS];omega)
theorem wtP_sz {P:List AP} {k:Nat} (h:ASz P k) (hl:P.length ≤ 20) {i:Nat} (hi:i ≤ P.length):SzQ (wtP P i) (30 + ekS k P.length) :=
 (wq_sz (by omega) (by omega)).mul (ekP_sz h i)
def extW (P:List AP) (p:AP) (i:Nat) (j:Nat):Rat :=
 if j < i then wtP P j else if j = i then (if j = P.length + 1 then 0 else (p.2.1 * wtP P j) * (((P.length + 1 - j:Nat):Rat) / ((P.length + 1 + 1:Nat):Rat))) else wtP (P ++ [p]) j
theorem wtP_snoc {P:List AP} {p:AP} {j:Nat} (hj:j ≤ P.length + 1):wtP (P ++ [p]) j =
  (if j = P.length + 1 then 0 else (p.2.1 * wtP P j) * (((P.length + 1 - j:Nat):Rat) / ((P.length + 1 + 1:Nat):Rat))) +
  (if j = 0 then 0 else one0 p.2.2 * (wtP P (j - 1) * (((j - 1 + 1:Nat):Rat) / ((P.length + 1 + 1:Nat):Rat)))):=by
 unfold wtP
 rw [ekP_snoc,mulF,List.length_append,List.length_singleton]
 show wq j (P.length + 1 + 1) * (p.2.1 * ekP P j + _) = _
 have a:(if j = P.length + 1 then (0:Rat) else (p.2.1 * (wq j (P.length + 1) * ekP P j)) * (((P.length + 1 - j:Nat):Rat) / ((P.length + 1 + 1:Nat):Rat))) = wq j (P.length + 1 + 1) * (p.2.1 * ekP P j):=by
  split
  · rw [ekP_out P (by omega),Rat.mul_zero,Rat.mul_zero]
  · rw [wq_stay (i:=j) (n:=P.length + 1) (by omega)];grind
 have b:(if j = 0 then (0:Rat) else one0 p.2.2 * (wq (j - 1) (P.length + 1) * ekP P (j - 1) * (((j - 1 + 1:Nat):Rat) / ((P.length + 1 + 1:Nat):Rat)))) = wq j (P.length + 1 + 1) * (if j = 0 then 0 else (fcP p).2 * ekP P (j - 1)):=by
  split
  · rw [Rat.mul_zero]
  · have := wq_join (i := j - 1) (n := P.length + 1) (by omega)
    rw [show j - 1 + 1 = j by omega] at this
    rw [this,show j - 1 + 1 = j by omega]
    show one0 p.2.2 * _ = _ * (one0 p.2.2 * _)
    grind
 rw [a,b];grind
theorem Extend_ok {P:List AP} {k g:Nat} (h:PathP P k g) {f:Nat} {q:Rat} {ok:Bool} (hf:∀ p ∈ P,p.1 ≠ f) (hq:SzQ q k) (hq0:0 < q) (hk:k ≤ 70) (hl:P.length < 20) (hfl:f < 1000000) :
  pathshap_Path_Extend (f:Int) (canQ q) ok (encK P (wtP P)) = some (0,encK (P ++ [(f,q,ok)]) (wtP (P ++ [(f,q,ok)]))):=by
 obtain ⟨p,ep⟩:∃ p:AP,p = (f,q,ok):=⟨_,rfl⟩
 have hl2:=h.len
 have el:=encK_len P (wtP P)
 have hS:=ekS_le (k:=k) (n:=P.length) hk (by omega)
 have wsz:∀ i,i ≤ P.length → SzQ (wtP P i) 100000000:=fun i hi=>(wtP_sz h.sz hl2 hi).mono (by omega)
 obtain ⟨N,eN⟩:∃ N,N = P.length + 1:=⟨_,rfl⟩
 have hsnoc:=encK_snoc P (wtP P) p 0
 have e0:encK (P ++ [p]) (fun j=>if j = P.length + 1 then 0 else wtP P j) = encK (P ++ [p]) (extW P p N):=by
  refine encK_congr fun j hj=>?_
  simp only [List.length_append,List.length_singleton] at hj
  show (if j = P.length + 1 then 0 else wtP P j) = extW P p N j
  unfold extW
  by_cases e:j = P.length + 1
  · rw [if_pos e,if_neg (by omega),if_pos (by omega),if_pos e]
  · rw [if_neg e,if_pos (by omega)]
 have ell:∀ w,(encK (P ++ [p]) w).length = N + 1:=fun w=>by rw [encK_len,List.length_append];simp [eN]
 have pn1:iadd .i64 ((N:Nat):Int) 1 = ((N + 1:Nat):Int):=iadd1 (by omega)
 have key:=lp_up (step:=pathshap_Path_Extend_s10) (fun m=>((ok,(N:Int),((N:Nat):Int) - 1 - (m:Int),()),(((canQ q).1.1,(canQ q).1.2,(canQ q).2,()),(encK (P ++ [p]) (extW P p (N - m)),()),()))) N
  (r:=((),((encK (P ++ [p]) (extW P p 0),()),()))) (by omega) (by
  intro g m hm
  obtain ⟨i,hi⟩:∃ i,N = i + m + 1:=⟨N - m - 1,by omega⟩
  have ei:((N:Nat):Int) - 1 - (m:Int) = (i:Int):=by omega
  have ei2:((N:Nat):Int) - 1 - ((m + 1:Nat):Int) = (i:Int) - 1:=by omega
  have en1:N - m = i + 1:=by omega
  have en2:N - (m + 1) = i:=by omega
  have hiN:i < N:=by omega
  have d0:((i:Nat):Int) ≥ 0:=by omega
  have d1:(0:Int) ≤ (i:Int):=by omega
  have d2:(i:Int) < ((encK (P ++ [p]) (extW P p (i + 1))).length:Int):=by rw [ell];omega
  have g1:=encK_get (P:=P ++ [p]) (w:=extW P p (i + 1)) (i:=i) (by rw [List.length_append];simp;omega)
  have wi:(lkF (P ++ [p]) (extW P p (i + 1)) i).2.2.2 = canQ (wtP P i):=by rw [lkF_w,extW,if_pos (by omega)]
  have hw:=wsz i (by omega)
  have q1:iadd .i64 (i:Int) 1 = ((i + 1:Nat):Int):=iadd1 (by omega)
  have q2:isub .i64 (N:Int) (i:Int) = ((N - i:Nat):Int):=by rw [isub_i (by omega) (by omega)];omega
  have q3:isub .i64 (i:Int) 1 = (i:Int) - 1:=by rw [isub_i (by omega) (by omega)]
  have f1:=frac_ok (a:=i + 1) (b:=N + 1) (by omega) (by omega)
  have f2:=frac_ok (a:=N - i) (b:=N + 1) (by omega) (by omega)
  have s1:=frac_sz (a:=i + 1) (b:=N + 1) (by omega) (by omega)
  have s2:=frac_sz (a:=N - i) (b:=N + 1) (by omega) (by omega)
  have m1:=ratio_Mul_ok (hq.sm (by omega)) (hw.sm (by decide))
  rw [rv_canQ,rv_canQ] at m1
  have m1:ratio_Mul (((canQ q).1.1,(canQ q).1.2),(canQ q).2) (canQ (wtP P i)) = some (canQ (q * wtP P i)):=m1
  have z1:SzQ (q * wtP P i) 200000000:=(hq.mul hw).mono (by omega)
  have m2:=ratio_Mul_ok (z1.sm (by decide)) (s2.sm (by decide))
  rw [rv_canQ,rv_canQ] at m2
  have fin0:extW P p i i = q * wtP P i * (((N - i:Nat):Rat) / ((N + 1:Nat):Rat)):=by
    rw [extW,if_neg (by omega),if_pos rfl,if_neg (by omega),ep,eN]
  show pathshap_Path_Extend_s10 g ((ok,(N:Int),((N:Nat):Int) - 1 - (m:Int),()),(((canQ q).1.1,(canQ q).1.2,(canQ q).2,()),(encK (P ++ [p]) (extW P p (N - m)),()),())) = g ((ok,(N:Int),((N:Nat):Int) - 1 - ((m + 1:Nat):Int),()),(((canQ q).1.1,(canQ q).1.2,(canQ q).2,()),(encK (P ++ [p]) (extW P p (N - (m + 1))),()),()))
  rw [ei,ei2,en1,en2,pathshap_Path_Extend_s10,cnd d0,cnd2 d1 d2,Int.toNat_natCast,g1,Option.bind_some,wi]
  cases hok:ok with
  | true =>
    have a1:(0:Int) ≤ ((i + 1:Nat):Int):=by omega
    have a2:((i + 1:Nat):Int) < ((encK (P ++ [p]) (extW P p (i + 1))).length:Int):=by rw [ell];omega
    have g2:=encK_get (P:=P ++ [p]) (w:=extW P p (i + 1)) (i:=i + 1) (by rw [List.length_append];simp;omega)
    have m3:=ratio_Mul_ok (hw.sm (by decide)) (s1.sm (by decide))
    rw [rv_canQ,rv_canQ] at m3
    have z3:SzQ (wtP P i * (((i + 1:Nat):Rat) / ((N + 1:Nat):Rat))) 200000000:=(hw.mul s1).mono (by omega)
    have z4:SzQ (extW P p (i + 1) (i + 1)) 400000000:=by
     rw [extW,if_neg (by omega),if_pos rfl]
     split
     · exact SzQ.zero.mono (by decide)
     · have hw' := wsz (i + 1) (by omega)
       have s3:=frac_sz (a:=P.length + 1 - (i + 1)) (b:=P.length + 1 + 1) (by omega) (by omega)
       rw [ep]
       exact ((hq.mul hw').mul s3).mono (by omega)
    have m4:=ratio_Add_ok (z4.sm (by decide)) (z3.sm (by decide))
    rw [rv_canQ,rv_canQ] at m4
    have fin1:extW P p (i + 1) (i + 1) + wtP P i * (((i + 1:Nat):Rat) / ((N + 1:Nat):Rat)) = extW P p i (i + 1):=by
     have hs:=wtP_snoc (P:=P) (p:=p) (j:=i + 1) (by omega)
     rw [if_neg (show ¬ i + 1 = 0 by omega),Nat.add_sub_cancel,show one0 p.2.2 = 1 by rw [ep,hok];rfl,Rat.one_mul] at hs
     have e1:extW P p i (i + 1) = wtP (P ++ [p]) (i + 1):=by rw [extW,if_neg (by omega),if_neg (by omega)]
     have e2:extW P p (i + 1) (i + 1) = if i + 1 = P.length + 1 then 0 else (p.2.1 * wtP P (i + 1)) * (((P.length + 1 - (i + 1):Nat):Rat) / ((P.length + 1 + 1:Nat):Rat)):=by rw [extW,if_neg (by omega),if_pos rfl]
     rw [e1,e2,hs,eN]
    have u1:=encK_set (P:=P ++ [p]) (w:=extW P p (i + 1)) (i:=i + 1) (extW P p i (i + 1))
    have d3:(i:Int) < (((encK (P ++ [p]) (fun j=>if j = i + 1 then extW P p i (i + 1) else extW P p (i + 1) j))).length:Int):=by rw [ell];omega
    have g3:=encK_get (P:=P ++ [p]) (w:=fun j=>if j = i + 1 then extW P p i (i + 1) else extW P p (i + 1) j) (i:=i) (by rw [List.length_append];simp;omega)
    have u2:=encK_set (P:=P ++ [p]) (w:=fun j=>if j = i + 1 then extW P p i (i + 1) else extW P p (i + 1) j) (i:=i) (extW P p i i)
    rw [cond_true,q1,cnd2 a1 a2,Int.toNat_natCast,g2,Option.bind_some,pn1,f1,Option.bind_some,m3,Option.bind_some,lkF_w,m4,Option.bind_some,fin1,cnd2 a1 a2,Option.bind_some,m1,Option.bind_some,q2,f2,Option.bind_some,m2,Option.bind_some,u1,cnd2 d1 d3,g3,Option.bind_some,← fin0,u2,q3]
    have:encK (P ++ [p]) (fun j=>if j = i then extW P p i i else if j = i + 1 then extW P p i (i + 1) else extW P p (i + 1) j) = encK (P ++ [p]) (extW P p i):=by
     refine encK_congr fun j hj=>?_
     by_cases e1:j = i
     · rw [if_pos e1,e1]
     · rw [if_neg e1]
       by_cases e2:j = i + 1
       · rw [if_pos e2,e2]
       · rw [if_neg e2]
         unfold extW
         by_cases e3:j < i
         · rw [if_pos (by omega),if_pos e3]
         · rw [if_neg (by omega),if_neg (by omega),if_neg (by omega),if_neg (by omega)]
    rw [this]
  | false =>
    have u2:=encK_set (P:=P ++ [p]) (w:=extW P p (i + 1)) (i:=i) (extW P p i i)
    rw [cond_false,m1,Option.bind_some,q2,pn1,f2,Option.bind_some,m2,Option.bind_some,cnd2 d1 d2,Option.bind_some,← fin0,u2,q3]
    have:encK (P ++ [p]) (fun j=>if j = i then extW P p i i else extW P p (i + 1) j) = encK (P ++ [p]) (extW P p i):=by
     refine encK_congr fun j hj=>?_
     simp only [List.length_append,List.length_singleton] at hj
     by_cases e1:j = i
     · rw [if_pos e1,e1]
     · rw [if_neg e1]
       unfold extW
       by_cases e3:j < i
       · rw [if_pos (by omega),if_pos e3]
       · by_cases e2 : j = i + 1
         · subst e2
           have hs:=wtP_snoc (P:=P) (p:=p) (j:=i + 1) (by omega)
           rw [show one0 p.2.2 = 0 by rw [ep,hok];rfl,Rat.zero_mul,if_neg (show ¬ i + 1 = 0 by omega),Rat.add_zero] at hs
           rw [if_neg (show ¬ i + 1 < i + 1 by omega),if_pos rfl,if_neg (show ¬ i + 1 < i by omega),if_neg (show ¬ i + 1 = i by omega),hs]
         · rw [if_neg (by omega),if_neg e2,if_neg (by omega),if_neg (by omega)]
    rw [this]) (by
  intro g
  rw [Nat.sub_self,pathshap_Path_Extend_s10,cnd' (by omega)])
 have efin:encK (P ++ [p]) (extW P p 0) = encK (P ++ [p]) (wtP (P ++ [p])):=by
  refine encK_congr fun j hj=>?_
  unfold extW
  rw [if_neg (by omega)]
  by_cases e:j = 0
  · subst e
    have hs:=wtP_snoc (P:=P) (p:=p) (j:=0) (by omega)
    rw [if_pos rfl,Rat.add_zero] at hs
    rw [if_pos rfl,hs]
  · rw [if_neg e]
 rw [efin] at key
 have qn:isub .i64 ((P.length + 1:Nat):Int) 1 = ((N:Nat):Int) - 1 - ((0:Nat):Int):=by rw [isub_i (by omega) (by omega)];omega
 have c0:¬ ((P.length + 1:Nat):Int) = 0:=by omega
 have hsg:rcmp q 0 > 0:=rcmp_pos.2 hq0
 have hsign:=ratio_Sign_ok (hq.sm (by omega))
 rw [rv_canQ] at hsign
 have hcl:=ratio_Clean_ok (hq.sm (by omega))
 rw [rv_canQ] at hcl
 rw [pathshap_Path_Extend,el,cnd' c0,cnd' (by omega),Find_not hf (by omega),Option.bind_some]
 dsimp only
 rw [cnd' (by omega),hsign,Option.bind_some,cnd' (by omega),hcl,Option.bind_some,ratio_Zero_ok,Option.bind_some,blt (by rw [el];omega),cond_true]
 have e1:encK P (wtP P) ++ [((f:Int),(canQ q,(ok,canQ 0)))] = encK (P ++ [p]) (extW P p N):=by
  rw [← e0,← hsnoc,ep]
 rw [e1,el,qn]
 have key:lp pathshap_Path_Extend_s10 K0 ((ok,((P.length + 1:Nat):Int),((N:Nat):Int) - 1 - ((0:Nat):Int),()),(((canQ q).1.1,(canQ q).1.2,(canQ q).2,()),(encK (P ++ [p]) (extW P p N),()),())) = some ((),(encK (P ++ [p]) (wtP (P ++ [p])),()),()):=by
  rw [← eN];exact key
 rw [key,ep];rfl
def outP1 (P:List AP) (a:Nat):List AP:=P.take a ++ P.drop (a + 1)
theorem outP1_len {P:List AP} {a:Nat} (h:a < P.length):(outP1 P a).length + 1 = P.length:=by simp [outP1];omega
theorem outP1_perm {P:List AP} {a:Nat} (h:a < P.length):P.Perm (P[a] :: outP1 P a):=by
 have e:P = P.take a ++ P[a] :: P.drop (a + 1):=by rw [← List.drop_eq_getElem_cons h,List.take_append_drop]
 have:(P.take a ++ P[a] :: P.drop (a + 1)).Perm (P[a] :: (P.take a ++ P.drop (a + 1))):=List.perm_middle
 exact (List.Perm.of_eq e).trans this
theorem outP1_mem {P:List AP} {a:Nat}:∀ p ∈ outP1 P a,p ∈ P:=fun p hp=>by
 rcases List.mem_append.1 hp with h | h
 · exact List.mem_of_mem_take h
 · exact List.mem_of_mem_drop h
theorem ekP_take {P:List AP} {a:Nat} (h:a < P.length) (k:Nat):ekP P k = P[a].2.1 * ekP (outP1 P a) k + (if k = 0 then 0 else one0 P[a].2.2 * ekP (outP1 P a) (k - 1)):=by
 rw [ekP_perm (outP1_perm h)];rfl
theorem PathP.out {P:List AP} {k g:Nat} (h:PathP P k g) {a:Nat} (ha:a < P.length):PathP (outP1 P a) k g:=by
 have hp:=(outP1_perm ha).map (·.1)
 have hn:=hp.nodup_iff.1 h.nd
 exact ⟨(List.nodup_cons.1 hn).2,fun p hp=>h.sz p (outP1_mem p hp),by have:=outP1_len ha;have:=h.len;omega,fun p hp=>h.lt p (outP1_mem p hp),fun p hp=>h.pos p (outP1_mem p hp)⟩
theorem PathP.notin {P:List AP} {k g:Nat} (h:PathP P k g) {a:Nat} (ha:a < P.length):∀ p ∈ outP1 P a,p.1 ≠ P[a].1:=by
 have hp:=(outP1_perm ha).map (·.1)
 have hn:=List.nodup_cons.1 (hp.nodup_iff.1 h.nd)
 intro p hp e
 exact hn.1 (List.mem_map.2 ⟨p,hp,e⟩)
theorem wtP_no {P:List AP} {a i:Nat} (ha:a < P.length) (hi:i < P.length) (hz:P[a].2.1 ≠ 0) (hok:P[a].2.2 = false) :
  wtP P i * (((P.length + 1:Nat):Rat) / ((P.length - i:Nat):Rat)) * P[a].2.1⁻¹ = wtP (outP1 P a) i:=by
 have hl:=outP1_len ha
 unfold wtP
 rw [ekP_take ha,hok,wq_stay (i:=i) (n:=P.length) hi,show (outP1 P a).length + 1 = P.length by omega]
 have n1:=natQ_ne (show 0 < P.length - i by omega)
 have n2:=natQ_ne (show 0 < P.length + 1 by omega)
 generalize wq i P.length = x
 generalize ekP (outP1 P a) i = y
 generalize ekP (outP1 P a) (i - 1) = y2
 generalize ((P.length - i:Nat):Rat) = u at *
 generalize ((P.length + 1:Nat):Rat) = v at *
 generalize P[a].2.1 = z at *
 simp only [one0,Bool.false_eq_true,if_false,Rat.zero_mul,ite_self,Rat.add_zero]
 grind
def nxP (P:List AP) (a i:Nat):Rat:=wq (i + 1) (P.length + 1) * ekP (outP1 P a) i
theorem nxP_out {P:List AP} {a i:Nat} (ha:a < P.length) (hi:i < P.length):nxP P a i * (((P.length + 1:Nat):Rat) / ((i + 1:Nat):Rat)) = wtP (outP1 P a) i:=by
 have hl:=outP1_len ha
 unfold wtP nxP
 rw [wq_join (i:=i) (n:=P.length) hi,show (outP1 P a).length + 1 = P.length by omega]
 have n1:=natQ_ne (show 0 < i + 1 by omega)
 have n2:=natQ_ne (show 0 < P.length + 1 by omega)
 generalize wq i P.length = x
 generalize ekP (outP1 P a) i = y
 generalize ((i + 1:Nat):Rat) = u at *
 generalize ((P.length + 1:Nat):Rat) = v at *
 grind
theorem nxP_next {P:List AP} {a i:Nat} (ha:a < P.length) (hi:i < P.length) (hok:P[a].2.2 = true) :
  wtP P i - wtP (outP1 P a) i * P[a].2.1 * (((P.length - i:Nat):Rat) / ((P.length + 1:Nat):Rat)) = if i = 0 then 0 else nxP P a (i - 1):=by
 have hl:=outP1_len ha
 unfold wtP nxP
 rw [ekP_take ha,hok,wq_stay (i:=i) (n:=P.length) hi,show (outP1 P a).length + 1 = P.length by omega]
 cases i with
 | zero =>
  simp only [if_true]
  generalize wq 0 P.length = x
  generalize ekP (outP1 P a) 0 = y
  generalize P[a].2.1 = z at *
  grind
 | succ i =>
  rw [if_neg (by omega),if_neg (by omega),Nat.add_sub_cancel,wq_stay (i:=i + 1) (n:=P.length) hi]
  generalize wq (i + 1) P.length = x
  generalize ekP (outP1 P a) (i + 1) = y
  generalize ekP (outP1 P a) i = y2
  generalize P[a].2.1 = z at *
  simp only [one0,if_true]
  grind
theorem nxP_top {P:List AP} {a:Nat} (ha:a < P.length) (hok:P[a].2.2 = true):wtP P P.length = nxP P a (P.length - 1):=by
 have hl:=outP1_len ha
 unfold wtP nxP
 rw [ekP_take ha,hok,ekP_out (outP1 P a) (by omega),if_neg (by omega),show P.length - 1 + 1 = P.length by omega]
 simp only [one0,if_true]
 grind
theorem nxP_sz {P:List AP} {k g a:Nat} (h:PathP P k g) (ha:a < P.length) (hk:k ≤ 70) {i:Nat} (hi:i < P.length):SzQ (nxP P a i) 100000000:=by
 have hl:=outP1_len ha
 have h2:=h.out ha
 have hS:=ekS_le (k:=k) (n:=(outP1 P a).length) hk h2.len
 have:=h.len
 exact ((wq_sz (s:=i + 1) (n:=P.length + 1) (by omega) (by omega)).mul (ekP_sz h2.sz i)).mono (by omega)
def bkL (n i:Nat) (w:Nat → Rat):List RAT:=(List.range n).map fun j=>if i ≤ j then canQ (w j) else zR
theorem bkL_len (n i:Nat) (w:Nat → Rat):(bkL n i w).length = n:=by simp [bkL]
theorem bkL_get {n i j:Nat} (w:Nat → Rat) (h:j < n):(bkL n i w)[j]? = some (if i ≤ j then canQ (w j) else zR):=by simp [bkL,h]
theorem bkL_set {n i:Nat} (w:Nat → Rat):(bkL n (i + 1) w).set i (canQ (w i)) = bkL n i w:=by
 refine List.ext_getElem? fun j=>?_
 rw [List.getElem?_set]
 by_cases e:i = j
 · subst e
   by_cases hi:i < n
   · rw [if_pos rfl,if_pos (by rw [bkL_len];exact hi),bkL_get w hi,if_pos (Nat.le_refl _)]
   · rw [if_pos rfl,if_neg (by rw [bkL_len];exact hi),List.getElem?_eq_none (by rw [bkL_len];omega)]
 · rw [if_neg e]
   by_cases hj:j < n
   · rw [bkL_get w hj, bkL_get w hj]
     by_cases h:i ≤ j
     · rw [if_pos (by omega),if_pos h]
     · rw [if_neg (by omega),if_neg h]
   · rw [List.getElem?_eq_none (by rw [bkL_len];omega),List.getElem?_eq_none (by rw [bkL_len];omega)]
theorem bkL_none (n:Nat) (w:Nat → Rat):bkL n n w = List.replicate n zR:=by
 rw [List.eq_replicate_iff]
 refine ⟨bkL_len _ _ _,fun x hx=>?_⟩
 obtain ⟨j,hj,rfl⟩:=List.mem_map.1 hx
 have:=List.mem_range.1 hj
 exact if_neg (by omega)
theorem bkL_all (n:Nat) (w:Nat → Rat):bkL n 0 w = flo n w:=List.map_congr_left fun j _=>if_pos (Nat.zero_le _)
theorem without_ok {P:List AP} {k g:Nat} (h:PathP P k g) (hk:k ≤ 70) {a:Nat} (ha:a < P.length) :
  pathshap_Path_without ((a + 1:Nat):Int) (encK P (wtP P)) = some (flo P.length (wtP (outP1 P a)),encK P (wtP P)):=by
 have hl:=outP1_len ha
 have hl2:=h.len
 have el:=encK_len P (wtP P)
 obtain ⟨n,en⟩:∃ n,n = P.length:=⟨_,rfl⟩
 have hS:=ekS_le (k:=k) (n:=P.length) hk (by omega)
 have wsz:∀ i,i ≤ P.length → SzQ (wtP P i) 100000000:=fun i hi=>(wtP_sz h.sz hl2 hi).mono (by omega)
 have hQ:=h.out ha
 have hS2:=ekS_le (k:=k) (n:=(outP1 P a).length) hk hQ.len
 have qsz:∀ i,i < P.length → SzQ (wtP (outP1 P a) i) 100000000:=fun i hi=>(wtP_sz hQ.sz hQ.len (by omega)).mono (by omega)
 have hz:SzQ P[a].2.1 k:=h.sz _ (List.getElem_mem ha)
 have hpos:=h.pos _ (List.getElem_mem ha)
 have hz0:P[a].2.1 ≠ 0:=by intro e;rw [e] at hpos;exact absurd hpos (by decide)
 obtain ⟨L,eL⟩:∃ L,L = lkF P (wtP P) (a + 1):=⟨_,rfl⟩
 have eL':=eL
 rw [lkF_part ha] at eL'
 have L1:L.2.1 = canQ P[a].2.1:=by rw [eL']
 have L2:L.2.2.1 = P[a].2.2:=by rw [eL']
 obtain ⟨nx,hnx⟩:∃ nx:Nat → Rat,nx = fun m=>if P[a].2.2 then (if m < n then nxP P a (n - 1 - m) else 0) else wtP P n:=⟨_,rfl⟩
 obtain ⟨ov,hov⟩:∃ ov:Rat,ov = P[a].2.1⁻¹:=⟨_,rfl⟩
 have pn1:iadd .i64 ((n:Nat):Int) 1 = ((n + 1:Nat):Int):=iadd1 (by omega)
 have key:=lp_up (step:=pathshap_Path_without_s7) (fun m=>(((n:Int),bkL n (n - m) (wtP (outP1 P a)),((n:Nat):Int) - 1 - (m:Int),()),((L.1,L.2.1.1.1,L.2.1.1.2,L.2.1.2,L.2.2.1,L.2.2.2.1.1,L.2.2.2.1.2,L.2.2.2.2,()),((canQ ov).1.1,(canQ ov).1.2,(canQ ov).2,()),((canQ (nx m)).1.1,(canQ (nx m)).1.2,(canQ (nx m)).2,()),(encK P (wtP P),()),()))) n
  (r:=((bkL n 0 (wtP (outP1 P a)),()),((encK P (wtP P),()),()))) (by omega) (by
  intro g m hm
  obtain ⟨i,hi⟩:∃ i,n = i + m + 1:=⟨n - m - 1,by omega⟩
  have ei:((n:Nat):Int) - 1 - (m:Int) = (i:Int):=by omega
  have ei2:((n:Nat):Int) - 1 - ((m + 1:Nat):Int) = (i:Int) - 1:=by omega
  have en1:n - m = i + 1:=by omega
  have en2:n - (m + 1) = i:=by omega
  have d0:((i:Nat):Int) ≥ 0:=by omega
  have d1:(0:Int) ≤ (i:Int):=by omega
  have d2:(i:Int) < ((encK P (wtP P)).length:Int):=by rw [el];omega
  have d3:(i:Int) < ((bkL n (i + 1) (wtP (outP1 P a))).length:Int):=by rw [bkL_len];omega
  have g1:=encK_get (P:=P) (w:=wtP P) (i:=i) (by omega)
  have g2:=bkL_get (n:=n) (i:=i + 1) (j:=i) (wtP (outP1 P a)) (by omega)
  have q2:isub .i64 (n:Int) (i:Int) = ((n - i:Nat):Int):=by rw [isub_i (by omega) (by omega)];omega
  have q3:isub .i64 (i:Int) 1 = (i:Int) - 1:=by rw [isub_i (by omega) (by omega)]
  have q1:iadd .i64 (i:Int) 1 = ((i + 1:Nat):Int):=iadd1 (by omega)
  have hset:=bkL_set (n:=n) (i:=i) (wtP (outP1 P a))
  show pathshap_Path_without_s7 g (((n:Int),bkL n (n - m) (wtP (outP1 P a)),((n:Nat):Int) - 1 - (m:Int),()),((L.1,L.2.1.1.1,L.2.1.1.2,L.2.1.2,L.2.2.1,L.2.2.2.1.1,L.2.2.2.1.2,L.2.2.2.2,()),((canQ ov).1.1,(canQ ov).1.2,(canQ ov).2,()),((canQ (nx m)).1.1,(canQ (nx m)).1.2,(canQ (nx m)).2,()),(encK P (wtP P),()),())) = g (((n:Int),bkL n (n - (m + 1)) (wtP (outP1 P a)),((n:Nat):Int) - 1 - ((m + 1:Nat):Int),()),((L.1,L.2.1.1.1,L.2.1.1.2,L.2.1.2,L.2.2.1,L.2.2.2.1.1,L.2.2.2.1.2,L.2.2.2.2,()),((canQ ov).1.1,(canQ ov).1.2,(canQ ov).2,()),((canQ (nx (m + 1))).1.1,(canQ (nx (m + 1))).1.2,(canQ (nx (m + 1))).2,()),(encK P (wtP P),()),()))
  rw [ei,ei2,en1,en2,pathshap_Path_without_s7,cnd d0,L2]
  cases hok:P[a].2.2 with
  | false =>
   have f1:=frac_ok (a:=n + 1) (b:=n - i) (by omega) (by omega)
   have s1:=frac_sz (a:=n + 1) (b:=n - i) (by omega) (by omega)
   have hw:=wsz i (by omega)
   have m1:=ratio_Mul_ok (hw.sm (by decide)) (s1.sm (by decide))
   rw [rv_canQ,rv_canQ] at m1
   have z1:SzQ (wtP P i * (((n + 1:Nat):Rat) / ((n - i:Nat):Rat))) 200000000:=(hw.mul s1).mono (by omega)
   have hi2:SzQ ov k:=by rw [hov];exact hz.inv
   have m2:=ratio_Mul_ok (z1.sm (by decide)) (hi2.sm (by omega))
   rw [rv_canQ,rv_canQ] at m2
   have m2:ratio_Mul (canQ (wtP P i * (((n + 1:Nat):Rat) / ((n - i:Nat):Rat)))) (((canQ ov).1.1,(canQ ov).1.2),(canQ ov).2) = _:=m2
   have e1:=wtP_no ha (i:=i) (by omega) hz0 hok
   rw [← en,← hov] at e1
   have e2:nx (m + 1) = nx m:=by rw [hnx];simp only [hok,Bool.false_eq_true,if_false]
   rw [Bool.not_false,cond_true,cnd2 d1 d2,Int.toNat_natCast,g1,Option.bind_some,pn1,q2,f1,Option.bind_some,lkF_w,m1,Option.bind_some,m2,Option.bind_some,cnd2 d1 d3,g2,Option.bind_some,e1,hset,q3,e2]
  | true =>
   have f1:=frac_ok (a:=n + 1) (b:=i + 1) (by omega) (by omega)
   have s1:=frac_sz (a:=n + 1) (b:=i + 1) (by omega) (by omega)
   have enx:nx m = nxP P a i:=by rw [hnx];simp only [hok,if_true];rw [if_pos hm,show n - 1 - m = i by omega]
   have nsz:=nxP_sz h ha hk (i:=i) (by omega)
   have m1:=ratio_Mul_ok (nsz.sm (by decide)) (s1.sm (by decide))
   rw [rv_canQ,rv_canQ] at m1
   have e1:=nxP_out ha (i:=i) (by omega)
   rw [← en] at e1
   rw [e1] at m1
   have m1:ratio_Mul (((canQ (nxP P a i)).1.1,(canQ (nxP P a i)).1.2),(canQ (nxP P a i)).2) (canQ (((n + 1:Nat):Rat) / ((i + 1:Nat):Rat))) = some (canQ (wtP (outP1 P a) i)):=m1
   have d4:(i:Int) < ((bkL n i (wtP (outP1 P a))).length:Int):=by rw [bkL_len];omega
   have g3:=bkL_get (n:=n) (i:=i) (j:=i) (wtP (outP1 P a)) (by omega)
   rw [if_pos (Nat.le_refl _)] at g3
   have hq:=qsz i (by omega)
   have m2:=ratio_Mul_ok (hq.sm (by decide)) (hz.sm (by omega))
   rw [rv_canQ,rv_canQ] at m2
   have m2:ratio_Mul (canQ (wtP (outP1 P a) i)) ((L.2.1.1.1,L.2.1.1.2),L.2.1.2) = some (canQ (wtP (outP1 P a) i * P[a].2.1)):=by
    show ratio_Mul _ L.2.1 = _
    rw [L1];exact m2
   have f2:=frac_ok (a:=n - i) (b:=n + 1) (by omega) (by omega)
   have s2:=frac_sz (a:=n - i) (b:=n + 1) (by omega) (by omega)
   have z2:SzQ (wtP (outP1 P a) i * P[a].2.1) 200000000:=(hq.mul hz).mono (by omega)
   have m3:=ratio_Mul_ok (z2.sm (by decide)) (s2.sm (by decide))
   rw [rv_canQ,rv_canQ] at m3
   have z3:SzQ (wtP (outP1 P a) i * P[a].2.1 * (((n - i:Nat):Rat) / ((n + 1:Nat):Rat))) 300000000:=(z2.mul s2).mono (by omega)
   have hw:=wsz i (by omega)
   have m4:=ratio_Sub_ok (hw.sm (by decide)) (z3.sm (by decide))
   rw [rv_canQ,rv_canQ] at m4
   have e2:=nxP_next ha (i:=i) (by omega) hok
   rw [← en] at e2
   rw [e2] at m4
   have e3:nx (m + 1) = if i = 0 then 0 else nxP P a (i - 1):=by
    rw [hnx];simp only [hok,if_true]
    by_cases h0:i = 0
    · rw [if_neg (by omega),if_pos h0]
    · rw [if_pos (by omega),if_neg h0,show n - 1 - (m + 1) = i - 1 by omega]
   rw [Bool.not_true,cond_false,pn1,q1,f1,Option.bind_some,enx,m1,Option.bind_some,cnd2 d1 d3,Int.toNat_natCast,g2,Option.bind_some,cnd2 d1 d2,g1,Option.bind_some,hset,cnd2 d1 d4,g3,Option.bind_some,m2,Option.bind_some,q2,f2,Option.bind_some,m3,Option.bind_some,lkF_w,m4,Option.bind_some,q3,e3]) (by
  intro g
  rw [Nat.sub_self,pathshap_Path_without_s7,cnd' (by omega)])
 have i1:isub .i64 ((P.length + 1:Nat):Int) 1 = (n:Int):=by rw [isub_i (by omega) (by omega)];omega
 have i2:isub .i64 (n:Int) 1 = ((n:Nat):Int) - 1 - ((0:Nat):Int):=by rw [isub_i (by omega) (by omega)];omega
 have c0:(0:Int) ≤ ((a + 1:Nat):Int):=by omega
 have c1:((a + 1:Nat):Int) < ((P.length + 1:Nat):Int):=by omega
 have hinv:=ratio_Inv_ok (hz.sm (by omega))
 rw [rv_canQ,if_neg hz0,← hov] at hinv
 have c2:(decide ((n:Int) = (n:Int)) && decide ((0:Int) ≤ (n:Int)) && decide ((((56:Nat):Int) * (n:Int)) ≤ 281474976710656) && decide ((n:Int) ≤ 9223372036854775807)) = true:=by
  simp only [Bool.and_eq_true,decide_eq_true_eq]
  refine ⟨⟨⟨trivial,by omega⟩,?_⟩,by omega⟩
  show (56:Int) * (n:Int) ≤ 281474976710656
  omega
 have ev:nx 0 = wtP P n:=by
  rw [hnx]
  cases hok:P[a].2.2 with
  | false=>simp
  | true=>simp only [if_true];rw [if_pos (by omega),en,nxP_top ha hok,Nat.sub_zero]
 have gn:=encK_get (P:=P) (w:=wtP P) (i:=n) (by omega)
 rw [pathshap_Path_without,el,cnd2 c0 c1,Int.toNat_natCast,encK_get (by omega),Option.bind_some,i1,c2,cond_true,← eL,L1,hinv,Option.bind_some,cnd2 (by omega) (by omega),Int.toNat_natCast,gn,Option.bind_some,i2]
 dsimp only
 rw [lkF_w,← ev]
 have key:lp pathshap_Path_without_s7 K0 (((n:Int),List.replicate n (((false,[]),[]):RAT),((n:Nat):Int) - 1 - ((0:Nat):Int),()),((L.1,(canQ P[a].2.1).1.1,(canQ P[a].2.1).1.2,(canQ P[a].2.1).2,L.2.2.1,L.2.2.2.1.1,L.2.2.2.1.2,L.2.2.2.2,()),((canQ ov).1.1,(canQ ov).1.2,(canQ ov).2,()),((canQ (nx 0)).1.1,(canQ (nx 0)).1.2,(canQ (nx 0)).2,()),(encK P (wtP P),()),())) = some ((bkL n 0 (wtP (outP1 P a)),()),((encK P (wtP P),()),())):=by
  have k2:=key
  rw [Nat.sub_zero,bkL_none,L1] at k2
  exact k2
 rw [key,bkL_all,en];rfl
theorem floSum_ok {n k:Nat} {w:Nat → Rat} (hw:∀ i,i < n → SzQ (w i) k) (hk:1 + n * (k + 1) < 1099511627776) (hn:n < 1000000):ratio_Sum (flo n w) = some (canQ (rsum w n)):=by
 have hv:∀ i,i < n → vals (flo n w) i = w i:=fun i hi=>by
  rw [vals,flo_get w hi]
  show rv (canQ (w i)) = w i
  exact rv_canQ _
 have h:=ratio_Sum_ok (l:=flo n w) (k:=k) (fun x hx=>by
  obtain ⟨i,hi,rfl⟩:=List.mem_map.1 hx
  have hi:=List.mem_range.1 hi
  refine (hw i hi).sm ?_
  have:1 * (k + 1) ≤ n * (k + 1):=Nat.mul_le_mul_right _ (by omega)
  omega) (fun i hi=>by rw [flo_len] at hi;rw [hv i hi];exact hw i hi) (by rw [flo_len];exact hk) (by rw [flo_len];omega)
 rw [h,flo_len]
 congr 2
 exact rsum_congr fun i hi=>hv i hi
def sumP (P:List AP) (a:Nat):Rat:=rsum (wtP (outP1 P a)) P.length
theorem outW_sz {P:List AP} {k g:Nat} (h:PathP P k g) (hk:k ≤ 70) {a:Nat} (ha:a < P.length):∀ i,i < P.length → SzQ (wtP (outP1 P a) i) (30 + ekS k (outP1 P a).length):=fun i hi=>by
 have:=outP1_len ha
 exact wtP_sz (h.out ha).sz (h.out ha).len (by omega)
theorem Sum15_ok {P:List AP} {k g:Nat} (h:PathP P k g) (hk:k ≤ 70) {a:Nat} (ha:a < P.length) :
  pathshap_Path_Sum ((a + 1:Nat):Int) (encK P (wtP P)) = some (canQ (sumP P a),0,encK P (wtP P)):=by
 have el:=encK_len P (wtP P)
 have hl2:=h.len
 have hS2:=ekS_le (k:=k) (n:=(outP1 P a).length) hk (h.out ha).len
 have hs:=floSum_ok (n:=P.length) (w:=wtP (outP1 P a)) (k:=100000000) (fun i hi=>(outW_sz h hk ha i hi).mono (by omega)) (by omega) (by omega)
 rw [pathshap_Path_Sum,el,cnd' (by omega),cnd' (by omega),cnd' (by omega),without_ok h hk ha,Option.bind_some]
 dsimp only
 rw [hs];rfl
theorem encK_out {P:List AP} {w:Nat → Rat} {a:Nat} (ha:a < P.length):(encK P w).take (a + 1) ++ (encK P w).drop (a + 2) = encK (outP1 P a) fun j=>if j ≤ a then w j else w (j + 1):=by
 have el:=encK_len P w
 have hl:=outP1_len ha
 have ho:∀ j,(outP1 P a)[j]? = if j < a then P[j]? else P[j + 1]?:=fun j=>by
   unfold outP1
   by_cases hj:j < a
   · rw [if_pos hj,List.getElem?_append_left (by rw [List.length_take];omega),List.getElem?_take,if_pos hj]
   · rw [if_neg hj, List.getElem?_append_right (by rw [List.length_take]; omega), List.length_take, Nat.min_eq_left (by omega), List.getElem?_drop]
     congr 1;omega
 refine List.ext_getElem? fun j=>?_
 by_cases hj:j < a + 1
 · rw [List.getElem?_append_left (by rw [List.length_take]; omega), List.getElem?_take, if_pos hj, encK_get (by omega), encK_get (by omega)]
   unfold lkF
   split
   · rename_i e;subst e;simp
   · have e1 : (outP1 P a)[j - 1]? = P[j - 1]? := by rw [ho, if_pos (by omega)]
     have e2:(if j ≤ a then w j else w (j + 1)) = w j:=if_pos (by omega)
     simp only [e1,e2]
 · rw [List.getElem?_append_right (by rw [List.length_take]; omega), List.length_take, Nat.min_eq_left (by omega), List.getElem?_drop, show a + 2 + (j - (a + 1)) = j + 1 by omega]
   by_cases hj2:j + 1 < P.length + 1
   · rw [encK_get hj2, encK_get (by omega)]
     unfold lkF
     have e1:(outP1 P a)[j - 1]? = P[j]?:=by rw [ho,if_neg (by omega)];congr 1;omega
     have e2:(if j ≤ a then w j else w (j + 1)) = w (j + 1):=if_neg (by omega)
     rw [if_neg (by omega),if_neg (by omega)]
     simp only [e1,e2,Nat.add_sub_cancel]
   · rw [List.getElem?_eq_none (by omega),List.getElem?_eq_none (by rw [encK_len];omega)]
theorem Unwind_ok {P:List AP} {k g:Nat} (h:PathP P k g) (hk:k ≤ 70) {a:Nat} (ha:a < P.length) :
  pathshap_Path_Unwind ((a + 1:Nat):Int) (encK P (wtP P)) = some (0,encK (outP1 P a) (wtP (outP1 P a))):=by
 have el:=encK_len P (wtP P)
 have hl2:=h.len
 have hl:=outP1_len ha
 obtain ⟨Q,eQ⟩:∃ Q,Q = outP1 P a:=⟨_,rfl⟩
 have eo:=encK_out (w:=wtP P) ha
 rw [← eQ] at eo hl
 obtain ⟨w0,hw0⟩:∃ w0:Nat → Rat,w0 = fun j=>if j ≤ a then wtP P j else wtP P (j + 1):=⟨_,rfl⟩
 rw [← hw0] at eo
 obtain ⟨F,eF⟩:∃ F,F = flo P.length (wtP Q):=⟨_,rfl⟩
 have lF:F.length = P.length:=by rw [eF,flo_len]
 have lQ:∀ w,(encK Q w).length = P.length:=fun w=>by rw [encK_len];exact hl
 have key:=lp_up (step:=pathshap_Path_Unwind_s8) (fun i=>((F,encK Q (fun j=>if j < i then wtP Q j else w0 j),((P.length:Nat):Int),(i:Int),()),((encK P (wtP P),()),()))) P.length
  (r:=((encK Q (fun j=>if j < P.length then wtP Q j else w0 j),()),((encK P (wtP P),()),()))) (by omega) (by
  intro gg i hi
  have d0:(i:Int) < ((P.length:Nat):Int):=by omega
  have d1:(0:Int) ≤ (i:Int):=by omega
  have d2:(i:Int) < (F.length:Int):=by rw [lF];exact d0
  have d3:(i:Int) < ((encK Q (fun j=>if j < i then wtP Q j else w0 j)).length:Int):=by rw [lQ];exact d0
  have g1:F[i]? = some (canQ (wtP Q i)):=by rw [eF];exact flo_get _ hi
  have g2:=encK_get (P:=Q) (w:=fun j=>if j < i then wtP Q j else w0 j) (i:=i) (by omega)
  have u:=encK_set (P:=Q) (w:=fun j=>if j < i then wtP Q j else w0 j) (i:=i) (wtP Q i)
  have e:encK Q (fun j=>if j = i then wtP Q i else if j < i then wtP Q j else w0 j) = encK Q (fun j=>if j < i + 1 then wtP Q j else w0 j):=by
   refine encK_congr fun j _=>?_
   by_cases e1:j = i
   · rw [if_pos e1,if_pos (by omega),e1]
   · rw [if_neg e1]
     by_cases e2:j < i
     · rw [if_pos e2,if_pos (by omega)]
     · rw [if_neg e2,if_neg (by omega)]
  rw [pathshap_Path_Unwind_s8,cnd d0,cnd2 d1 d2,Int.toNat_natCast,g1,Option.bind_some,cnd2 d1 d3,g2,Option.bind_some,u,e,iadd1 (by omega)]
  rfl) (by
  intro gg
  rw [pathshap_Path_Unwind_s8,cnd' (by omega)])
 have e0:encK Q (fun j=>if j < 0 then wtP Q j else w0 j) = encK Q w0:=encK_congr fun j _=>if_neg (by omega)
 have e1:encK Q (fun j=>if j < P.length then wtP Q j else w0 j) = encK Q (wtP Q):=encK_congr fun j hj=>if_pos (by omega)
 rw [e0,e1] at key
 have key:lp pathshap_Path_Unwind_s8 K0 ((F,encK Q w0,((P.length:Nat):Int),0,()),((encK P (wtP P),()),())) = some ((encK Q (wtP Q),()),((encK P (wtP P),()),())):=key
 have i1:iadd .i64 ((a + 1:Nat):Int) 1 = ((a + 2:Nat):Int):=iadd1 (by omega)
 have hw:=without_ok h hk ha
 rw [← eQ,← eF] at hw
 have t1:(((a + 1:Nat):Int) - 0).toNat = a + 1:=by omega
 have t2:(((a + 2:Nat):Int)).toNat = a + 2:=by omega
 have c1:(decide ((0:Int) ≤ ((a + 1:Nat):Int)) && decide ((((a + 1:Nat):Int):Int) ≤ ((a + 1:Nat):Int)) && decide ((((a + 1:Nat):Int):Int) ≤ ((P.length + 1:Nat):Int))) = true:=by
  simp only [Bool.and_eq_true,decide_eq_true_eq];omega
 rw [pathshap_Path_Unwind,el,cnd' (by omega),cnd' (by omega),cnd' (by omega),hw,Option.bind_some]
 dsimp only
 rw [el,c1,cond_true,t1,blt (by rw [List.length_take,el];simp;omega),cond_true,i1,cnd2 (by omega) (by omega),t2,List.nil_append,blt (by rw [List.length_take,List.length_drop,el];omega),cond_true,eo,lQ,key,eQ]
 rfl
theorem along_new {f:Nat} {q:Rat} {ok:Bool} {w:List AP} (h:∀ p ∈ w,p.1 ≠ f):(along f q ok w).Perm ((f,q,ok) :: w):=by
 induction w with
 | nil=>exact List.Perm.refl _
 | cons p w ih =>
  have h1:p.1 ≠ f:=h p List.mem_cons_self
  have ih:=ih fun x hx=>h x (List.mem_cons_of_mem _ hx)
  simp only [along]
  split
  · exact (List.Perm.cons _ ih).trans (List.Perm.swap _ _ _)
  · first | exact List.Perm.refl _ | (rw [if_neg h1])
theorem along_old {f:Nat} {q s:Rat} {ok o:Bool} {w:List AP} (hs:SortA w) (hm:(f,s,o) ∈ w):∃ r:List AP,w.Perm ((f,s,o) :: r) ∧ (along f q ok w).Perm ((f,s * q,o && ok) :: r):=by
 induction w with
 | nil=>cases hm
 | cons p w ih =>
  have hs2:=List.pairwise_cons.1 hs
  rcases List.mem_cons.1 hm with e | hm
  · subst e
    refine ⟨w,List.Perm.refl _,?_⟩
    simp only [along]
    simp
  · obtain ⟨r, h1, h2⟩ := ih hs2.2 hm
    have hlt:p.1 < f:=hs2.1 _ hm
    refine ⟨p :: r,(List.Perm.cons _ h1).trans (List.Perm.swap _ _ _),?_⟩
    simp only [along]
    rw [if_pos hlt]
    exact (List.Perm.cons _ h2).trans (List.Perm.swap _ _ _)
theorem find_ix {P:List AP} {f:Nat}:(∀ p ∈ P,p.1 ≠ f) ∨ ∃ a,∃ ha:a < P.length,P[a].1 = f ∧ ∀ j (hj:j < P.length),j < a → P[j].1 ≠ f:=by
 induction P with
 | nil=>exact .inl (by simp)
 | cons p P ih =>
  by_cases e:p.1 = f
  · exact .inr ⟨0,by simp,e,fun j _ hj=>by omega⟩
  · rcases ih with h | ⟨a, ha, h1, h2⟩
    · exact .inl fun x hx=>by rcases List.mem_cons.1 hx with rfl | hx;exact e;exact h x hx
    · refine .inr ⟨a + 1, by simpa using ha, by simpa using h1, fun j hj hja => ?_⟩
      cases j with
      | zero=>exact e
      | succ j=>simpa using h2 j (by simpa using hj) (by omega)
theorem PathP.mono {P:List AP} {k k' g:Nat} (h:PathP P k g) (hk:k ≤ k'):PathP P k' g:=⟨h.nd,fun p hp=>(h.sz p hp).mono hk,h.len,h.lt,h.pos⟩
theorem PathP.snoc {P:List AP} {k g:Nat} (h:PathP P k g) {f:Nat} {q:Rat} {ok:Bool} (hf:∀ p ∈ P,p.1 ≠ f) (hq:SzQ q k) (hq0:0 < q) (hl:P.length < 20) (hfg:f < g):PathP (P ++ [(f,q,ok)]) k g:=by
 have hp:(P ++ [((f,q,ok):AP)]).Perm ((f,q,ok) :: P):=List.perm_append_comm.trans (List.Perm.refl _)
 have hmem:∀ p ∈ P ++ [((f,q,ok):AP)],p = (f,q,ok) ∨ p ∈ P:=fun p hp=>by
   rcases List.mem_append.1 hp with h | h
   · exact .inr h
   · exact .inl (List.mem_singleton.1 h)
 refine ⟨?_,fun p hp=>?_,by rw [List.length_append];simp;omega,fun p hp=>?_,fun p hp=>?_⟩
 · rw [(hp.map (·.1)).nodup_iff]
   refine List.nodup_cons.2 ⟨fun hm=>?_,h.nd⟩
   obtain ⟨p,hp,e⟩:=List.mem_map.1 hm
   exact hf p hp e
 · rcases hmem p hp with rfl | h'
   · exact hq
   · exact h.sz p h'
 · rcases hmem p hp with rfl | h'
   · exact hfg
   · exact h.lt p h'
 · rcases hmem p hp with rfl | h'
   · exact hq0
   · exact h.pos p h'
theorem join_ok {P w:List AP} {m g:Nat} (h:PathP P (8 * m + 1) g) (hw:P.Perm w) (hs:SortA w) {f:Nat} {q:Rat} {ok:Bool} (hf:f < g) (hg:g < 1000000) (hq:SzQ q 8) (hq0:0 < q) (hl:P.length ≤ m) (hm:m < 8)
   (at0:Int) (b1:Bool) (b2 b3:List Int) :
   ∃ P',P'.Perm (along f q ok w) ∧ PathP P' (8 * (m + 1) + 1) g ∧ P'.length ≤ m + 1 ∧
     pathshap_place_join at0 b1 b2 b3 (f:Int) (canQ q).1.1 (canQ q).1.2 (canQ q).2 ok (encK P (wtP P)) = some (at0,b1,b2,b3,(f:Int),(canQ q).1.1,(canQ q).1.2,(canQ q).2,ok,encK P' (wtP P')):=by
 have c0:¬ (f:Int) < 0:=by omega
 rcases find_ix (P:=P) (f:=f) with hn | ⟨a,ha,he,hn⟩
 · have h1 := h.mono (show 8 * m + 1 ≤ 8 * (m + 1) + 1 by omega)
   have hq1:=hq.mono (show 8 ≤ 8 * (m + 1) + 1 by omega)
   refine ⟨P ++ [(f,q,ok)],?_,h1.snoc hn hq1 hq0 (by omega) hf,by rw [List.length_append];simp;omega,?_⟩
   · have hn2 : ∀ p ∈ w, p.1 ≠ f := fun p hp => hn p (hw.symm.mem_iff.1 hp)
     have:(P ++ [((f,q,ok):AP)]).Perm ((f,q,ok) :: P):=List.perm_append_comm.trans (List.Perm.refl _)
     exact (this.trans (List.Perm.cons _ hw)).trans (along_new hn2).symm
   · have he := Extend_ok h1 (f := f) (q := q) (ok := ok) hn hq1 hq0 (by omega) (by omega) (by omega)
     rw [pathshap_place_join,cnd' c0,Find_not hn (by omega),Option.bind_some]
     dsimp only
     rw [cnd' (by omega)]
     show (pathshap_Path_Extend (f:Int) (canQ q) ok (encK P (wtP P))).bind _ = _
     rw [he];rfl
 · have ho := (h.out ha).mono (show 8 * m + 1 ≤ 8 * (m + 1) + 1 by omega)
   have hno:=h.notin ha
   rw [he] at hno
   have hz:SzQ P[a].2.1 (8 * m + 1):=h.sz _ (List.getElem_mem ha)
   have hz0:0 < P[a].2.1:=h.pos _ (List.getElem_mem ha)
   have hq1:SzQ (q * P[a].2.1) (8 * (m + 1) + 1):=(hq.mul hz).mono (by omega)
   have hqz:0 < q * P[a].2.1:=Rat.mul_pos hq0 hz0
   have hol:=outP1_len ha
   have hm1:=ratio_Mul_ok (hq.sm (by omega)) (hz.sm (by omega))
   rw [rv_canQ,rv_canQ] at hm1
   have hm1:ratio_Mul (((canQ q).1.1,(canQ q).1.2),(canQ q).2) (canQ P[a].2.1) = some (canQ (q * P[a].2.1)):=hm1
   refine ⟨outP1 P a ++ [(f,q * P[a].2.1,P[a].2.2 && ok)],?_,ho.snoc hno hq1 hqz (by omega) hf,by rw [List.length_append];simp;omega,?_⟩
   · have hmem : (f, P[a].2.1, P[a].2.2) ∈ w := by
      have:(P[a]:AP) = (f,P[a].2.1,P[a].2.2):=by rw [← he]
      rw [← this]
      exact hw.mem_iff.1 (List.getElem_mem ha)
     obtain ⟨r,r1,r2⟩:=along_old (q:=q) (ok:=ok) hs hmem
     have e1:(P[a]:AP) = (f,P[a].2.1,P[a].2.2):=by rw [← he]
     have p1:((f,P[a].2.1,P[a].2.2) :: outP1 P a).Perm ((f,P[a].2.1,P[a].2.2) :: r):=by
      have:=outP1_perm ha
      rw [e1] at this
      exact (this.symm.trans hw).trans r1
     have p2:=List.Perm.cons_inv p1
     have p3:(outP1 P a ++ [((f,q * P[a].2.1,P[a].2.2 && ok):AP)]).Perm ((f,q * P[a].2.1,P[a].2.2 && ok) :: outP1 P a):=List.perm_append_comm.trans (List.Perm.refl _)
     refine (p3.trans ?_).trans r2.symm
     rw [Rat.mul_comm]
     exact List.Perm.cons _ p2
   · have hE := Extend_ok ho (f := f) (q := q * P[a].2.1) (ok := P[a].2.2 && ok) hno hq1 hqz (by omega) (by omega) (by omega)
     have hU:=Unwind_ok h (by omega) ha
     have c1:((a + 1:Nat):Int) > 0:=by omega
     have i1:isub .i64 ((a + 1:Nat):Int) 1 = (a:Int):=by rw [isub_i (by omega) (by omega)];omega
     have d1:(0:Int) ≤ (a:Int):=by omega
     have d2:(a:Int) < ((encW P).length:Int):=by rw [encW_len];omega
     have g1:(encW P)[a]? = some (encP P[a]):=by simp [encW,ha]
     rw [pathshap_place_join,cnd' c0,Find_at ha he hn (by omega),Option.bind_some]
     dsimp only
     rw [cnd c1,Parts15_ok (by omega),Option.bind_some,i1]
     dsimp only
     rw [cnd2 d1 d2,Int.toNat_natCast,g1,Option.bind_some]
     show (ratio_Mul (((canQ q).1.1,(canQ q).1.2),(canQ q).2) (canQ P[a].2.1)).bind _ = _
     rw [hm1,Option.bind_some]
     cases ok with
     | true =>
      rw [Bool.and_true] at hE ⊢
      rw [cond_true,hU,Option.bind_some]
      dsimp only
      show (pathshap_Path_Extend (f:Int) (canQ (q * P[a].2.1)) P[a].2.2 _).bind _ = _
      rw [hE];rfl
     | false =>
      rw [Bool.and_false] at hE ⊢
      rw [cond_false,hU,Option.bind_some]
      dsimp only
      rw [hE];rfl
def lfT (P:List AP) (v:Rat) (f i:Nat):Rat:=match P[i]? with
 | some p=>if p.1 = f then sumP P i * (one0 p.2.2 - p.2.1) * v else 0
 | none=>0
def lfAdd (P:List AP) (v:Rat) (f:Nat):Rat:=rsum (lfT P v f) P.length
theorem lfT_at {P:List AP} {v:Rat} {f i:Nat} (h:i < P.length):lfT P v f i = if P[i].1 = f then sumP P i * (one0 P[i].2.2 - P[i].2.1) * v else 0:=by
 simp only [lfT,List.getElem?_eq_getElem h]
def apF (p:AP):FP:=(p.1,fcP p)
theorem reachA_prod (P:List AP) (S:Nat):reachA S P = prodP (P.map apF) S:=by
 unfold reachA prodP
 rw [List.map_map]
 congr 1
theorem sumP_EE {P:List AP} {a:Nat} (h:a < P.length):sumP P a = EE ((outP1 P a).map fcP) fun k=>wq k ((outP1 P a).length + 1):=by
 have hl:=outP1_len h
 rw [EE_rsum,List.length_map,hl]
 unfold sumP
 refine rsum_congr fun i _=>?_
 unfold wtP ekP
 rw [Rat.mul_comm,hl]
theorem reachA_perm {P Q:List AP} (h:P.Perm Q) (S:Nat):reachA S P = reachA S Q:=lprod_perm (h.map _)
theorem lfAdd_shap {P:List AP} {k n f:Nat} (h:PathP P k n) (hf:f < n) (v:Rat):lfAdd P v f = shapQ (fun S=>reachA S P * v) n f:=by
 rw [shapQ_mul]
 rcases find_ix (P:=P) (f:=f) with hn | ⟨a,ha,he,_⟩
 · have e1 : shapQ (fun S => reachA S P) n f = 0 := by
    have:(fun S=>reachA S P) = prodP (P.map apF):=funext fun S=>reachA_prod P S
    rw [this]
    refine shap_none fun hm=>?_
    rw [List.map_map] at hm
    obtain ⟨p,hp,e⟩:=List.mem_map.1 hm
    exact hn p hp e
   rw [e1,Rat.zero_mul]
   refine rsum_zeros fun i hi=>?_
   rw [lfT_at hi,if_neg (hn _ (List.getElem_mem hi))]
 · have hno := h.notin ha
   rw [he] at hno
   have ho:=h.out ha
   have e1:shapQ (fun S=>reachA S P) n f = (one0 P[a].2.2 - P[a].2.1) * sumP P a:=by
    have e2:(fun S=>reachA S P) = fun S=>pick (fcP P[a]) (S.testBit f) * prodP ((outP1 P a).map apF) S:=funext fun S=>by
      rw [reachA_perm (outP1_perm ha) S]
      show facP S P[a] * reachA S (outP1 P a) = _
      rw [reachA_prod,← he]
      rfl
    rw [e2,shap_prod hf (by rw [List.map_map];exact ho.nd) (fun p hp=>by
      obtain ⟨x,hx,rfl⟩:=List.mem_map.1 hp
      exact ho.lt x hx) (fun hm=>by
      rw [List.map_map] at hm
      obtain ⟨p,hp,e⟩:=List.mem_map.1 hm
      exact hno p hp e),sumP_EE ha]
    rw [List.map_map,List.length_map]
    rfl
   rw [e1]
   have hone:∀ i,i < P.length → i ≠ a → lfT P v f i = 0:=fun i hi hne=>by
    rw [lfT_at hi]
    refine if_neg fun e=>hne ?_
    have hnd:=h.nd
    have hpw:=List.pairwise_iff_getElem.1 (show (P.map (·.1)).Pairwise (· ≠ ·) from hnd)
    rcases Nat.lt_trichotomy i a with hlt | heq | hlt
    · have h5 := hpw i a (by simpa using hi) (by simpa using ha) hlt
      simp [e,he] at h5
    · exact heq
    · have h5 := hpw a i (by simpa using ha) (by simpa using hi) hlt
      simp [e,he] at h5
   have key:∀ n,n ≤ P.length → rsum (lfT P v f) n = if a < n then lfT P v f a else 0:=by
    intro n
    induction n with
    | zero=>intro _;rw [if_neg (by omega)];rfl
    | succ n ih =>
      intro hn
      rw [rsum,ih (by omega)]
      by_cases e:n = a
      · subst e;rw [if_neg (by omega),if_pos (by omega),Rat.zero_add]
      · rw [hone n (by omega) e, Rat.add_zero]
        by_cases h1:a < n
        · rw [if_pos h1,if_pos (by omega)]
        · rw [if_neg h1,if_neg (by omega)]
   unfold lfAdd
   rw [key _ (Nat.le_refl _),if_pos ha,lfT_at ha,if_pos he]
   grind
theorem ekS8 {k n:Nat} (hk:k ≤ 70) (hn:n ≤ 8):ekS k n ≤ 20000:=by
 have h1:=ekS_mono k hn
 have h2:ekS k 8 ≤ ekS 70 8:=by
  have:∀ n,ekS k n ≤ ekS 70 n:=by
   intro n
   induction n with
   | zero=>exact Nat.le_refl _
   | succ n ih=>simp only [ekS];omega
  exact this 8
 have h3:ekS 70 8 ≤ 20000:=by decide +kernel
 omega
theorem rsum_szQ {f:Nat → Rat} {k:Nat}:∀ n,(∀ i,i < n → SzQ (f i) k) → SzQ (rsum f n) (1 + n * (k + 1)):=by
 intro n
 induction n with
 | zero=>intro _;exact SzQ.zero.mono (by omega)
 | succ n ih =>
  intro h
  have h1:=ih fun i hi=>h i (by omega)
  have e:(n + 1) * (k + 1) = n * (k + 1) + (k + 1):=Nat.succ_mul _ _
  exact (h1.add (h n (by omega))).mono (by omega)
theorem sumP_sz {P:List AP} {k g a:Nat} (h:PathP P k g) (hk:k ≤ 70) (hl:P.length ≤ 8) (ha:a < P.length):SzQ (sumP P a) 170000:=by
 have hS:=ekS8 (k:=k) (n:=(outP1 P a).length) hk (by have:=outP1_len ha;omega)
 have:=rsum_szQ (k:=20030) P.length (fun i hi=>(outW_sz h hk ha i hi).mono (by omega))
 refine this.mono ?_
 have:P.length * (20030 + 1) ≤ 8 * (20030 + 1):=Nat.mul_le_mul_right _ hl
 omega
theorem lfT_sz {P:List AP} {k g:Nat} {v:Rat} (h:PathP P k g) (hk:k ≤ 70) (hl:P.length ≤ 8) (hv:SzQ v 200) (f:Nat) {i:Nat} (hi:i < P.length):SzQ (lfT P v f i) 180000:=by
 rw [lfT_at hi]
 split
 · have h1 := sumP_sz h hk hl hi
   have h2:SzQ P[i].2.1 k:=h.sz _ (List.getElem_mem hi)
   have h3:=(one0_sz P[i].2.2).sub h2
   exact ((h1.mul h3).mul hv).mono (by omega)
 · exact SzQ.zero.mono (by omega)
theorem leaf_ok {t:List NODE} {row:List CELL} {fx:Int} {on:Bool} {n k:Nat} {P:List AP} (h:PathP P k n) (hk:k ≤ 70) (hl:P.length ≤ 8) {i:Nat} (hi:i < t.length) {gn:Rat} (hg:SzQ gn 100) (hs:TSz t 4)
  {o:Nat → Rat} (ho:∀ f,f < n → SzQ (o f) 100000000000) (hn:n < 1000000) (a4:Int) (a5:Bool) (a6 a7:List Int) (a8:Bool) :
  pathshap_walker_leaf (i:Int) (canQ gn).1.1 (canQ gn).1.2 (canQ gn).2 a4 a5 a6 a7 a8 t row fx on (flo n o) (encK P (wtP P)) =
   some (flo n (fun f=>o f + lfAdd P (gn * rv (nVal (nodeAt t i))) f),t,row,fx,on,encK P (wtP P)):=by
 obtain ⟨v,hv⟩:∃ v,v = gn * rv (nVal (nodeAt t i)):=⟨_,rfl⟩
 have zv:=(hs.at hi).2.1
 have m0:=ratio_Mul_ok (a:=canQ gn) (b:=nVal (nodeAt t i)) (hg.sm (by decide)) (zv.sm (by decide))
 rw [rv_canQ,← hv] at m0
 have vsz:SzQ v 200:=by rw [hv];exact (hg.mul (zv.szQ (by decide))).mono (by decide)
 rw [← hv]
 have key:=lp_up (step:=pathshap_walker_leaf_s3) (fun j=>((encW P,(P.length:Int),(j:Int),()),(((i:Int),(canQ gn).1.1,(canQ gn).1.2,(canQ gn).2,a4,a5,a6,a7,a8,()),((canQ v).1.1,(canQ v).1.2,(canQ v).2,()),(t,row,fx,on,flo n (fun f=>o f + rsum (lfT P v f) j),()),(encK P (wtP P),()),()))) P.length
  (r:=((),((t,row,fx,on,flo n (fun f=>o f + rsum (lfT P v f) P.length),()),(encK P (wtP P),()),()))) (by omega) (by
  intro g j hj
  have d0:(j:Int) < (P.length:Int):=by omega
  have d1:(0:Int) ≤ (j:Int):=by omega
  have d2:(j:Int) < ((encW P).length:Int):=by rw [encW_len];exact d0
  have g1:=encW_get hj
  have q1:iadd .i64 (j:Int) 1 = ((j + 1:Nat):Int):=iadd1 (by omega)
  have s1:=Sum15_ok h hk hj
  have zp:SzQ P[j].2.1 k:=h.sz _ (List.getElem_mem hj)
  have n1:=ratio_Neg_ok (zp.sm (by omega))
  rw [rv_canQ] at n1
  have hfl:P[j].1 < n:=h.lt _ (List.getElem_mem hj)
  obtain ⟨F,hF⟩:∃ F,F = P[j].1:=⟨_,rfl⟩
  rw [← hF] at hfl
  have zn:SzQ (-P[j].2.1) (k + 4):=by
   have:=SzQ.zero.sub zp
   rw [Rat.sub_eq_add_neg,Rat.zero_add] at this
   exact this.mono (by omega)
  have c1:(0:Int) ≤ ((F:Nat):Int):=by omega
  have c2:((F:Nat):Int) < ((flo n (fun f=>o f + rsum (lfT P v f) j)).length:Int):=by rw [flo_len];omega
  have g2:=flo_get (n:=n) (f:=F) (fun f=>o f + rsum (lfT P v f) j) hfl
  have zs:=sumP_sz h hk hl hj
  have zr:SzQ (o F + rsum (lfT P v F) j) 100010000000:=by
   have h1:SzQ (rsum (lfT P v F) j) (1 + j * (180000 + 1)):=rsum_szQ j (fun i hi=>lfT_sz h hk hl vsz F (by omega))
   have:j * (180000 + 1) ≤ 8 * (180000 + 1):=Nat.mul_le_mul_right _ (by omega)
   exact ((ho F hfl).add h1).mono (by omega)
  have hset:∀ x,x = o F + rsum (lfT P v F) (j + 1) → (flo n (fun f=>o f + rsum (lfT P v f) j)).set F (canQ x) = flo n (fun f=>o f + rsum (lfT P v f) (j + 1)):=fun x hx=>by
   refine flo_set hx.symm fun f hf=>?_
   rw [rsum,lfT_at hj,if_neg (by rw [← hF];exact fun e=>hf e.symm),Rat.add_zero]
  show pathshap_walker_leaf_s3 g ((encW P,(P.length:Int),(j:Int),()),_) = _
  rw [pathshap_walker_leaf_s3,cnd d0,cnd2 d1 d2,Int.toNat_natCast,g1,Option.bind_some,q1,s1,Option.bind_some]
  show (ratio_Neg (canQ P[j].2.1)).bind _ = _
  rw [n1,Option.bind_some]
  have e1:(encP P[j]).1 = (F:Int):=by rw [hF];rfl
  have e2:(encP P[j]).2.2 = P[j].2.2:=rfl
  rw [e1,e2]
  cases hok:P[j].2.2 with
  | true =>
   have a1:=ratio_Add_ok (SzQ.one.sm (by decide)) (zn.sm (by omega))
   rw [rv_canQ,rv_canQ,← Rat.sub_eq_add_neg] at a1
   have z1:SzQ (1 - P[j].2.1) 100:=(SzQ.one.sub zp).mono (by omega)
   have m1:=ratio_Mul_ok (zs.sm (by decide)) (z1.sm (by decide))
   rw [rv_canQ,rv_canQ] at m1
   have z2:SzQ (sumP P j * (1 - P[j].2.1)) 170100:=(zs.mul z1).mono (by omega)
   have m2:=ratio_Mul_ok (z2.sm (by decide)) (vsz.sm (by decide))
   rw [rv_canQ,rv_canQ] at m2
   have m2:ratio_Mul (canQ (sumP P j * (1 - P[j].2.1))) (((canQ v).1.1,(canQ v).1.2),(canQ v).2) = _:=m2
   have z3:SzQ (sumP P j * (1 - P[j].2.1) * v) 170300:=(z2.mul vsz).mono (by omega)
   have a2:=ratio_Add_ok (zr.sm (by decide)) (z3.sm (by decide))
   rw [rv_canQ,rv_canQ] at a2
   have hx:=hset (o F + rsum (lfT P v F) j + sumP P j * (1 - P[j].2.1) * v) (by
    rw [rsum,lfT_at hj,if_pos hF.symm,hok];simp only [one0,if_true];grind)
   rw [cond_true,ratio_One_ok,Option.bind_some,a1,Option.bind_some,cnd2 c1 c2,Int.toNat_natCast,g2,Option.bind_some,m1,Option.bind_some,m2,Option.bind_some,a2,Option.bind_some,cnd2 c1 c2,Option.bind_some,hx]
  | false =>
   have m1:=ratio_Mul_ok (zs.sm (by decide)) (zn.sm (by omega))
   rw [rv_canQ,rv_canQ] at m1
   have z2:SzQ (sumP P j * (-P[j].2.1)) 170100:=(zs.mul zn).mono (by omega)
   have m2:=ratio_Mul_ok (z2.sm (by decide)) (vsz.sm (by decide))
   rw [rv_canQ,rv_canQ] at m2
   have m2:ratio_Mul (canQ (sumP P j * (-P[j].2.1))) (((canQ v).1.1,(canQ v).1.2),(canQ v).2) = _:=m2
   have z3:SzQ (sumP P j * (-P[j].2.1) * v) 170300:=(z2.mul vsz).mono (by omega)
   have a2:=ratio_Add_ok (zr.sm (by decide)) (z3.sm (by decide))
   rw [rv_canQ,rv_canQ] at a2
   have hx:=hset (o F + rsum (lfT P v F) j + sumP P j * (-P[j].2.1) * v) (by
    rw [rsum,lfT_at hj,if_pos hF.symm,hok];simp only [one0,Bool.false_eq_true,if_false];grind)
   rw [cond_false,cnd2 c1 c2,Int.toNat_natCast,g2,Option.bind_some,m1,Option.bind_some,m2,Option.bind_some,a2,Option.bind_some,cnd2 c1 c2,Option.bind_some,hx]) (by
  intro g
  rw [pathshap_walker_leaf_s3,cnd' (by omega)])
 have e0:flo n (fun f=>o f + rsum (lfT P v f) 0) = flo n o:=flo_congr fun f _=>Rat.add_zero _
 rw [e0] at key
 have key:lp pathshap_walker_leaf_s3 K0 ((encW P,(P.length:Int),0,()),(((i:Int),(canQ gn).1.1,(canQ gn).1.2,(canQ gn).2,a4,a5,a6,a7,a8,()),((canQ v).1.1,(canQ v).1.2,(canQ v).2,()),(t,row,fx,on,flo n o,()),(encK P (wtP P),()),())) = _:=key
 have m0:ratio_Mul (((canQ gn).1.1,(canQ gn).1.2),(canQ gn).2) t[i].2.2.2.2.2.2.1 = some (canQ v):=by
  rw [nodeAt_get hi] at m0;exact m0
 rw [pathshap_walker_leaf,cnd (by omega),Int.toNat_natCast,List.getElem?_eq_getElem hi,Option.bind_some,m0,Option.bind_some,Parts15_ok (by omega),Option.bind_some]
 dsimp only
 rw [encW_len,key,Option.bind_some]
 dsimp only
 rw [flo_len,flo_len,Nat.beq_refl,cond_true,Option.bind_some]
 rfl
def kOn (t:List NODE) (row:List CELL) (fx:Int) (on:Bool) (i:Nat) (side:Bool):Bool:=if nFeat (nodeAt t i) = fx then (if on then goL t row i == side else true) else true
def kG (t:List NODE) (fx:Int) (on:Bool) (i c:Nat) (g:Rat):Rat:=if nFeat (nodeAt t i) = fx then (if on then g else g * (cov t c / cov t i)) else g
def kF (t:List NODE) (fx:Int) (i:Nat):Int:=if nFeat (nodeAt t i) = fx then -1 else nFeat (nodeAt t i)
def kW (t:List NODE) (row:List CELL) (fx:Int) (i c:Nat) (side:Bool) (w:List AP):List AP:=if nFeat (nodeAt t i) = fx then w else along (featT t i) (cov t c / cov t i) (goL t row i == side) w
abbrev PL:=Rat × List AP
def legsF (t:List NODE) (row:List CELL) (fx:Int) (on:Bool):TR → List AP → Rat → List PL
 | .leaf i,w,g=>[(g * rv (nVal (nodeAt t i)),w)]
 | .split i l r,w,g =>
  (if kOn t row fx on i true then legsF t row fx on l (kW t row fx i l.top true w) (kG t fx on i l.top g) else []) ++
  (if kOn t row fx on i false then legsF t row fx on r (kW t row fx i r.top false w) (kG t fx on i r.top g) else [])
def visF (t:List NODE) (row:List CELL) (fx:Int) (on:Bool):TR → Nat
 | .leaf i=>1
 | .split i l r=>1 + (if kOn t row fx on i true then visF t row fx on l else 0) + (if kOn t row fx on i false then visF t row fx on r else 0)
theorem visF_pos (t:List NODE) (row:List CELL) (fx:Int) (on:Bool) (T:TR):0 < visF t row fx on T:=by cases T <;> simp [visF];omega
theorem visF_le (t:List NODE) (row:List CELL) (fx:Int) (on:Bool) (T:TR):visF t row fx on T ≤ T.size:=by
 induction T with
 | leaf i=>simp [visF,TR.size]
 | split i l r ihl ihr =>
  simp only [visF,TR.size]
  split <;> split <;> omega
structure IT where
 T:TR
 P:List AP
 g:Rat
 s:PART
 w:List AP
abbrev ITE:=Int × (Option ((Option (List (Int × RAT × CELL))) × Unit)) × RAT × PART
def encI (x:IT):ITE:=((x.T.top:Int),some (some (encK x.P (wtP x.P)),()),canQ x.g,x.s)
def GoodI (t:List NODE) (n:Nat) (x:IT):Prop:=∃ m,Is t (n:Int) x.T ∧ m + x.T.deep ≤ 8 ∧ SzQ x.g (8 * m + 1) ∧ SortA x.w ∧
 ((x.s.1 = -1 ∧ PathP x.P (8 * m + 1) n ∧ x.P.length ≤ m ∧ x.P.Perm x.w) ∨
  ∃ (m' f:Nat) (q:Rat) (ok:Bool) (w0:List AP),m = m' + 1 ∧ x.s = ((f:Int),canQ q,ok) ∧ f < n ∧ SzQ q 8 ∧ 0 < q ∧ PathP x.P (8 * m' + 1) n ∧ x.P.length ≤ m' ∧ x.P.Perm w0 ∧ SortA w0 ∧ x.w = along f q ok w0)
theorem GoodI.join {t:List NODE} {n:Nat} {x:IT} (h:GoodI t n x) (hn:n < 1000000):∃ (m:Nat) (P':List AP),Is t (n:Int) x.T ∧ m + x.T.deep ≤ 8 ∧ SzQ x.g (8 * m + 1) ∧ SortA x.w ∧ PathP P' (8 * m + 1) n ∧ P'.length ≤ m ∧ P'.Perm x.w ∧
   pathshap_place_join (x.T.top:Int) (canQ x.g).1.1 (canQ x.g).1.2 (canQ x.g).2 x.s.1 x.s.2.1.1.1 x.s.2.1.1.2 x.s.2.1.2 x.s.2.2 (encK x.P (wtP x.P)) =
    some ((x.T.top:Int),(canQ x.g).1.1,(canQ x.g).1.2,(canQ x.g).2,x.s.1,x.s.2.1.1.1,x.s.2.1.1.2,x.s.2.1.2,x.s.2.2,encK P' (wtP P')):=by
 obtain ⟨m,h1,h2,h3,h4,h5⟩:=h
 have hd:=x.T.deep_pos
 rcases h5 with ⟨a1,a2,a3,a4⟩ | ⟨m',f,q,ok,w0,b1,b2,b3,b4,b5,b6,b7,b8,b9,b10⟩
 · refine ⟨m, x.P, h1, h2, h3, h4, a2, a3, a4, ?_⟩
   rw [a1,pathshap_place_join,cnd (by omega)]
 · subst b1
   obtain ⟨P',p1,p2,p3,p4⟩:=join_ok b6 b8 b9 (ok:=ok) b3 hn b4 b5 b7 (by omega) (x.T.top:Int) (canQ x.g).1.1 (canQ x.g).1.2 (canQ x.g).2
   refine ⟨m' + 1,P',h1,h2,h3,h4,p2,p3,by rw [b10];exact p1,?_⟩
   rw [b2]
   exact p4
def kid (t:List NODE) (row:List CELL) (fx:Int) (on:Bool) (i:Nat) (side:Bool) (c:TR) (P w:List AP) (g:Rat):IT :=
 ⟨c,P,kG t fx on i c.top g,(kF t fx i,canQ (cov t c.top / cov t i),goL t row i == side),kW t row fx i c.top side w⟩
theorem kid_good {t:List NODE} {row:List CELL} {fx:Int} {on:Bool} {n i m:Nat} {side:Bool} {c:TR} {P w:List AP} {g:Rat} (hs:TSz t 4) (hcov:CoversP t) (hi:i < t.length) (f0:0 ≤ nFeat t[i]) (f1:nFeat t[i] < (n:Int)) (hc:Is t (n:Int) c)
   (hm:m + 1 + c.deep ≤ 8) (hg:SzQ g (8 * m + 1)) (hw:SortA w) (hP:PathP P (8 * m + 1) n) (hl:P.length ≤ m) (hpw:P.Perm w):GoodI t n (kid t row fx on i side c P w g):=by
 have hsh:=share_sz hs hc.top_lt hi
 refine ⟨m + 1,hc,hm,?_,?_,?_⟩
 · show SzQ (kG t fx on i c.top g) _
   unfold kG
   split
   · split
     · exact hg.mono (by omega)
     · exact (hg.mul hsh).mono (by omega)
   · exact hg.mono (by omega)
 · show SortA (kW t row fx i c.top side w)
   unfold kW
   split
   · exact hw
   · exact along_sort hw
 · by_cases hf : nFeat (nodeAt t i) = fx
   · refine .inl ⟨?_, hP.mono (by omega), by show P.length ≤ _; omega, ?_⟩
     · show kF t fx i = -1
       exact if_pos hf
     · show P.Perm (kW t row fx i c.top side w)
       rw [kW,if_pos hf];exact hpw
   · refine .inr ⟨m, featT t i, cov t c.top / cov t i, goL t row i == side, w, rfl, ?_, ?_, hsh, ?_, hP, hl, hpw, hw, ?_⟩
     · show (kF t fx i, _, _) = _
       rw [kF,if_neg hf,featT,nodeAt_get hi]
       rw [show ((((nFeat t[i]).toNat:Nat)):Int) = nFeat t[i] by omega]
     · rw [featT,nodeAt_get hi];omega
     · have h1 : 0 < cov t c.top := by have := hcov c.top hc.top_lt; rwa [← cov_get hc.top_lt] at this
       have h2:0 < cov t i:=by have:=hcov i hi;rwa [← cov_get hi] at this
       rw [Rat.div_def]
       exact Rat.mul_pos h1 (Rat.inv_pos.2 h2)
     · show kW t row fx i c.top side w = _
       exact if_neg hf
theorem Copy15_ok {P:List AP} {w:Nat → Rat} (hl:P.length ≤ 1000000):pathshap_Path_Copy (encK P w) = some (encK P w,encK P w):=by
 rw [pathshap_Path_Copy,blt (by rw [encK_len];simp;omega),cond_true,List.nil_append]
theorem child_ok {t:List NODE} {row:List CELL} {fx:Int} {on:Bool} {i:Nat} {c:TR} {P w:List AP} {W:Nat → Rat} {g:Rat} {m:Nat} (hs:TSz t 4) (hc:CSz row 9) (hcov:CoversP t) (hi:i < t.length) (hleaf:nLeaf t[i] = false) (f0:0 ≤ nFeat t[i]) (f1:nFeat t[i] < (row.length:Int))
   (hl:c.top < t.length) (hP:P.length ≤ 1000000) (hg:SzQ g 1000) (side:Bool) (out:List RAT) (a4:Int) (a5:Bool) (a6 a7:List Int) (a8:Bool) :
   pathshap_walker_child (i:Int) (canQ g).1.1 (canQ g).1.2 (canQ g).2 a4 a5 a6 a7 a8 (c.top:Int) side t row fx on out (encK P W) =
    some (out,(c.top:Int),(canQ (kG t fx on i c.top g)).1.1,(canQ (kG t fx on i c.top g)).1.2,(canQ (kG t fx on i c.top g)).2,kF t fx i,(canQ (cov t c.top / cov t i)).1.1,(canQ (cov t c.top / cov t i)).1.2,(canQ (cov t c.top / cov t i)).2,(goL t row i == side),kOn t row fx on i side,t,row,fx,on,encK P W,encK P W):=by
 obtain ⟨cc,g1,g2,g3⟩:=goL_ok (f:=0) hs hc hi f0 f1
 have z:=hs _ (List.getElem_mem hi)
 have zl:=hs _ (List.getElem_mem hl)
 have hne:rv (nCov t[i]) ≠ 0:=by have:=hcov.ne i hi;rwa [cov_get hi] at this
 have d1:=ratio_Div_ok (a:=nCov t[c.top]) (b:=nCov t[i]) (zl.2.2.sm (by decide)) (z.2.2.sm (by decide))
 rw [if_neg hne,← cov_get hl,← cov_get hi] at d1
 have hsh:=share_sz hs hl hi
 have hb:∀ {α:Type} {a b:α},(bif Nat.beq out.length out.length then a else b) = a:=fun {α a b}=>by rw [Nat.beq_refl,cond_true]
 have hfe:nFeat (nodeAt t i) = t[i].2.1:=by rw [nodeAt_get hi]
 have hgl:(!nLeaf t[i] && goes t[i] cc) = goL t row i:=by rw [hleaf,Bool.not_false,Bool.true_and,g3]
 rw [pathshap_walker_child,cnd (by omega),Int.toNat_natCast,List.getElem?_eq_getElem hi,Option.bind_some,cnd (by omega),Int.toNat_natCast,List.getElem?_eq_getElem hl,Option.bind_some]
 show (ratio_Div (nCov t[c.top]) (nCov t[i])).bind _ = _
 rw [d1,Option.bind_some,cnd (by exact f0)]
 show ((row[(nFeat t[i]).toNat]?).bind _) = _
 rw [g1,Option.bind_some,Left_ok z.1 (by decide) g2 (by decide),Option.bind_some,hgl,Copy15_ok hP,Option.bind_some]
 by_cases hf:nFeat (nodeAt t i) = fx
 · have e1 : (!decide (t[i].2.1 = fx)) = false := by rw [← hfe, decide_eq_true hf]; rfl
   have e2:kF t fx i = -1:=if_pos hf
   rw [e1,cond_false,e2]
   cases on with
   | true =>
    have e3:kG t fx true i c.top g = g:=by rw [kG,if_pos hf];rfl
    have e4:kOn t row fx true i side = (goL t row i == side):=by rw [kOn,if_pos hf];rfl
    rw [cond_true,hb,Option.bind_some,e3,e4]
   | false =>
    have e3:kG t fx false i c.top g = g * (cov t c.top / cov t i):=by rw [kG,if_pos hf];rfl
    have e4:kOn t row fx false i side = true:=by rw [kOn,if_pos hf];rfl
    have m1:=ratio_Mul_ok (hg.sm (by decide)) (hsh.sm (by decide))
    rw [rv_canQ,rv_canQ] at m1
    have m1:ratio_Mul (((canQ g).1.1,(canQ g).1.2),(canQ g).2) (canQ (cov t c.top / cov t i)) = _:=m1
    rw [cond_false,m1,Option.bind_some,hb,Option.bind_some,e3,e4]
 · have e1 : (!decide (t[i].2.1 = fx)) = true := by rw [← hfe, decide_eq_false hf]; rfl
   have e2:kF t fx i = t[i].2.1:=by rw [kF,if_neg hf,hfe]
   have e3:kG t fx on i c.top g = g:=if_neg hf
   have e4:kOn t row fx on i side = true:=if_neg hf
   rw [e1,cond_true,hb,Option.bind_some,e2,e3,e4]
def kidsL (t:List NODE) (row:List CELL) (fx:Int) (on:Bool) (i:Nat) (l r:TR) (P w:List AP) (g:Rat):List IT :=
 (if kOn t row fx on i false then [kid t row fx on i false r P w g] else []) ++ (if kOn t row fx on i true then [kid t row fx on i true l P w g] else [])
theorem kids_ok {t:List NODE} {row:List CELL} {fx:Int} {on:Bool} {i:Nat} {l r:TR} {P w:List AP} {g:Rat} (hs:TSz t 4) (hc:CSz row 9) (hcov:CoversP t) (hi:i < t.length) (hleaf:nLeaf t[i] = false) (f0:0 ≤ nFeat t[i]) (f1:nFeat t[i] < (row.length:Int))
  (hl:l.top < t.length) (hr:r.top < t.length) (hP:P.length ≤ 1000000) (hg:SzQ g 1000) (out:List RAT) (a4:Int) (a5:Bool) (a6 a7:List Int) (a8:Bool) (c0:Bool) (c1:Int) (c2:Bool) (c3 c4:List Int) (c7 c8:Bool) (c9 c10:List Int) (c11:Bool) (c12 c13:List Int)
  (base:List ITE) (hb:base.length ≤ 1000000) :
  lp pathshap_walker_walk_s9 K0 (((false,(true,())),0,()),(((i:Int),(canQ g).1.1,(canQ g).1.2,(canQ g).2,a4,a5,a6,a7,a8,()),(c0,c1,c2,c3,c4,(l.top:Int),(r.top:Int),c7,c8,c9,c10,c11,c12,c13,()),(encK P (wtP P),()),(t,row,fx,on,out,base,()),())) =
    some ((),((t,row,fx,on,out,base ++ (kidsL t row fx on i l r P w g).map encI,()),())):=by
 obtain ⟨A,eA⟩:∃ A:List IT,A = if kOn t row fx on i false then [kid t row fx on i false r P w g] else []:=⟨_,rfl⟩
 obtain ⟨B,eB⟩:∃ B:List IT,B = if kOn t row fx on i true then [kid t row fx on i true l P w g] else []:=⟨_,rfl⟩
 have eK:kidsL t row fx on i l r P w g = A ++ B:=by rw [eA,eB];rfl
 have lA:A.length ≤ 1:=by rw [eA];split <;> simp
 obtain ⟨K,hK⟩:∃ K:Nat → List ITE,K = fun j=>if j = 0 then [] else if j = 1 then A.map encI else (A ++ B).map encI:=⟨_,rfl⟩
 have K0':K 0 = []:=by rw [hK];rfl
 have K1:K 1 = A.map encI:=by rw [hK];rfl
 have K2:K 2 = (A ++ B).map encI:=by rw [hK];rfl
 have ov:over out 0 out = out:=over_all rfl
 have hc1:=fun side=>child_ok (fx:=fx) (on:=on) (c:=r) (P:=P) (w:=w) (W:=wtP P) (g:=g) (m:=0) hs hc hcov hi hleaf f0 f1 hr hP hg side out a4 a5 a6 a7 a8
 have hc2:=fun side=>child_ok (fx:=fx) (on:=on) (c:=l) (P:=P) (w:=w) (W:=wtP P) (g:=g) (m:=0) hs hc hcov hi hleaf f0 f1 hl hP hg side out a4 a5 a6 a7 a8
 have key:=lp_up (step:=pathshap_walker_walk_s9) (fun j=>(((false,(true,())),(j:Int),()),(((i:Int),(canQ g).1.1,(canQ g).1.2,(canQ g).2,a4,a5,a6,a7,a8,()),(c0,c1,c2,c3,c4,(l.top:Int),(r.top:Int),c7,c8,c9,c10,c11,c12,c13,()),(encK P (wtP P),()),(t,row,fx,on,out,base ++ K j,()),()))) 2
  (r:=((),((t,row,fx,on,out,base ++ K 2,()),()))) (by omega) (by
  intro g' j hj
  have hj2:j = 0 ∨ j = 1:=by omega
  rcases hj2 with rfl | rfl
  · rw [pathshap_walker_walk_s9, cnd (by omega), cnd (by omega)]
    show ((([false,true]:List Bool)[0]?).bind _) = _
    rw [show (([false,true]:List Bool)[0]?) = some false from rfl,Option.bind_some,cond_false,hc1 false,Option.bind_some]
    dsimp only
    rw [K0',List.append_nil,show ((0 + 1:Nat)) = 1 from rfl,K1,ov]
    cases hk:kOn t row fx on i false with
    | true =>
     have eA':A = [kid t row fx on i false r P w g]:=by rw [eA,hk];rfl
     rw [cond_true,blt (by simp;omega),cond_true,eA']
     rfl
    | false =>
     have eA':A = []:=by rw [eA,hk];rfl
     rw [cond_false,eA',List.map_nil,List.append_nil]
     rfl
  · rw [pathshap_walker_walk_s9, cnd (by omega), cnd (by omega)]
    show ((([false,true]:List Bool)[1]?).bind _) = _
    rw [show (([false,true]:List Bool)[1]?) = some true from rfl,Option.bind_some,cond_true,hc2 true,Option.bind_some]
    dsimp only
    rw [show ((1 + 1:Nat)) = 2 from rfl,K1,K2,ov]
    cases hk:kOn t row fx on i true with
    | true =>
     have eB':B = [kid t row fx on i true l P w g]:=by rw [eB,hk];rfl
     rw [cond_true,blt (by simp;omega),cond_true,eB',List.map_append,← List.append_assoc]
     rfl
    | false =>
     have eB':B = []:=by rw [eB,hk];rfl
     rw [cond_false,eB',List.append_nil]
     rfl) (by
  intro g'
  rw [pathshap_walker_walk_s9,cnd' (by omega)])
 rw [K0',K2,← eK,List.append_nil] at key
 exact key
def totL (n f:Nat) (l:List PL):Rat:=lsum (l.map fun y=>shapQ (fun S=>reachA S y.2 * y.1) n f)
theorem totL_append (n f:Nat) (a b:List PL):totL n f (a ++ b) = totL n f a + totL n f b:=by rw [totL,List.map_append,lsum_append];rfl
def totI (t:List NODE) (row:List CELL) (fx:Int) (on:Bool) (n f:Nat) (x:IT):Rat:=totL n f (legsF t row fx on x.T x.w x.g)
def visL (t:List NODE) (row:List CELL) (fx:Int) (on:Bool):List IT → Nat
 | []=>0
 | x :: L=>visF t row fx on x.T + visL t row fx on L
theorem visL_append (t:List NODE) (row:List CELL) (fx:Int) (on:Bool) (a b:List IT):visL t row fx on (a ++ b) = visL t row fx on a + visL t row fx on b:=by
 induction a with
 | nil=>simp [visL]
 | cons x a ih=>simp only [List.cons_append,visL,ih];omega
theorem visL_len (t:List NODE) (row:List CELL) (fx:Int) (on:Bool) (a:List IT):a.length ≤ visL t row fx on a:=by
 induction a with
 | nil=>simp [visL]
 | cons x a ih=>have:=visF_pos t row fx on x.T;simp only [List.length_cons,visL];omega
theorem kids_vis (t:List NODE) (row:List CELL) (fx:Int) (on:Bool) (i:Nat) (l r:TR) (P w:List AP) (g:Rat) :
  visF t row fx on (.split i l r) = 1 + visL t row fx on (kidsL t row fx on i l r P w g):=by
 rw [kidsL,visL_append]
 simp only [visF]
 cases kOn t row fx on i true <;> cases kOn t row fx on i false <;> simp [visL,kid] <;> omega
theorem kids_tot (t:List NODE) (row:List CELL) (fx:Int) (on:Bool) (n f i:Nat) (l r:TR) (P w:List AP) (g:Rat) :
   totL n f (legsF t row fx on (.split i l r) w g) = lsum ((kidsL t row fx on i l r P w g).map (totI t row fx on n f)):=by
 rw [kidsL,List.map_append,lsum_append]
 simp only [legsF]
 rw [totL_append,Rat.add_comm]
 congr 1
 · cases kOn t row fx on i false
   · rfl
   · simp only [if_true,List.map_cons,List.map_nil,lsum,Rat.add_zero];rfl
 · cases kOn t row fx on i true
   · rfl
   · simp only [if_true,List.map_cons,List.map_nil,lsum,Rat.add_zero];rfl
theorem walk15_ok {t:List NODE} {row:List CELL} {fx:Int} {on:Bool} {T:TR} {o:Nat → Rat} (hs:TSz t 4) (hc:CSz row 9) (hcov:CoversP t) (hT:Is t (row.length:Int) T) (h0:T.top = 0) (hd:T.deep ≤ 8) (hz:T.size ≤ 100) (hrl:row.length ≤ 64)
  {S:Nat} (ho:∀ f,f < row.length → SzQ (o f) S) (hS:S ≤ 50000000000) :
  (∃ st,pathshap_walker_walk t row fx on (flo row.length o) [] = some (flo row.length (fun f=>o f + totL row.length f (legsF t row fx on T [] 1)),t,row,fx,on,st)) ∧ ∀ f,f < row.length → SzQ (o f + totL row.length f (legsF t row fx on T [] 1)) (S + 200000000):=by
 obtain ⟨n,hn⟩:∃ n,n = row.length:=⟨_,rfl⟩
 obtain ⟨N,hN⟩:∃ N,N = visF t row fx on T:=⟨_,rfl⟩
 have hN2:N ≤ 100:=by rw [hN];exact Nat.le_trans (visF_le _ _ _ _ _) hz
 obtain ⟨x0,hx0⟩:∃ x0:IT,x0 = ⟨T,[],1,(-1,(((false,[]),[]),false)),[]⟩:=⟨_,rfl⟩
 have t0:∀ f,totI t row fx on n f x0 = totL n f (legsF t row fx on T [] 1):=fun f=>by rw [hx0];rfl
 have hg0:GoodI t n x0:=by
  refine ⟨0,by rw [hx0,hn];exact hT,by rw [hx0];show 0 + T.deep ≤ 8;omega,by rw [hx0];exact SzQ.one,by rw [hx0];exact List.Pairwise.nil,.inl ⟨by rw [hx0],?_,by simp [hx0],by simp [hx0]⟩⟩
  rw [hx0]
  exact ⟨List.Pairwise.nil,fun p hp=>absurd hp (by simp),by simp,fun p hp=>absurd hp (by simp),fun p hp=>absurd hp (by simp)⟩
 rw [← hn]
 obtain ⟨res,hres,hlp⟩:=lp_inv (step:=pathshap_walker_walk_s1)
  (fun j v=>∃ (L:List IT) (o':Nat → Rat),v = ((),((t,row,fx,on,flo n o',L.map encI,()),())) ∧ (∀ x ∈ L,GoodI t n x) ∧ j + visL t row fx on L = N ∧ (∀ f,f < n → SzQ (o' f) (S + 2000000 * j)) ∧ ∀ f,f < n → o' f + lsum (L.map (totI t row fx on n f)) = o f + totI t row fx on n f x0)
  (fun r=>(∃ (st:List ITE),r = ((),((t,row,fx,on,flo n (fun f=>o f + totI t row fx on n f x0),st,()),()))) ∧ ∀ f,f < n → SzQ (o f + totI t row fx on n f x0) (S + 200000000)) N
  (v:=((),((t,row,fx,on,flo n o,[x0].map encI,()),())))
  ⟨[x0],o,rfl,fun x hx=>by rw [List.mem_singleton.1 hx];exact hg0,by simp only [visL,hx0];omega,fun f hf=>(ho f (by omega)).mono (by omega),fun f hf=>by simp only [List.map_cons,List.map_nil,lsum,Rat.add_zero]⟩
  (by omega)
  (by
   rintro j v hj ⟨L,o',rfl,hL,hv,hsz,htot⟩
   rcases List.eq_nil_or_concat L with rfl | ⟨L0,x,rfl⟩
   · simp only [visL] at hv;omega
   rw [List.concat_eq_append] at *
   have hx:GoodI t n x:=hL x (by simp)
   obtain ⟨m,P',j1,j2,j3,j4,j5,j6,j7,j8⟩:=hx.join (by omega)
   rw [visL_append] at hv
   simp only [visL,Nat.add_zero] at hv
   have hvp:=visF_pos t row fx on x.T
   have hvl:=visL_len t row fx on L0
   obtain ⟨base,hbase⟩:∃ base,base = L0.map encI:=⟨_,rfl⟩
   have lb:base.length = L0.length:=by rw [hbase];simp
   have eS:(L0 ++ [x]).map encI = base ++ [encI x]:=by rw [hbase];simp
   have hi:=j1.top_lt
   have qS:∀ y:ITE,isub .i64 ((base ++ [y]).length:Int) 1 = (base.length:Int):=fun y=>by
     rw [List.length_append,List.length_singleton,isub_i (by omega) (by omega)];omega
   have gS:(base ++ [encI x])[base.length]? = some (encI x):=by simp
   have sS:∀ y,(base ++ [encI x]).set base.length y = base ++ [y]:=fun y=>by simp
   have cS:∀ y:ITE,(decide ((0:Int) ≤ (base.length:Int)) && decide (((base.length:Int):Int) ≤ (base.length:Int)) && decide (((base.length:Int):Int) ≤ ((base ++ [y]).length:Int))) = true:=fun y=>by
     simp only [Bool.and_eq_true,decide_eq_true_eq,List.length_append,List.length_singleton];omega
   have tS:∀ y:ITE,(base ++ [y]).take (((base.length:Int) - 0).toNat) = base:=fun y=>by
     rw [show ((base.length:Int) - 0).toNat = base.length by omega];simp
   have hpos:(((base ++ [encI x]).length:Nat):Int) > 0:=by rw [List.length_append,List.length_singleton];omega
   have d2:(base.length:Int) < (((base ++ [encI x]).length:Nat):Int):=by rw [List.length_append,List.length_singleton];omega
   have walkE:∀ g,pathshap_walker_walk_s1 g ((),((t,row,fx,on,flo n o',(L0 ++ [x]).map encI,()),())) =
       bif t[x.T.top].1 then ((pathshap_walker_leaf (x.T.top:Int) (canQ x.g).1.1 (canQ x.g).1.2 (canQ x.g).2 x.s.1 x.s.2.1.1.1 x.s.2.1.1.2 x.s.2.1.2 x.s.2.2 t row fx on (flo n o') (encK P' (wtP P'))).bind fun r8=>g ((()),((r8.2.1,r8.2.2.1,r8.2.2.2.1,r8.2.2.2.2.1,(over (flo n o') 0 r8.1),base,()),())))
       else ((lp pathshap_walker_walk_s9 K0 (((false,(true,())),0,()),(((x.T.top:Int),(canQ x.g).1.1,(canQ x.g).1.2,(canQ x.g).2,x.s.1,x.s.2.1.1.1,x.s.2.1.1.2,x.s.2.1.2,x.s.2.2,()),(t[x.T.top].1,t[x.T.top].2.1,t[x.T.top].2.2.1.1.1,t[x.T.top].2.2.1.1.2,t[x.T.top].2.2.1.2,t[x.T.top].2.2.2.1,t[x.T.top].2.2.2.2.1,t[x.T.top].2.2.2.2.2.1,t[x.T.top].2.2.2.2.2.2.1.1.1,t[x.T.top].2.2.2.2.2.2.1.1.2,t[x.T.top].2.2.2.2.2.2.1.2,t[x.T.top].2.2.2.2.2.2.2.1.1,t[x.T.top].2.2.2.2.2.2.2.1.2,t[x.T.top].2.2.2.2.2.2.2.2,()),(encK P' (wtP P'),()),(t,row,fx,on,flo n o',base,()),()))).bind fun t12=>g ((()),((t12.2.1.1,t12.2.1.2.1,t12.2.1.2.2.1,t12.2.1.2.2.2.1,t12.2.1.2.2.2.2.1,t12.2.1.2.2.2.2.2.1,()),()))):=fun g=>by
     rw [pathshap_walker_walk_s1,eS,cnd hpos,qS,cnd2 (by omega) d2,Int.toNat_natCast,gS,Option.bind_some]
     show ((some (some (encK x.P (wtP x.P)),()):Option ((Option (List (Int × RAT × CELL))) × Unit)).bind _) = _
     rw [Option.bind_some]
     show ((some (encK x.P (wtP x.P)):Option (List (Int × RAT × CELL))).bind _) = _
     rw [Option.bind_some,sS,qS,cS,cond_true,tS]
     show (pathshap_place_join (x.T.top:Int) (canQ x.g).1.1 (canQ x.g).1.2 (canQ x.g).2 x.s.1 x.s.2.1.1.1 x.s.2.1.1.2 x.s.2.1.2 x.s.2.2 (encK x.P (wtP x.P))).bind _ = _
     rw [j8,Option.bind_some]
     dsimp only
     rw [cnd (by omega),Int.toNat_natCast,List.getElem?_eq_getElem hi,Option.bind_some]
   have hm7:m ≤ 7:=by have:=x.T.deep_pos;omega
   cases hxT:x.T with
   | leaf i =>
     rw [hxT] at j1 j2 hi hv
     simp only [hxT] at walkE
     obtain ⟨i1,i2⟩:=j1
     have hlf:=leaf_ok (t:=t) (row:=row) (fx:=fx) (on:=on) j5 (by omega) (by omega) i1 (j3.mono (by omega)) hs (o:=o') (fun f hf=>(hsz f hf).mono (by omega)) (by omega) x.s.1 x.s.2.1.1.1 x.s.2.1.1.2 x.s.2.1.2 x.s.2.2
     obtain ⟨v,hv'⟩:∃ v,v = x.g * rv (nVal (nodeAt t i)):=⟨_,rfl⟩
     rw [← hv'] at hlf
     have hvz:SzQ v 200:=by rw [hv'];exact ((j3.mono (show 8 * m + 1 ≤ 100 by omega)).mul ((hs.at i1).2.1.szQ (by decide))).mono (by decide)
     refine ⟨((),((t,row,fx,on,flo n (fun f=>o' f + lfAdd P' v f),L0.map encI,()),())),⟨L0,_,rfl,fun y hy=>hL y (by simp [hy]),by simp only [visF] at hv;omega,fun f hf=>?_,fun f hf=>?_⟩,fun g=>?_⟩
     · have h1 := rsum_szQ (k := 180000) P'.length (fun i hi => lfT_sz j5 (by omega) (by omega) hvz f hi)
       have h1:SzQ (lfAdd P' v f) _:=h1
       have:P'.length * (180000 + 1) ≤ 8 * (180000 + 1):=Nat.mul_le_mul_right _ (by omega)
       exact ((hsz f hf).add h1).mono (by omega)
     · have e := htot f hf
       rw [List.map_append,lsum_append] at e
       simp only [List.map_cons,List.map_nil,lsum,Rat.add_zero] at e
       have e2:totI t row fx on n f x = lfAdd P' v f:=by
         rw [totI,hxT,lfAdd_shap j5 hf]
         simp only [legsF,totL,List.map_cons,List.map_nil,lsum,Rat.add_zero]
         rw [← hv']
         refine shapQ_congr hf fun S _=>?_
         rw [reachA_perm j7]
       rw [e2] at e
       rw [← e];grind
     · rw [walkE g]
       show (bif t[i].1 then _ else _) = _
       rw [show t[i].1 = true from i2,cond_true]
       show (pathshap_walker_leaf (i:Int) _ _ _ _ _ _ _ _ _ _ _ _ _ _).bind _ = _
       rw [hlf,Option.bind_some]
       dsimp only
       rw [over_all (by rw [flo_len,flo_len]),hbase]
   | split i l r =>
     rw [hxT] at j1 j2 hi hv
     simp only [hxT,TR.top] at walkE
     obtain ⟨i1,i2,f0,f1,i3,i4,i5,i6⟩:=j1
     simp only [TR.deep] at j2
     have hkd:=kids_ok (t:=t) (row:=row) (fx:=fx) (on:=on) (i:=i) (l:=l) (r:=r) (P:=P') (w:=x.w) (g:=x.g) hs hc hcov i1 i2 f0 (by omega) i5.top_lt i6.top_lt (by omega) (j3.mono (by omega)) (flo n o') x.s.1 x.s.2.1.1.1 x.s.2.1.1.2 x.s.2.1.2 x.s.2.2
       false t[i].2.1 t[i].2.2.1.1.1 t[i].2.2.1.1.2 t[i].2.2.1.2 t[i].2.2.2.2.2.1 t[i].2.2.2.2.2.2.1.1.1 t[i].2.2.2.2.2.2.1.1.2 t[i].2.2.2.2.2.2.1.2 t[i].2.2.2.2.2.2.2.1.1 t[i].2.2.2.2.2.2.2.1.2 t[i].2.2.2.2.2.2.2.2 base (by omega)
     refine ⟨((),((t,row,fx,on,flo n o',(L0 ++ kidsL t row fx on i l r P' x.w x.g).map encI,()),())),⟨L0 ++ kidsL t row fx on i l r P' x.w x.g,o',rfl,fun y hy=>?_,?_,fun f hf=>(hsz f hf).mono (by omega),fun f hf=>?_⟩,fun g=>?_⟩
     · rcases List.mem_append.1 hy with hy | hy
       · exact hL y (by simp [hy])
       · have hgl : ∀ side, GoodI t n (kid t row fx on i side l P' x.w x.g) := fun side => kid_good hs hcov i1 f0 f1 i5 (by omega) j3 j4 j5 j6 j7
         have hgr:∀ side,GoodI t n (kid t row fx on i side r P' x.w x.g):=fun side=>kid_good hs hcov i1 f0 f1 i6 (by omega) j3 j4 j5 j6 j7
         rcases List.mem_append.1 hy with hy | hy
         · split at hy
           · rw [List.mem_singleton.1 hy];exact hgr _
           · cases hy
         · split at hy
           · rw [List.mem_singleton.1 hy];exact hgl _
           · cases hy
     · have := kids_vis t row fx on i l r P' x.w x.g
       rw [visL_append];omega
     · have e := htot f hf
       rw [List.map_append,lsum_append] at e
       simp only [List.map_cons,List.map_nil,lsum,Rat.add_zero] at e
       have e2:totI t row fx on n f x = lsum ((kidsL t row fx on i l r P' x.w x.g).map (totI t row fx on n f)):=by
         rw [totI,hxT];exact kids_tot t row fx on n f i l r P' x.w x.g
       rw [e2] at e
       rw [List.map_append,lsum_append];exact e
     · rw [walkE g]
       show (bif t[i].1 then _ else _) = _
       rw [show t[i].1 = false from i2,cond_false]
       rw [show t[i].2.2.2.1 = (l.top:Int) from i3,show t[i].2.2.2.2.1 = (r.top:Int) from i4,hkd,Option.bind_some]
       dsimp only
       rw [hbase,← List.map_append])
  (by
   rintro v ⟨L,o',rfl,hL,hv,hsz,htot⟩
   have hl:=visL_len t row fx on L
   have:L = []:=by
     cases L with
     | nil=>rfl
     | cons x L=>simp only [List.length_cons] at hl;omega
   subst this
   refine ⟨((),((t,row,fx,on,flo n o',List.map encI [],()),())),⟨⟨List.map encI [],?_⟩,fun f hf=>?_⟩,fun g=>?_⟩
   · have : flo n o' = flo n (fun f => o f + totI t row fx on n f x0) := flo_congr fun f hf => by
       rw [← htot f hf];simp only [List.map_nil,lsum,Rat.add_zero]
     rw [this]
   · rw [← htot f hf]
     simp only [List.map_nil,lsum,Rat.add_zero]
     exact (hsz f hf).mono (by omega)
   · rw [pathshap_walker_walk_s1,cnd' (by simp)])
 obtain ⟨⟨st,rfl⟩,hrs⟩:=hres
 refine ⟨⟨st,?_⟩,fun f hf=>by have:=hrs f hf;rwa [t0] at this⟩
 have e0:[x0].map encI = [((0:Int),(some (some (encK [] (wtP [])),()):Option ((Option (List (Int × RAT × CELL))) × Unit)),canQ 1,((-1:Int),(((false,[]),[]),false)))]:=by
  rw [hx0]
  simp only [List.map_cons,List.map_nil,encI,h0];rfl
 rw [e0] at hlp
 rw [pathshap_walker_walk,New15_ok,Option.bind_some,ratio_One_ok,Option.bind_some]
 have hlp:lp pathshap_walker_walk_s1 K0 (((),((t,row,fx,on,flo n o,[(0,((some ((some (encK [] (wtP []))),())),(canQ 1,((-1),(((false,[]),[]),false)))))],()),()))) = _:=hlp
 rw [hlp,Option.bind_some]
 dsimp only
 rw [flo_len,flo_len,Nat.beq_refl,cond_true,Option.bind_some]
 simp only [t0]
def trV (t:List NODE) (row:List CELL) (fx:Int) (on:Bool) (f:Nat):Rat:=totL row.length f (legsF t row fx on (treeOf t) [] 1)
def pvals (m:MODEL) (row:List CELL) (fx:Int) (on:Bool) (f:Nat):Rat:=rsum (fun j=>trV (treeAt m j) row fx on f) m.2.length
theorem Askd.deep8 {m:MODEL} {row:List CELL} (h:Askd m row) {i:Nat} (hi:i < m.2.length):(treeOf m.2[i]).deep ≤ 8 ∧ (treeOf m.2[i]).size ≤ 15:=by
 have h1:=h.good.treeOf hi
 have hsh:ShapeP m.2[i]:=h.good.2 1 (by decide) i hi
 have h2:=tree_size hsh h1.1
 have h3:=deep_half (treeOf m.2[i])
 have h4:=h.mt _ (List.getElem_mem hi)
 omega
theorem Askd.walk {m:MODEL} {row:List CELL} (h:Askd m row) {i:Nat} (hi:i < m.2.length) (fx:Int) (on:Bool) {o:Nat → Rat} {S:Nat} (ho:∀ f,f < row.length → SzQ (o f) S) (hS:S ≤ 50000000000) :
  (∃ st,pathshap_walker_walk m.2[i] row fx on (flo row.length o) [] = some (flo row.length (fun f=>o f + trV (treeAt m i) row fx on f),m.2[i],row,fx,on,st)) ∧ ∀ f,f < row.length → SzQ (o f + trV (treeAt m i) row fx on f) (S + 200000000):=by
 obtain ⟨t1,t2,t3,t4,t5⟩:=h.tree hi
 rw [t5] at t2 t3 ⊢
 obtain ⟨d1,d2⟩:=h.deep8 hi
 exact walk15_ok t1 h.cs (h.cov hi) t2 t3 d1 (by omega) h.f64 ho hS
theorem trV_sz {m:MODEL} {row:List CELL} (h:Askd m row) {i:Nat} (hi:i < m.2.length) (fx:Int) (on:Bool) {f:Nat} (hf:f < row.length):SzQ (trV (treeAt m i) row fx on f) 200000010:=by
 have:=(h.walk hi fx on (o:=fun _=>0) (S:=1) (fun _ _=>SzQ.zero) (by decide)).2 f hf
 rw [Rat.zero_add] at this
 exact this.mono (by decide)
theorem pzeros_ok {n:Nat} (h:n ≤ 1000000):pathshap_zeros (n:Int) = some (flo n fun _=>0):=by
 have key:=lp_up (step:=pathshap_zeros_s3) (fun i=>((flo i (fun _=>0),(n:Int),(i:Int),()),())) n (r:=((flo n (fun _=>0),()),())) (by omega) (by
  intro g i hi
  have d0:(i:Int) < (n:Int):=by omega
  rw [pathshap_zeros_s3,cnd d0,ratio_Zero_ok,Option.bind_some,blt (by rw [flo_len];omega),cond_true,iadd1 (by omega)]
  simp only [flo,List.range_succ,List.map_append]
  rfl) (by
  intro g
  rw [pathshap_zeros_s3,cnd' (by omega)])
 have key:lp pathshap_zeros_s3 K0 (([],(n:Int),0,()),()) = _:=key
 rw [pathshap_zeros,key];rfl
theorem all15_ok {m:MODEL} {row:List CELL} (h:Askd m row) (fx:Int) (on:Bool):pathshap_all m row fx on = some (flo row.length (pvals m row fx on)):=by
 have ml:=h.ml
 have h64:=h.f64
 have hsz:∀ j,j ≤ m.2.length → ∀ f,f < row.length → SzQ (rsum (fun j=>trV (treeAt m j) row fx on f) j) 1500000000:=fun j hj f hf=>by
  have h1:=rsum_szQ (f:=fun j=>trV (treeAt m j) row fx on f) (k:=200000010) j (fun i hi=>trV_sz h (by omega) fx on hf)
  have:j * (200000010 + 1) ≤ 6 * (200000010 + 1):=Nat.mul_le_mul_right _ (by omega)
  exact h1.mono (by omega)
 have key:=lp_up (step:=pathshap_all_s3) (fun j=>((row,fx,on,flo row.length (fun f=>rsum (fun j=>trV (treeAt m j) row fx on f) j),m.2,(m.2.length:Int),(j:Int),()),())) m.2.length (r:=((flo row.length (pvals m row fx on),()),())) (by omega) (by
  intro g j hj
  have d0:(j:Int) < (m.2.length:Int):=by omega
  obtain ⟨st,hw⟩:=(h.walk hj fx on (hsz j (by omega)) (by decide)).1
  rw [pathshap_all_s3,cnd d0,cnd (by omega),Int.toNat_natCast,List.getElem?_eq_getElem hj,Option.bind_some,hw,Option.bind_some]
  dsimp only
  rw [over_all (by rw [flo_len,flo_len]),iadd1 (by omega)]
  rfl) (by
  intro g
  rw [pathshap_all_s3,cnd' (by omega)]
  rfl)
 have key:lp pathshap_all_s3 K0 ((row,fx,on,flo row.length (fun _=>0),m.2,(m.2.length:Int),0,()),()) = _:=key
 rw [pathshap_all,show m.1 = ((row.length:Nat):Int) by have:=h.len;omega,pzeros_ok (by omega),Option.bind_some,key];rfl
theorem Values15_ok {m:MODEL} {row:List CELL} (h:Askd m row):pathshap_Values m row = some (flo row.length (pvals m row (-1) false),0):=by
 obtain ⟨e,_,h1,h2⟩:=fitsOk (row:=row) (by have:=h.ml;omega) (fun t ht=>by have:=h.mt t ht;omega) h.ms
 have e0:e = 0:=h2.2 ⟨h.good,h.len⟩
 subst e0
 rw [pathshap_Values,h1,Option.bind_some,show (!decide ((0:Int) = 0)) = false by decide,cond_false,all15_ok h];rfl
theorem Askd.one {t:List NODE} {row:List CELL} (ht:t.length ≤ 15) (hs:TSz t 4) (hc:CSz row 9) (hg:Good ((row.length:Int),[t])):Askd ((row.length:Int),[t]) row :=
 ⟨hg,rfl,fun x hx=>by rw [List.mem_singleton.1 hx];exact hs,by simp,fun x hx=>by rw [List.mem_singleton.1 hx];exact ht,hc⟩
theorem Tree15_ok {t:List NODE} {row:List CELL} (ht:t.length ≤ 15) (hs:TSz t 4) (hc:CSz row 9) (hg:Good ((row.length:Int),[t])):pathshap_Tree t row = some (flo row.length (trV t row (-1) false),0):=by
 rw [pathshap_Tree,Values15_ok (Askd.one ht hs hc hg),Option.bind_some]
 have:pvals ((row.length:Int),[t]) row (-1) false = trV t row (-1) false:=funext fun f=>by
  show 0 + trV _ _ _ _ _ = _
  rw [Rat.zero_add];rfl
 rw [this]
theorem law15_awake_ok:dendronlaw15_awake = some true:=by decide +kernel
theorem legsF_none {t:List NODE} {row:List CELL} {n:Nat} {T:TR} (h:Is t (n:Int) T):∀ (w:List AP) (g:Rat),legsF t row (-1) false T w g = (legsT t row T w).map fun x=>(g * x.2.1,x.2.2):=by
 induction T with
 | leaf i=>intro w g;rfl
 | split i l r ihl ihr =>
  intro w g
  obtain ⟨h1,h2,f0,f1,h3,h4,h5,h6⟩:=h
  have hne:¬ nFeat (nodeAt t i) = -1:=by rw [nodeAt_get h1];omega
  have e1:(goL t row i == true) = goL t row i:=by cases goL t row i <;> rfl
  have e2:(goL t row i == false) = !goL t row i:=by cases goL t row i <;> rfl
  simp only [legsF,legsT,List.map_append]
  rw [kOn,if_neg hne,if_pos rfl,kOn,if_neg hne,if_pos rfl,kW,if_neg hne,kG,if_neg hne,kW,if_neg hne,kG,if_neg hne,e1,e2,ihl h5,ihr h6]
theorem SortA.nodup {w:List AP} (h:SortA w):(w.map (·.1)).Nodup:=by
 unfold List.Nodup
 rw [List.pairwise_map]
 exact h.imp fun hab=>by omega
theorem along_pos {f:Nat} {q:Rat} {ok:Bool} {w:List AP} (h:∀ p ∈ w,0 < p.2.1) (hq:0 < q):∀ p ∈ along f q ok w,0 < p.2.1:=by
 induction w with
 | nil=>intro p hp;simp [along] at hp;subst hp;exact hq
 | cons a w ih =>
  have ha:=h a List.mem_cons_self
  have hw:∀ p ∈ w,0 < p.2.1:=fun p hp=>h p (List.mem_cons_of_mem _ hp)
  intro p hp
  simp only [along] at hp
  split at hp
  · rcases List.mem_cons.1 hp with rfl | hp
    · exact ha
    · exact ih hw p hp
  · split at hp
    · rcases List.mem_cons.1 hp with rfl | hp
      · exact Rat.mul_pos ha hq
      · exact hw p hp
    · rcases List.mem_cons.1 hp with rfl | hp
      · exact hq
      · rcases List.mem_cons.1 hp with rfl | hp
        · exact ha
        · exact hw p hp
theorem share_pos {t:List NODE} (hc:CoversP t) {a i:Nat} (ha:a < t.length) (hi:i < t.length):0 < cov t a / cov t i:=by
 have h1:0 < cov t a:=by have:=hc a ha;rwa [← cov_get ha] at this
 have h2:0 < cov t i:=by have:=hc i hi;rwa [← cov_get hi] at this
 rw [Rat.div_def]
 exact Rat.mul_pos h1 (Rat.inv_pos.2 h2)
theorem legs_pos {t:List NODE} {row:List CELL} {g:Int} {T:TR} (hc:CoversP t) (h:Is t g T):∀ {w:List AP},(∀ p ∈ w,0 < p.2.1) → ∀ x ∈ legsT t row T w,∀ p ∈ x.2.2,0 < p.2.1:=by
 induction T with
 | leaf i=>intro w hw x hx;simp only [legsT,List.mem_singleton] at hx;subst hx;exact hw
 | split i l r ihl ihr =>
  obtain ⟨h1,h2,f0,f1,h3,h4,h5,h6⟩:=h
  intro w hw x hx
  simp only [legsT,List.mem_append] at hx
  rcases hx with hx | hx
  · exact ihl h5 (along_pos hw (share_pos hc h5.top_lt h1)) x hx
  · exact ihr h6 (along_pos hw (share_pos hc h6.top_lt h1)) x hx
theorem legs_path {t:List NODE} {row:List CELL} {n:Nat} {T:TR} (hs:TSz t 4) (hc:CoversP t) (h:Is t (n:Int) T) (hd:T.deep ≤ 8):∀ x ∈ legsT t row T [],PathP x.2.2 70 n ∧ x.2.2.length ≤ 8:=by
 intro x hx
 have h1:=legsT_sz hs h (WSz.nil n) x hx
 have h2:=legs_sort T (w:=[]) List.Pairwise.nil x hx
 have h3:=legs_pos hc h (w:=[]) (fun p hp=>absurd hp (by simp)) x hx
 have hl:=h1.1.2.1
 exact ⟨⟨h2.nodup,fun p hp=>(h1.1.1 p hp).mono (by omega),by omega,h1.1.2.2,h3⟩,by omega⟩
structure Keeps (g:NODE → NODE) (f f':Int) (c:Rat):Prop where
 leaf:∀ n,nLeaf (g n) = nLeaf n
 l:∀ n,nLeaf n = false → nL (g n) = nL n
 r:∀ n,nLeaf n = false → nR (g n) = nR n
 feat:∀ n,nLeaf n = false → 0 ≤ nFeat n → nFeat n < f → 0 ≤ nFeat (g n) ∧ nFeat (g n) < f'
 fits:∀ n,nLeaf n = true → NodeFits n → NodeFits (g n)
 cov:∀ n,rv (nCov (g n)) = c * rv (nCov n)
 pos:0 < c
 low:0 ≤ f'
 high:f' ≤ 64
variable {g:NODE → NODE} {f f':Int} {c:Rat}
theorem nodeAt_map (hk:Keeps g f f' c) {t:List NODE} {i:Nat} (hi:i < t.length):nodeAt (t.map g) i = g (nodeAt t i):=by
 rw [nodeAt_get hi,nodeAt_get (by simpa using hi),List.getElem_map]
theorem cov_map (hk:Keeps g f f' c) {t:List NODE} {i:Nat} (hi:i < t.length):cov (t.map g) i = c * cov t i:=by
 rw [cov_get hi,cov_get (by simpa using hi),List.getElem_map,hk.cov]
theorem kids_map (hk:Keeps g f f' c) (t:List NODE):kids (t.map g) = kids t:=by
 funext i
 by_cases hi:i < t.length
 · cases hl : nLeaf t[i] with
   | true=>rw [kids_leaf hi hl,kids_leaf (t:=t.map g) (by simpa using hi) (by rw [List.getElem_map,hk.leaf];exact hl)]
   | false=>rw [kids_split hi hl,kids_split (t:=t.map g) (by simpa using hi) (by rw [List.getElem_map,hk.leaf];exact hl),List.getElem_map,hk.l _ hl,hk.r _ hl]
 · unfold kids
   rw [List.getElem?_eq_none (by simpa using hi),List.getElem?_eq_none (by omega)]
theorem cnt_map (hk:Keeps g f f' c) (t:List NODE) (i j:Nat):cnt (t.map g) i j = cnt t i j:=by
 unfold cnt;rw [kids_map hk]
theorem Is.map (hk:Keeps g f f' c) {t:List NODE}:∀ {T:TR},Is t f T → Is (t.map g) f' T:=by
 intro T
 induction T with
 | leaf i =>
  rintro ⟨h,hl⟩
  exact ⟨by simpa using h,by rw [List.getElem_map,hk.leaf];exact hl⟩
 | split i l r ihl ihr =>
  rintro ⟨h,hl,f0,f1,h1,h2,h3,h4⟩
  have hf:=hk.feat _ hl f0 f1
  refine ⟨by simpa using h,?_,?_,?_,?_,?_,ihl h3,ihr h4⟩
  · rw [List.getElem_map,hk.leaf];exact hl
  · rw [List.getElem_map];exact hf.1
  · rw [List.getElem_map];exact hf.2
  · rw [List.getElem_map,hk.l _ hl];exact h1
  · rw [List.getElem_map,hk.r _ hl];exact h2
theorem Good.map {m:MODEL} (h:Good m) (hk:Keeps g m.1 f' c):Good (f',m.2.map (List.map g)):=by
 have len:∀ i,i < (m.2.map (List.map g)).length → i < m.2.length:=fun i hi=>by simpa using hi
 have get:∀ i (hi:i < (m.2.map (List.map g)).length),(m.2.map (List.map g))[i] = (m.2[i]'(len i hi)).map g:=fun i hi=>by rw [List.getElem_map]
 refine ⟨⟨hk.low,hk.high,by simpa using h.1.2.2.1,fun i hi=>?_⟩,fun r hr i hi=>?_⟩
 · rw [show ((f', m.2.map (List.map g)) : MODEL).2[i] = _ from get i hi]
   have hi':=len i hi
   obtain ⟨t1,t2,t3⟩:=h.1.2.2.2 i hi'
   refine ⟨by simpa using t1,by simpa using t2,fun j hj=>?_⟩
   have hj':j < m.2[i].length:=by simpa using hj
   rw [List.getElem_map]
   have hn:=t3 j hj'
   cases hl:nLeaf m.2[i][j] with
   | true=>exact hk.fits _ hl hn
   | false =>
    obtain ⟨r1,r2,r3,r4,r5,r6⟩:=h.ranges hi' j hj' hl
    have hf:=hk.feat _ hl r1 r2
    have:=hk.high
    have a:=hk.l _ hl
    have b:=hk.r _ hl
    obtain ⟨n1,n2,n3,n4,n5,n6⟩:=hn
    exact ⟨hf.1,by omega,by omega,by omega,by omega,by omega⟩
 · rw [show ((f', m.2.map (List.map g)) : MODEL).2[i] = _ from get i hi]
   have hi':=len i hi
   have hr':RangesP (m.2[i].map g) f':=by
    intro j hj hl
    have hj':j < m.2[i].length:=by simpa using hj
    rw [List.getElem_map] at hl ⊢
    rw [hk.leaf] at hl
    obtain ⟨r1,r2,r3,r4,r5,r6⟩:=h.ranges hi' j hj' hl
    have hf:=hk.feat _ hl r1 r2
    rw [hk.l _ hl,hk.r _ hl]
    have e:(((m.2[i].map g).length:Nat):Int) = ((m.2[i].length:Nat):Int):=by rw [List.length_map]
    exact ⟨hf.1,hf.2,r3,e ▸ r4,r5,e ▸ r6⟩
   match r,hr with
   | 0,_=>exact hr'
   | 1,_ =>
    obtain ⟨s1,rk,s2⟩:=h.shape hi'
    refine ⟨fun j h0 hj=>?_,rk,fun j hj=>?_⟩
    · rw [cnt_map hk, List.length_map]
      exact s1 j h0 (by simpa using hj)
    · rw [kids_map hk, List.length_map]
      exact s2 j (by simpa using hj)
   | 2,_ =>
    intro j hj
    rw [List.getElem_map,hk.cov]
    exact Rat.mul_pos hk.pos (h.covers hi' j (by simpa using hj))
   | 3,_ =>
    intro j hj hl
    have hj':j < m.2[i].length:=by simpa using hj
    rw [List.getElem_map] at hl ⊢
    rw [hk.leaf] at hl
    obtain ⟨r1,r2,r3,r4,r5,r6⟩:=h.ranges hi' j hj' hl
    rw [hk.l _ hl,hk.r _ hl,hk.cov,cov_map hk (by omega),cov_map hk (by omega),h.sums hi' j hj' hl,Rat.mul_add]
theorem treeOf_map {m:MODEL} (h:Good m) (hk:Keeps g m.1 f' c) {i:Nat} (hi:i < m.2.length):treeOf (m.2[i].map g) = treeOf m.2[i]:=by
 obtain ⟨h1,h2,h3⟩:=h.treeOf hi
 have:=mkT_eq (m.2[i].length + 1) _ (h1.map hk) h3
 rw [h2] at this
 rw [treeOf,List.length_map]
 exact this
end Go.Proofs.YthcpiofmhkhbeaaDoor.X
