/- Own work: part of the proof; the first line of each part says what it tells. -/
import Derived.Test.YthcpiofmhkhbeaaGreatDoorLc7


namespace Go.Proofs.YthcpiofmhkhbeaaGreatDoor.X
open Go
set_option linter.unusedVariables false
set_option linter.unusedSimpArgs false
theorem lp_allh' {V T:Type} {step:(V → Option T) → V → Option T} (f:Nat → V) (n:Nat) (ok:Nat → Prop) (Q:T → Prop) (fin:T)
  (hs:∀ i,i < n → (∀ j,j < i → ok j) → (ok i∧∀ g,step g (f i)=g (f (i+1))) ∨ (¬ ok i∧∃ r,Q r∧∀ g,step g (f i)=some r)) (he:∀ g,step g (f n)=some fin) :
  ∀ (d i m:Nat),i+d=n → d < m → (∀ j,j < i → ok j) → ((∀ i,i < n → ok i)∧lp step m (f i)=some fin) ∨ (¬ (∀ i,i < n → ok i)∧∃ r,Q r∧lp step m (f i)=some r):=by
 intro d
 induction d with
 | zero =>
  intro i m hi hm hok
  obtain ⟨m,rfl⟩:∃ k,m=k+1:=⟨m - 1,by omega⟩
  have:i=n:=by omega
  subst this
  exact .inl ⟨hok,he _⟩
 | succ d ih =>
  intro i m hi hm hok
  obtain ⟨m,rfl⟩:∃ k,m=k+1:=⟨m - 1,by omega⟩
  rcases hs i (by omega) hok with ⟨h1,h2⟩ | ⟨h1,r,h2,h3⟩
  · have := ih (i + 1) m (by omega) (by omega) (fun j hj => by
     by_cases e:j=i
     · subst e;exact h1
     · exact hok j (by omega))
    have e:lp step (m+1) (f i)=lp step m (f (i+1)):=h2 _
    rw [e];exact this
  · exact .inr ⟨fun h=>h1 (h i (by omega)),r,h2,h3 _⟩
theorem lp_allh {V T:Type} {step:(V → Option T) → V → Option T} (f:Nat → V) (n:Nat) (ok:Nat → Prop) (Q:T → Prop) (fin:T) (hn:n < 18446744073709551616)
  (hs:∀ i,i < n → (∀ j,j < i → ok j) → (ok i∧∀ g,step g (f i)=g (f (i+1))) ∨ (¬ ok i∧∃ r,Q r∧∀ g,step g (f i)=some r)) (he:∀ g,step g (f n)=some fin) :
  ((∀ i,i < n → ok i)∧lp step K0 (f 0)=some fin) ∨ (¬ (∀ i,i < n → ok i)∧∃ r,Q r∧lp step K0 (f 0)=some r) :=
 lp_allh' f n ok Q fin hs he n 0 K0 (by omega) hn (fun j h=>by omega)
def NodeFits (n:NODE):Prop:=0 ≤ nFeat n∧nFeat n ≤ 64∧0 ≤ nL n∧nL n ≤ 255∧0 ≤ nR n∧nR n ≤ 255
def TreeFits (t:List NODE):Prop:=1 ≤ t.length∧t.length ≤ 255∧∀ i (h:i < t.length),NodeFits t[i]
def FitsP (m:MODEL):Prop:=0 ≤ m.1∧m.1 ≤ 64∧m.2.length ≤ 64∧∀ i (h:i < m.2.length),TreeFits m.2[i]
theorem fits_inner (a:List (List NODE)) (b c:Int) {t:List NODE} (hl:t.length < 4294967296) :
   ((∀ i (h:i < t.length),NodeFits t[i])∧lp model_Fits_s9 K0 ((a,b,c,t,((t.length:Nat):Int),0,()),())=some (.inl ((a,b,c,()),()))) ∨
   (¬ (∀ i (h:i < t.length),NodeFits t[i])∧lp model_Fits_s9 K0 ((a,b,c,t,((t.length:Nat):Int),0,()),())=some (.inr ((false,()),()))):=by
 rcases lp_all (step:=model_Fits_s9) (fun i=>((a,b,c,t,((t.length:Nat):Int),(i:Int),()),())) t.length (fun i=>∀ h:i < t.length,NodeFits t[i]) (fun i=>.inr ((false,()),())) (.inl ((a,b,c,()),())) (by omega) (by
    intro i hi
    have d0:(i:Int) < ((t.length:Nat):Int):=by omega
    have d1:(0:Int) ≤ (i:Int):=by omega
    have head:∀ g,model_Fits_s9 g ((a,b,c,t,((t.length:Nat):Int),(i:Int),()),())=bif (decide (nFeat t[i] < 0)) then (some (.inr ((false,()),()))) else (bif (decide (nFeat t[i] > 64)) then (some (.inr ((false,()),()))) else (bif (decide (nL t[i] < 0)) then (some (.inr ((false,()),()))) else (bif (decide (nL t[i] > 255)) then (some (.inr ((false,()),()))) else (bif (decide (nR t[i] < 0)) then (some (.inr ((false,()),()))) else (bif (decide (nR t[i] > 255)) then (some (.inr ((false,()),()))) else (g ((a,b,c,t,((t.length:Nat):Int),((i+1:Nat):Int),()),()))))))):=by
      intro g
      rw [model_Fits_s9,cnd d0,cnd d1,Int.toNat_natCast,List.getElem?_eq_getElem hi,Option.bind_some,iadd1 (by omega)]
      rfl
    by_cases h:NodeFits t[i]
    · refine .inl ⟨fun _ => h, fun g => ?_⟩
      obtain ⟨h1,h2,h3,h4,h5,h6⟩:=h
      rw [head,cnd' (by omega),cnd' (by omega),cnd' (by omega),cnd' (by omega),cnd' (by omega),cnd' (by omega)]
    · refine .inr ⟨fun h' => h (h' hi), fun g => ?_⟩
      rw [head]
      by_cases h1:nFeat t[i] < 0
      · rw [cnd h1]
      by_cases h2:nFeat t[i] > 64
      · rw [cnd' h1,cnd h2]
      by_cases h3:nL t[i] < 0
      · rw [cnd' h1,cnd' h2,cnd h3]
      by_cases h4:nL t[i] > 255
      · rw [cnd' h1,cnd' h2,cnd' h3,cnd h4]
      by_cases h5:nR t[i] < 0
      · rw [cnd' h1,cnd' h2,cnd' h3,cnd' h4,cnd h5]
      by_cases h6:nR t[i] > 255
      · rw [cnd' h1,cnd' h2,cnd' h3,cnd' h4,cnd' h5,cnd h6]
      exfalso;apply h;unfold NodeFits;omega) (by
    intro g
    rw [model_Fits_s9,cnd' (by omega)]) with ⟨h,hlp⟩ | ⟨i,hi,h,hlp⟩
 · exact .inl ⟨fun i hi=>h i hi hi,hlp⟩
 · exact .inr ⟨fun hh=>h (fun hi=>hh i hi),hlp⟩
theorem Fits_ok {m:MODEL} (hl:m.2.length < 4294967296) (ht:∀ t ∈ m.2,t.length < 4294967296):∃ b,model_Fits m=some b∧(b=true ↔ FitsP m):=by
 unfold model_Fits
 by_cases h1:m.1 < 0
 · exact ⟨false,by rw [cnd h1],fun h=>(by cases h),fun h=>by have:=h.1;omega⟩
 by_cases h2:m.1 > 64
 · exact ⟨false,by rw [cnd' h1,cnd h2],fun h=>(by cases h),fun h=>by have:=h.2.1;omega⟩
 by_cases h3:((m.2.length:Nat):Int) > 64
 · exact ⟨false,by rw [cnd' h1,cnd' h2,cnd h3],fun h=>(by cases h),fun h=>by have:=h.2.2.1;omega⟩
 rw [cnd' h1,cnd' h2,cnd' h3]
 rcases lp_all (step:=model_Fits_s4) (fun i=>((m.2,((m.2.length:Nat):Int),(i:Int),()),())) m.2.length (fun i=>∀ h:i < m.2.length,TreeFits m.2[i]) (fun i=>.inr ((false,()),())) (.inl ((),())) (by omega) (by
    intro i hi
    have d0:(i:Int) < ((m.2.length:Nat):Int):=by omega
    have d1:(0:Int) ≤ (i:Int):=by omega
    have hti:=ht _ (List.getElem_mem hi)
    by_cases g1:((m.2[i].length:Nat):Int) < 1
    · refine .inr ⟨fun h => by have := (h hi).1; omega, fun g => ?_⟩
      rw [model_Fits_s4,cnd d0,cnd d1,Int.toNat_natCast,List.getElem?_eq_getElem hi,Option.bind_some,cnd g1]
    by_cases g2:((m.2[i].length:Nat):Int) > 255
    · refine .inr ⟨fun h => by have := (h hi).2.1; omega, fun g => ?_⟩
      rw [model_Fits_s4,cnd d0,cnd d1,Int.toNat_natCast,List.getElem?_eq_getElem hi,Option.bind_some,cnd' g1,cnd g2]
    rcases fits_inner m.2 ((m.2.length:Nat):Int) (i:Int) hti with ⟨h,hlp⟩ | ⟨h,hlp⟩
    · refine .inl ⟨fun _ => ⟨by omega, by omega, h⟩, fun g => ?_⟩
      rw [model_Fits_s4,cnd d0,cnd d1,Int.toNat_natCast,List.getElem?_eq_getElem hi,Option.bind_some,cnd' g1,cnd' g2,hlp,Option.bind_some]
      dsimp only
      rw [iadd1 (by omega)]
      rfl
    · refine .inr ⟨fun hh => h (hh hi).2.2, fun g => ?_⟩
      rw [model_Fits_s4,cnd d0,cnd d1,Int.toNat_natCast,List.getElem?_eq_getElem hi,Option.bind_some,cnd' g1,cnd' g2,hlp,Option.bind_some]) (by
    intro g
    rw [model_Fits_s4,cnd' (by omega)]) with ⟨h,hlp⟩ | ⟨i,hi,h,hlp⟩
 · have hlp : lp model_Fits_s4 K0 ((m.2, ((m.2.length : Nat) : Int), 0, ()), ()) = some (.inl ((), ())) := hlp
   exact ⟨true,by rw [hlp];rfl,fun _=>⟨by omega,by omega,by omega,fun i hi=>h i hi hi⟩,fun _=>rfl⟩
 · have hlp : lp model_Fits_s4 K0 ((m.2, ((m.2.length : Nat) : Int), 0, ()), ()) = some (.inr ((false, ()), ())) := hlp
   exact ⟨false,by rw [hlp];rfl,fun h'=>(by cases h'),fun hp=>absurd (fun hh=>hp.2.2.2 i hh) h⟩
def RuleP (f:Int):Nat → List NODE → Prop
 | 0,t=>RangesP t f
 | 1,t=>ShapeP t
 | 2,t=>CoversP t
 | _,t=>SumsP t
def Good (m:MODEL):Prop:=FitsP m∧∀ r,r < 4 → ∀ i (h:i < m.2.length),RuleP m.1 r m.2[i]
theorem Good.ranges {m:MODEL} (h:Good m) {i:Nat} (hi:i < m.2.length):RangesP m.2[i] m.1:=h.2 0 (by decide) i hi
theorem Good.shape {m:MODEL} (h:Good m) {i:Nat} (hi:i < m.2.length):ShapeP m.2[i]:=h.2 1 (by decide) i hi
theorem Good.covers {m:MODEL} (h:Good m) {i:Nat} (hi:i < m.2.length):CoversP m.2[i]:=h.2 2 (by decide) i hi
theorem Good.sums {m:MODEL} (h:Good m) {i:Nat} (hi:i < m.2.length):SumsP m.2[i]:=h.2 3 (by decide) i hi
def MSz (m:MODEL) (k:Nat):Prop:=∀ t ∈ m.2,TSz t k
theorem check_inner {m:MODEL} {k:Nat} (hf:FitsP m) (hs:MSz m k) (hk:k < 500000000000) {r:Nat} (hr:r < 4) (hlow:∀ r',r' < r → ∀ i (h:i < m.2.length),RuleP m.1 r' m.2[i]) (z:Int×Int×Int×Int) :
   ((∀ i (h:i < m.2.length),RuleP m.1 r m.2[i])∧lp valid_Check_s7 K0 (((r:Int),(r:Int),m.2,((m.2.length:Nat):Int),0,()),((m.1,m.2,()),(z.1,z.2.1,z.2.2.1,z.2.2.2,()),()))=some (.inl (((r:Int),()),((m.1,m.2,()),(z.1,z.2.1,z.2.2.1,z.2.2.2,()),())))) ∨
   (¬ (∀ i (h:i < m.2.length),RuleP m.1 r m.2[i])∧∃ e a b c,e ≠ 0∧lp valid_Check_s7 K0 (((r:Int),(r:Int),m.2,((m.2.length:Nat):Int),0,()),((m.1,m.2,()),(z.1,z.2.1,z.2.2.1,z.2.2.2,()),()))=some (.inr ((),((e,a,b,c,()),())))):=by
 have hlen:=hf.2.2.1
 have ans:∀ i (h:i < m.2.length),∃ a e,(e=0 ↔ RuleP m.1 r m.2[i])∧∀ g,valid_Check_s7 g (((r:Int),(r:Int),m.2,((m.2.length:Nat):Int),(i:Int),()),((m.1,m.2,()),(z.1,z.2.1,z.2.2.1,z.2.2.2,()),())) =
     bif (!decide (e=0)) then some (.inr ((),((e,0,(i:Int),a,()),()))) else g (((r:Int),(r:Int),m.2,((m.2.length:Nat):Int),((i+1:Nat):Int),()),((m.1,m.2,()),(z.1,z.2.1,z.2.2.1,z.2.2.2,()),())):=by
   intro i hi
   have d0:(i:Int) < ((m.2.length:Nat):Int):=by omega
   have d1:(0:Int) ≤ (i:Int):=by omega
   have htf:=hf.2.2.2 i hi
   have htl:m.2[i].length < 4294967296:=by have:=htf.2.1;omega
   have ht0:0 < m.2[i].length:=htf.1
   have hts:=hs _ (List.getElem_mem hi)
   match r,hr with
   | 0, _ =>
     obtain ⟨a,e,h1,h2⟩:=ranges_ok (f:=m.1) htl
     refine ⟨a,e,h2,fun g=>?_⟩
     rw [valid_Check_s7,cnd d0,cnd d1,Int.toNat_natCast,List.getElem?_eq_getElem hi,Option.bind_some,cnd (by rfl),h1,Option.bind_some,iadd1 (by omega)]
     rfl
   | 1, _ =>
     obtain ⟨a,e,h1,h2⟩:=shape_ok htl ht0 (hlow 0 (by decide) i hi)
     refine ⟨a,e,h2,fun g=>?_⟩
     rw [valid_Check_s7,cnd d0,cnd d1,Int.toNat_natCast,List.getElem?_eq_getElem hi,Option.bind_some,cnd' (by decide),cnd (by rfl),h1,Option.bind_some,iadd1 (by omega)]
     rfl
   | 2, _ =>
     obtain ⟨a,e,h1,h2⟩:=covers_ok htl hts (by omega)
     refine ⟨a,e,h2,fun g=>?_⟩
     rw [valid_Check_s7,cnd d0,cnd d1,Int.toNat_natCast,List.getElem?_eq_getElem hi,Option.bind_some,cnd' (by decide),cnd' (by decide),cnd (by rfl),h1,Option.bind_some,iadd1 (by omega)]
     rfl
   | 3, _ =>
     obtain ⟨a,e,h1,h2⟩:=sums_ok htl hts hk (hlow 0 (by decide) i hi)
     refine ⟨a,e,h2,fun g=>?_⟩
     rw [valid_Check_s7,cnd d0,cnd d1,Int.toNat_natCast,List.getElem?_eq_getElem hi,Option.bind_some,cnd' (by decide),cnd' (by decide),cnd' (by decide),cnd (by rfl),h1,Option.bind_some,iadd1 (by omega)]
     rfl
 have ans2:∀ i,∃ a e,∀ h:i < m.2.length,(e=0 ↔ RuleP m.1 r m.2[i])∧∀ g,valid_Check_s7 g (((r:Int),(r:Int),m.2,((m.2.length:Nat):Int),(i:Int),()),((m.1,m.2,()),(z.1,z.2.1,z.2.2.1,z.2.2.2,()),())) =
     bif (!decide (e=0)) then some (.inr ((),((e,0,(i:Int),a,()),()))) else g (((r:Int),(r:Int),m.2,((m.2.length:Nat):Int),((i+1:Nat):Int),()),((m.1,m.2,()),(z.1,z.2.1,z.2.2.1,z.2.2.2,()),())):=by
   intro i
   by_cases h:i < m.2.length
   · obtain ⟨a, e, h1, h2⟩ := ans i h
     exact ⟨a,e,fun _=>⟨h1,h2⟩⟩
   · exact ⟨0,0,fun h'=>absurd h' h⟩
 have A:=fun i=>(ans2 i).choose
 let E:Nat → Int:=fun i=>(ans2 i).choose_spec.choose
 have hE:∀ i (h:i < m.2.length),(E i=0 ↔ RuleP m.1 r m.2[i])∧∀ g,valid_Check_s7 g (((r:Int),(r:Int),m.2,((m.2.length:Nat):Int),(i:Int),()),((m.1,m.2,()),(z.1,z.2.1,z.2.2.1,z.2.2.2,()),())) =
     bif (!decide (E i=0)) then some (.inr ((),((E i,0,(i:Int),(ans2 i).choose,()),()))) else g (((r:Int),(r:Int),m.2,((m.2.length:Nat):Int),((i+1:Nat):Int),()),((m.1,m.2,()),(z.1,z.2.1,z.2.2.1,z.2.2.2,()),())):=fun i h=>(ans2 i).choose_spec.choose_spec h
 rcases lp_all (step:=valid_Check_s7) (fun i=>(((r:Int),(r:Int),m.2,((m.2.length:Nat):Int),(i:Int),()),((m.1,m.2,()),(z.1,z.2.1,z.2.2.1,z.2.2.2,()),()))) m.2.length (fun i=>E i=0) (fun i=>.inr ((),((E i,0,(i:Int),(ans2 i).choose,()),()))) (.inl (((r:Int),()),((m.1,m.2,()),(z.1,z.2.1,z.2.2.1,z.2.2.2,()),()))) (by omega) (by
     intro i hi
     obtain ⟨h1,h2⟩:=hE i hi
     by_cases h0:E i=0
     · exact .inl ⟨h0,fun g=>by rw [h2,decide_eq_true h0];rfl⟩
     · exact .inr ⟨h0,fun g=>by rw [h2,decide_eq_false h0];rfl⟩) (by
     intro g
     rw [valid_Check_s7,cnd' (by omega)]) with ⟨h,hlp⟩ | ⟨i,hi,h,hlp⟩
 · exact .inl ⟨fun i hi=>(hE i hi).1.1 (h i hi),hlp⟩
 · exact .inr ⟨fun hh=>h ((hE i hi).1.2 (hh i hi)),E i,0,(i:Int),_,h,hlp⟩
theorem Ok_ok {m:MODEL} {k:Nat} (hl:m.2.length < 4294967296) (ht:∀ t ∈ m.2,t.length < 4294967296) (hs:MSz m k) (hk:k < 500000000000):∃ b,valid_Ok m=some b∧(b=true ↔ Good m):=by
 obtain ⟨b,hb,hbf⟩:=Fits_ok hl ht
 cases b with
 | false =>
  have hnf:¬ FitsP m:=fun h=>by have:=hbf.2 h;cases this
  refine ⟨false,?_,fun h=>(by cases h),fun h=>absurd h.1 hnf⟩
  rw [valid_Ok,valid_Check,hb,Option.bind_some]
  rfl
 | true =>
  have hf:=hbf.1 rfl
  rcases lp_allh (step:=valid_Check_s4) (fun r=>(((r:Int),()),((m.1,m.2,()),(0,0,0,0,()),()))) 4 (fun r=>∀ i (h:i < m.2.length),RuleP m.1 r m.2[i]) (fun r=>∃ e a b c,e ≠ 0∧r=.inr ((),((e,a,b,c,()),()))) (.inl ((),((0,0,0,0,()),()))) (by omega) (by
     intro r hr hlow
     have d0:(r:Int) < 4:=by omega
     rcases check_inner hf hs hk hr (fun r' hr'=>hlow r' hr') (0,0,0,0) with ⟨h1,h2⟩ | ⟨h1,e,a,b,c,h2,h3⟩
     · refine .inl ⟨h1, fun g => ?_⟩
       rw [valid_Check_s4,cnd d0,h2,Option.bind_some]
       dsimp only
       rw [iadd1 (by omega)]
       rfl
     · refine .inr ⟨h1, _, ⟨e, a, b, c, h2, rfl⟩, fun g => ?_⟩
       rw [valid_Check_s4,cnd d0,h3,Option.bind_some]) (by
     intro g
     rw [valid_Check_s4,cnd' (by decide)]) with ⟨h,hlp⟩ | ⟨h,r,⟨e,a,b,c,he,rfl⟩,hlp⟩
  · have hlp : lp valid_Check_s4 K0 (((0 : Int), ()), ((m.1, m.2, ()), (0, 0, 0, 0, ()), ())) = _ := hlp
    refine ⟨true,?_,fun _=>⟨hf,h⟩,fun _=>rfl⟩
    rw [valid_Ok,valid_Check,hb,Option.bind_some,Bool.not_true,cond_false,hlp]
    rfl
  · have hlp : lp valid_Check_s4 K0 (((0 : Int), ()), ((m.1, m.2, ()), (0, 0, 0, 0, ()), ())) = _ := hlp
    refine ⟨false,?_,fun h'=>(by cases h'),fun hg=>absurd hg.2 h⟩
    rw [valid_Ok,valid_Check,hb,Option.bind_some,Bool.not_true,cond_false,hlp,Option.bind_some]
    dsimp only
    rw [Option.bind_some,decide_eq_false he]
    rfl
theorem number07_ok (a:RAT):dendronlaw07_number a=some (cutR 4 a):=by
 obtain ⟨⟨s,x⟩,y⟩:=a
 unfold dendronlaw07_number cutR
 by_cases h1:4 < x.length
 · have c1 : ((x.length : Nat) : Int) > 4 := by omega
   have c2:(4:Int) ≤ ((x.length:Nat):Int):=by omega
   by_cases h2:4 < y.length
   · have c3 : ((y.length : Nat) : Int) > 4 := by omega
     have c4:(4:Int) ≤ ((y.length:Nat):Int):=by omega
     rw [cnd c1,cnd c2,cnd c3,cnd c4]
   · have c3 : ¬ ((y.length : Nat) : Int) > 4 := by omega
     rw [cnd c1,cnd c2,cnd' c3,List.take_of_length_le (l:=y) (by omega)]
 · have c1 : ¬ ((x.length : Nat) : Int) > 4 := by omega
   by_cases h2:4 < y.length
   · have c3 : ((y.length : Nat) : Int) > 4 := by omega
     have c4:(4:Int) ≤ ((y.length:Nat):Int):=by omega
     rw [cnd' c1,cnd c3,cnd c4,List.take_of_length_le (l:=x) (by omega)]
   · have c3 : ¬ ((y.length : Nat) : Int) > 4 := by omega
     rw [cnd' c1,cnd' c3,List.take_of_length_le (l:=x) (by omega),List.take_of_length_le (l:=y) (by omega)]
def cutNode (n:NODE):NODE:=(n.1,n.2.1,cutR 4 n.2.2.1,n.2.2.2.1,n.2.2.2.2.1,n.2.2.2.2.2.1,cutR 4 n.2.2.2.2.2.2.1,cutR 4 n.2.2.2.2.2.2.2)
def cutTree (t:List NODE):List NODE:=(t.take 15).map cutNode
def cutM (m:MODEL):MODEL:=(m.1,(m.2.take 6).map cutTree)
theorem cutNode_sz (n:NODE):NSz (cutNode n) 4:=⟨cutR_sz 4 _,cutR_sz 4 _,cutR_sz 4 _⟩
theorem cutTree_sz (t:List NODE):TSz (cutTree t) 4:=by
 intro n hn
 obtain ⟨x,_,rfl⟩:=List.mem_map.1 hn
 exact cutNode_sz x
theorem cutTree_len (t:List NODE):(cutTree t).length ≤ 15:=by simp [cutTree];omega
theorem cutM_sz (m:MODEL):MSz (cutM m) 4:=by
 intro t ht
 obtain ⟨x,_,rfl⟩:=List.mem_map.1 ht
 exact cutTree_sz x
theorem cutM_tlen (m:MODEL):∀ t ∈ (cutM m).2,t.length ≤ 15:=by
 intro t ht
 obtain ⟨x,_,rfl⟩:=List.mem_map.1 ht
 exact cutTree_len x
theorem Few07_inner {m:MODEL} {i:Nat} (hi:i < m.2.length) (hl:m.2[i].length ≤ 9223372036854775807) (hi2:i < 4611686018427387904) (z w:Int×List (List NODE)) :
  lp dendronlaw07_Few_s7 K0 (((i:Int),[],0,()),((m.1,m.2,()),(z.1,z.2,()),(w.1,w.2,()),()))=some (((i:Int),cutTree m.2[i],()),((m.1,m.2,()),(z.1,z.2,()),(w.1,w.2,()),())):=by
 have hn:min m.2[i].length 15 ≤ m.2[i].length:=Nat.min_le_left _ _
 exact lp_up (step:=dendronlaw07_Few_s7) (fun k=>(((i:Int),(m.2[i].take k).map cutNode,(k:Int),()),((m.1,m.2,()),(z.1,z.2,()),(w.1,w.2,()),()))) (min m.2[i].length 15) (by omega) (by
  intro g k hk
  have h1:k < m.2[i].length:=by omega
  have d0:(0:Int) ≤ (i:Int):=by omega
  have d1:(k:Int) < ((m.2[i].length:Nat):Int):=by omega
  have d2:(k:Int) < 15:=by omega
  have d3:(0:Int) ≤ (k:Int):=by omega
  have d4:(((m.2[i].take k).map cutNode).length+1) * 208 ≤ 140737488355328:=by simp;omega
  rw [dendronlaw07_Few_s7,cnd d0,Int.toNat_natCast,List.getElem?_eq_getElem hi,Option.bind_some,cnd d1,cnd d2,cnd d0,Option.bind_some,cnd d3,Int.toNat_natCast,List.getElem?_eq_getElem h1,Option.bind_some,number07_ok,Option.bind_some,number07_ok,Option.bind_some,number07_ok,Option.bind_some,blt d4,cond_true,iadd1 (by omega),map_take_succ _ h1]
  rfl) (by
  intro g
  have d0:(0:Int) ≤ (i:Int):=by omega
  by_cases h:m.2[i].length ≤ 15
  · have c1 : ¬ ((min m.2[i].length 15 : Nat) : Int) < ((m.2[i].length : Nat) : Int) := by omega
    rw [dendronlaw07_Few_s7,cnd d0,Int.toNat_natCast,List.getElem?_eq_getElem hi,Option.bind_some,cnd' c1,Nat.min_eq_left h,List.take_of_length_le (Nat.le_refl _),cutTree,List.take_of_length_le h]
  · have c1 : ((min m.2[i].length 15 : Nat) : Int) < ((m.2[i].length : Nat) : Int) := by omega
    have c2:¬ ((min m.2[i].length 15:Nat):Int) < 15:=by omega
    rw [dendronlaw07_Few_s7,cnd d0,Int.toNat_natCast,List.getElem?_eq_getElem hi,Option.bind_some,cnd c1,cnd' c2,Nat.min_eq_right (by omega),cutTree])
theorem Few07_ok (m:MODEL) (hl:m.2.length ≤ 9223372036854775807) (ht:∀ t ∈ m.2,t.length ≤ 9223372036854775807):dendronlaw07_Few m=some (cutM m):=by
 have hn:min m.2.length 6 ≤ m.2.length:=Nat.min_le_left _ _
 have key:=lp_up (step:=dendronlaw07_Few_s3) (fun i=>(((i:Int),()),((m.1,m.2,()),(0,[],()),(m.1,(m.2.take i).map cutTree,()),()))) (min m.2.length 6) (r:=((),((0,[],()),(m.1,(m.2.take 6).map cutTree,()),()))) (by omega) (by
  intro g i hi
  have h1:i < m.2.length:=by omega
  have d0:(i:Int) < ((m.2.length:Nat):Int):=by omega
  have d1:(i:Int) < 6:=by omega
  have hin:=Few07_inner h1 (ht _ (List.getElem_mem h1)) (by omega) (0,[]) (m.1,(m.2.take i).map cutTree)
  have d4:(((m.2.take i).map cutTree).length+1) * 24 ≤ 140737488355328:=by simp;omega
  rw [dendronlaw07_Few_s3,cnd d0,cnd d1,hin,Option.bind_some,blt d4,cond_true,iadd1 (by omega),map_take_succ _ h1]
  rfl) (by
  intro g
  by_cases h:m.2.length ≤ 6
  · have c1 : ¬ ((min m.2.length 6 : Nat) : Int) < ((m.2.length : Nat) : Int) := by omega
    rw [dendronlaw07_Few_s3,cnd' c1,Nat.min_eq_left h,List.take_of_length_le (Nat.le_refl _),List.take_of_length_le h]
  · have c1 : ((min m.2.length 6 : Nat) : Int) < ((m.2.length : Nat) : Int) := by omega
    have c2:¬ ((min m.2.length 6:Nat):Int) < 6:=by omega
    rw [dendronlaw07_Few_s3,cnd c1,cnd' c2,Nat.min_eq_right (by omega)])
 have key':lp dendronlaw07_Few_s3 K0 ((0,()),((m.1,m.2,()),(0,[],()),(m.1,[],()),()))=_:=key
 rw [dendronlaw07_Few,key']
 rfl
inductive TR where
 | leaf (i:Nat)
 | split (i:Nat) (l r:TR)
def TR.top:TR → Nat
 | .leaf i=>i
 | .split i _ _=>i
def TR.size:TR → Nat
 | .leaf _=>1
 | .split _ l r=>1+l.size+r.size
def TR.deep:TR → Nat
 | .leaf _=>1
 | .split _ l r=>1+max l.deep r.deep
def Is (t:List NODE) (f:Int):TR → Prop
 | .leaf i=>∃ h:i < t.length,nLeaf t[i]=true
 | .split i l r=>∃ h:i < t.length,nLeaf t[i]=false∧0 ≤ nFeat t[i]∧nFeat t[i] < f∧nL t[i]=(l.top:Int)∧nR t[i]=(r.top:Int)∧Is t f l∧Is t f r
theorem tree_at {t:List NODE} {f:Int} (hr:RangesP t f) (hrk:Ranked t):∀ i,i < t.length → ∃ T,Is t f T∧T.top=i∧T.deep ≤ t.length+1:=by
 obtain ⟨rk,hrk⟩:=hrk
 have key:∀ (d i:Nat),i < t.length → rk i ≤ d → ∃ T,Is t f T∧T.top=i∧T.deep ≤ rk i+1:=by
  intro d
  induction d with
  | zero =>
   intro i hi hd
   cases hl:nLeaf t[i] with
   | true=>exact ⟨.leaf i,⟨hi,hl⟩,rfl,by simp [TR.deep]⟩
   | false =>
    have:=(hrk i hi).2 (nL t[i]).toNat (by rw [kids_split hi hl];simp)
    omega
  | succ d ih =>
   intro i hi hd
   cases hl:nLeaf t[i] with
   | true=>exact ⟨.leaf i,⟨hi,hl⟩,rfl,by simp [TR.deep]⟩
   | false =>
    obtain ⟨r1,r2,r3,r4,r5,r6⟩:=hr i hi hl
    have k1:=(hrk i hi).2 (nL t[i]).toNat (by rw [kids_split hi hl];simp)
    have k2:=(hrk i hi).2 (nR t[i]).toNat (by rw [kids_split hi hl];simp)
    obtain ⟨L,hL,hLt,hLd⟩:=ih (nL t[i]).toNat (by omega) (by omega)
    obtain ⟨R,hR,hRt,hRd⟩:=ih (nR t[i]).toNat (by omega) (by omega)
    refine ⟨.split i L R,⟨hi,hl,r1,r2,by rw [hLt];omega,by rw [hRt];omega,hL,hR⟩,rfl,?_⟩
    simp only [TR.deep]
    omega
 intro i hi
 obtain ⟨T,h1,h2,h3⟩:=key (rk i) i hi (Nat.le_refl _)
 have:=(hrk i hi).1
 exact ⟨T,h1,h2,by omega⟩
theorem Good.tree {m:MODEL} (h:Good m) {i:Nat} (hi:i < m.2.length):∃ T,Is m.2[i] m.1 T∧T.top=0∧T.deep ≤ m.2[i].length+1 :=
 tree_at (h.ranges hi) (h.shape hi).2 0 (h.1.2.2.2 i hi).1
abbrev zR:RAT:=((false,[]),[])
abbrev zN:NODE:=(false,0,zR,0,0,false,zR,zR)
def nodeAt (t:List NODE) (i:Nat):NODE:=(t[i]?).getD zN
theorem nodeAt_get {t:List NODE} {i:Nat} (h:i < t.length):nodeAt t i=t[i]:=by simp [nodeAt,h]
def cellAt (row:List CELL) (i:Nat):CELL:=(row[i]?).getD (false,zR)
theorem cellAt_get {row:List CELL} {i:Nat} (h:i < row.length):cellAt row i=row[i]:=by simp [cellAt,h]
def goes (n:NODE) (c:CELL):Bool:=if c.1 then nMiss n else decide (rv c.2 < rv (nCut n))
def goL (t:List NODE) (row:List CELL) (i:Nat):Bool:=goes (nodeAt t i) (cellAt row (nFeat (nodeAt t i)).toNat)
def wayT (t:List NODE) (row:List CELL):TR → List Nat
 | .leaf i=>[i]
 | .split i l r=>i :: if goL t row i then wayT t row l else wayT t row r
theorem Is.top_lt {t:List NODE} {f:Int} {T:TR} (h:Is t f T):T.top < t.length:=by
 cases T with
 | leaf i=>exact h.1
 | split i l r=>exact h.1
theorem TR.size_lt (T:TR):T.size < 2 ^ T.deep:=by
 induction T with
 | leaf i=>simp [TR.size,TR.deep]
 | split i l r ihl ihr =>
  simp only [TR.size,TR.deep]
  have h1:2 ^ l.deep ≤ 2 ^ max l.deep r.deep:=Nat.pow_le_pow_right (by decide) (Nat.le_max_left _ _)
  have h2:2 ^ r.deep ≤ 2 ^ max l.deep r.deep:=Nat.pow_le_pow_right (by decide) (Nat.le_max_right _ _)
  rw [Nat.add_comm 1 (max l.deep r.deep),Nat.pow_succ]
  omega
theorem TR.size_le {T:TR} (h:T.deep ≤ 16):T.size < 65536:=by
 have h1:=T.size_lt
 have h2:2 ^ T.deep ≤ 2 ^ 16:=Nat.pow_le_pow_right (by decide) h
 omega
theorem TR.deep_pos (T:TR):0 < T.deep:=by cases T <;> simp [TR.deep] <;> omega
def expT (t:List NODE) (row:List CELL) (set:Nat):TR → Rat
 | .leaf i=>rv (nVal (nodeAt t i))
 | .split i l r=>if set.testBit (nFeat (nodeAt t i)).toNat then (if goL t row i then expT t row set l else expT t row set r)
  else (cov t l.top * expT t row set l+cov t r.top * expT t row set r) / cov t i
theorem TSz.at {t:List NODE} {k:Nat} (h:TSz t k) {i:Nat} (hi:i < t.length):NSz (nodeAt t i) k:=by rw [nodeAt_get hi];exact h _ (List.getElem_mem hi)
theorem cov_sz {t:List NODE} (hs:TSz t 4) {i:Nat} (hi:i < t.length):SzQ (cov t i) 4:=(hs.at hi).2.2.szQ (by decide)
theorem expT_sz {t:List NODE} {f:Int} {row:List CELL} {set:Nat} {T:TR} (hs:TSz t 4) (h:Is t f T):SzQ (expT t row set T) (16 * T.size):=by
 induction T with
 | leaf i=>exact ((hs.at h.1).2.1.szQ (by decide)).mono (by simp [TR.size])
 | split i l r ihl ihr =>
  obtain ⟨h1,_,_,_,_,_,h2,h3⟩:=h
  have a:=ihl h2
  have b:=ihr h3
  simp only [expT,TR.size]
  split
  · split
    · exact a.mono (by omega)
    · exact b.mono (by omega)
  · have := (((cov_sz hs h2.top_lt).mul a).add ((cov_sz hs h3.top_lt).mul b)).div (cov_sz hs h1)
    exact this.mono (by omega)
def mkT (t:List NODE):Nat → Nat → TR
 | 0,i=>.leaf i
 | d+1,i=>if nLeaf (nodeAt t i) then .leaf i else .split i (mkT t d (nL (nodeAt t i)).toNat) (mkT t d (nR (nodeAt t i)).toNat)
theorem mkT_eq {t:List NODE} {f:Int}:∀ (d:Nat) (T:TR),Is t f T → T.deep ≤ d → mkT t d T.top=T:=by
 intro d
 induction d with
 | zero=>intro T _ h;have:=T.deep_pos;omega
 | succ d ih =>
  intro T h hd
  cases T with
  | leaf i =>
   obtain ⟨h1,h2⟩:=h
   simp only [TR.top,mkT,nodeAt_get h1,h2,if_true]
  | split i l r =>
   obtain ⟨h1,h2,_,_,h3,h4,h5,h6⟩:=h
   simp only [TR.deep] at hd
   show mkT t (d+1) i=_
   rw [mkT,nodeAt_get h1,h2,h3,h4,Int.toNat_natCast,Int.toNat_natCast,ih l h5 (by omega),ih r h6 (by omega)]
   rfl
def treeOf (t:List NODE):TR:=mkT t (t.length+1) 0
theorem Good.treeOf {m:MODEL} (h:Good m) {i:Nat} (hi:i < m.2.length):Is m.2[i] m.1 (treeOf m.2[i])∧(treeOf m.2[i]).top=0∧(treeOf m.2[i]).deep ≤ m.2[i].length+1:=by
 obtain ⟨T,h1,h2,h3⟩:=h.tree hi
 have:X.treeOf m.2[i]=T:=by rw [X.treeOf,← h2];exact mkT_eq _ T h1 h3
 rw [this];exact ⟨h1,h2,h3⟩
def treeAt (m:MODEL) (i:Nat):List NODE:=(m.2[i]?).getD []
theorem treeAt_get {m:MODEL} {i:Nat} (h:i < m.2.length):treeAt m i=m.2[i]:=by simp [treeAt,h]
def sayM (m:MODEL) (row:List CELL) (set:Nat):Rat:=rsum (fun i=>expT (treeAt m i) row set (treeOf (treeAt m i))) m.2.length
theorem MSz.at {m:MODEL} {k:Nat} (h:MSz m k) {i:Nat} (hi:i < m.2.length):TSz (treeAt m i) k:=by rw [treeAt_get hi];exact h _ (List.getElem_mem hi)
theorem Good.isAt {m:MODEL} (h:Good m) {i:Nat} (hi:i < m.2.length):Is (treeAt m i) m.1 (X.treeOf (treeAt m i)):=by rw [treeAt_get hi];exact (h.treeOf hi).1
theorem deep16 {m:MODEL} (h:Good m) (hl:∀ t ∈ m.2,t.length ≤ 15) {i:Nat} (hi:i < m.2.length):(treeOf (treeAt m i)).deep ≤ 16:=by
 rw [treeAt_get hi]
 have:=(h.treeOf hi).2.2
 have:=hl _ (List.getElem_mem hi)
 omega
theorem expT_at {m:MODEL} {row:List CELL} {set:Nat} (h:Good m) (hs:MSz m 4) (hl:∀ t ∈ m.2,t.length ≤ 15) {i:Nat} (hi:i < m.2.length):SzQ (expT (treeAt m i) row set (treeOf (treeAt m i))) 1048576:=by
 have:=TR.size_le (deep16 h hl hi)
 exact (expT_sz (hs.at hi) (h.isAt hi)).mono (by omega)
theorem sayM_sz {m:MODEL} {row:List CELL} {set:Nat} (h:Good m) (hs:MSz m 4) (hl:∀ t ∈ m.2,t.length ≤ 15) {n:Nat} (hn:n ≤ m.2.length):SzQ (rsum (fun i=>expT (treeAt m i) row set (treeOf (treeAt m i))) n) (1+n * 1048577) :=
 rsum_sz fun i hi=>expT_at h hs hl (by omega)
def tidyNode (n:NODE):NODE :=
 if nLeaf n then (nLeaf n,0,zR,0,0,false,canQ (rv (nVal n)),canQ (rv (nCov n)))
 else (nLeaf n,nFeat n,canQ (rv (nCut n)),nL n,nR n,nMiss n,zR,canQ (rv (nCov n)))
def tidyTree (t:List NODE):List NODE:=t.map tidyNode
def tidyM (m:MODEL):MODEL:=(m.1,m.2.map tidyTree)
theorem Tidy_inner {t:List NODE} {k:Nat} (hl:t.length < 4294967296) (hs:TSz t k) (hk:k < 1099511627776) (a:List (List NODE)) (b c:Int) (z w:Int×List (List NODE)) :
  lp model_Tidy_s7 K0 (([],a,b,c,t,((t.length:Nat):Int),0,()),((z.1,z.2,()),(w.1,w.2,()),()))=some ((tidyTree t,a,b,c,()),((z.1,z.2,()),(w.1,w.2,()),())):=by
 have key:=lp_up (step:=model_Tidy_s7) (fun i=>(((t.take i).map tidyNode,a,b,c,t,((t.length:Nat):Int),(i:Int),()),((z.1,z.2,()),(w.1,w.2,()),()))) t.length (r:=((tidyTree t,a,b,c,()),((z.1,z.2,()),(w.1,w.2,()),()))) (by omega) (by
  intro g i hi
  have d0:(i:Int) < ((t.length:Nat):Int):=by omega
  have d1:(0:Int) ≤ (i:Int):=by omega
  have hz:=hs _ (List.getElem_mem hi)
  have q1:=ratio_Clean_ok (hz.2.2.sm hk)
  have d4:(((t.take i).map tidyNode).length+1) * 208 ≤ 140737488355328:=by simp;omega
  rw [model_Tidy_s7,cnd d0,cnd d1,Int.toNat_natCast,List.getElem?_eq_getElem hi,Option.bind_some,q1,Option.bind_some]
  cases hleaf:nLeaf t[i] with
  | true =>
   have q2:=ratio_Clean_ok (hz.2.1.sm hk)
   have ht:tidyNode t[i]=(true,0,zR,0,0,false,canQ (rv (nVal t[i])),canQ (rv (nCov t[i]))):=by rw [tidyNode,hleaf];rfl
   rw [show t[i].1=true from hleaf,cond_true,q2,Option.bind_some,blt d4,cond_true,iadd1 (by omega),map_take_succ _ hi,ht]
   rfl
  | false =>
   have q2:=ratio_Clean_ok (hz.1.sm hk)
   have ht:tidyNode t[i]=(false,nFeat t[i],canQ (rv (nCut t[i])),nL t[i],nR t[i],nMiss t[i],zR,canQ (rv (nCov t[i]))):=by rw [tidyNode,hleaf];rfl
   rw [show t[i].1=false from hleaf,cond_false,q2,Option.bind_some,blt d4,cond_true,iadd1 (by omega),map_take_succ _ hi,ht]
   rfl) (by
  intro g
  rw [model_Tidy_s7,cnd' (by omega),List.take_length]
  rfl)
 exact key
theorem Tidy_ok {m:MODEL} {k:Nat} (hl:m.2.length < 4294967296) (ht:∀ t ∈ m.2,t.length < 4294967296) (hs:MSz m k) (hk:k < 1099511627776):model_Tidy m=some (tidyM m):=by
 have key:=lp_up (step:=model_Tidy_s3) (fun i=>((m.2,((m.2.length:Nat):Int),(i:Int),()),((0,[],()),(m.1,(m.2.take i).map tidyTree,()),()))) m.2.length (r:=((),((0,[],()),(m.1,m.2.map tidyTree,()),()))) (by omega) (by
  intro g i hi
  have d0:(i:Int) < ((m.2.length:Nat):Int):=by omega
  have d1:(0:Int) ≤ (i:Int):=by omega
  have hin:=Tidy_inner (ht _ (List.getElem_mem hi)) (hs _ (List.getElem_mem hi)) hk m.2 ((m.2.length:Nat):Int) (i:Int) (0,[]) (m.1,(m.2.take i).map tidyTree)
  have d4:(((m.2.take i).map tidyTree).length+1) * 24 ≤ 140737488355328:=by simp;omega
  rw [model_Tidy_s3,cnd d0,cnd d1,Int.toNat_natCast,List.getElem?_eq_getElem hi,Option.bind_some,hin,Option.bind_some,blt d4,cond_true,iadd1 (by omega),map_take_succ _ hi]
  rfl) (by
  intro g
  rw [model_Tidy_s3,cnd' (by omega),List.take_length])
 have key':lp model_Tidy_s3 K0 ((m.2,((m.2.length:Nat):Int),0,()),((0,[],()),(m.1,[],()),()))=_:=key
 rw [model_Tidy,key']
 rfl
theorem list_eq_iff {α:Type} {a b:List α} (hl:a.length=b.length):a=b ↔ ∀ i,(h:i < a.length) → a[i]=b[i]:=by
 constructor
 · rintro rfl i h;rfl
 · intro h
   exact List.ext_getElem hl (fun i h1 h2=>h i h1)
theorem exact_ok {a b:RAT} (h1:a.1.2.length < 4611686018427387904) (h2:a.2.length < 4611686018427387904):dendronref07_exact a b=some (decide (a=b)):=by
 obtain ⟨⟨s,x⟩,y⟩:=a
 obtain ⟨⟨s',x'⟩,y'⟩:=b
 dsimp only at h1 h2
 unfold dendronref07_exact
 dsimp only
 by_cases e1:s=s'
 · subst e1
   rw [show (!(s == s))=false by simp,cond_false]
   by_cases e2:x.length=x'.length
   · rw [show decide ((x.length : Int) = (x'.length : Int)) = true from decide_eq_true (by omega), Bool.not_true, cond_false]
     by_cases e3:y.length=y'.length
     · rw [show decide ((y.length : Int) = (y'.length : Int)) = true from decide_eq_true (by omega), Bool.not_true, cond_false]
       rcases lp_all (step:=dendronref07_exact_s4) (fun i=>(((i:Int),()),((s,x,y,()),(s,x',y',()),()))) x.length (fun i=>∀ h:i < x.length,x[i]=x'[i]) (fun i=>.inr ((false,()),())) (.inl ((),((s,x,y,()),(s,x',y',()),()))) (by omega) (by
           intro i hi
           have hi':i < x'.length:=by omega
           have d0:(i:Int) < ((x.length:Nat):Int):=by omega
           have d1:(0:Int) ≤ (i:Int):=by omega
           by_cases h:x[i]=x'[i]
           · refine .inl ⟨fun _ => h, fun g => ?_⟩
             rw [dendronref07_exact_s4,cnd d0,cnd d1,Int.toNat_natCast,List.getElem?_eq_getElem hi,Option.bind_some,cnd d1,List.getElem?_eq_getElem hi',Option.bind_some,decide_eq_true h,iadd1 (by omega)]
             rfl
           · refine .inr ⟨fun h' => h (h' hi), fun g => ?_⟩
             rw [dendronref07_exact_s4,cnd d0,cnd d1,Int.toNat_natCast,List.getElem?_eq_getElem hi,Option.bind_some,cnd d1,List.getElem?_eq_getElem hi',Option.bind_some,decide_eq_false h]
             rfl) (by
           intro g
           rw [dendronref07_exact_s4,cnd' (by omega)]) with ⟨h,hlp⟩ | ⟨i,hi,h,hlp⟩
       · have hlp : lp dendronref07_exact_s4 K0 ((0, ()), ((s, x, y, ()), (s, x', y', ()), ())) = _ := hlp
         have ex:x=x':=(list_eq_iff e2).2 (fun i hi=>h i hi hi)
         subst ex
         rw [hlp,Option.bind_some]
         dsimp only
         rcases lp_all (step:=dendronref07_exact_s9) (fun i=>(((i:Int),()),((s,x,y,()),(s,x,y',()),()))) y.length (fun i=>∀ h:i < y.length,y[i]=y'[i]) (fun i=>.inr ((false,()),())) (.inl ((),())) (by omega) (by
             intro i hi
             have hi':i < y'.length:=by omega
             have d0:(i:Int) < ((y.length:Nat):Int):=by omega
             have d1:(0:Int) ≤ (i:Int):=by omega
             by_cases h:y[i]=y'[i]
             · refine .inl ⟨fun _ => h, fun g => ?_⟩
               rw [dendronref07_exact_s9,cnd d0,cnd d1,Int.toNat_natCast,List.getElem?_eq_getElem hi,Option.bind_some,cnd d1,List.getElem?_eq_getElem hi',Option.bind_some,decide_eq_true h,iadd1 (by omega)]
               rfl
             · refine .inr ⟨fun h' => h (h' hi), fun g => ?_⟩
               rw [dendronref07_exact_s9,cnd d0,cnd d1,Int.toNat_natCast,List.getElem?_eq_getElem hi,Option.bind_some,cnd d1,List.getElem?_eq_getElem hi',Option.bind_some,decide_eq_false h]
               rfl) (by
             intro g
             rw [dendronref07_exact_s9,cnd' (by omega)]) with ⟨h,hlp⟩ | ⟨i,hi,h,hlp⟩
         · have hlp : lp dendronref07_exact_s9 K0 ((0, ()), ((s, x, y, ()), (s, x, y', ()), ())) = _ := hlp
           have ey:y=y':=(list_eq_iff e3).2 (fun i hi=>h i hi hi)
           subst ey
           rw [hlp,decide_eq_true rfl];rfl
         · have hlp : lp dendronref07_exact_s9 K0 ((0, ()), ((s, x, y, ()), (s, x, y', ()), ())) = _ := hlp
           rw [hlp,decide_eq_false (fun e=>h (fun hh=>by injection e with _ e;subst e;rfl))];rfl
       · have hlp : lp dendronref07_exact_s4 K0 ((0, ()), ((s, x, y, ()), (s, x', y', ()), ())) = _ := hlp
         rw [hlp,decide_eq_false (fun e=>h (fun hh=>by injection e with e _;injection e with _ e;subst e;rfl))];rfl
     · rw [show decide ((y.length:Int)=(y'.length:Int))=false from decide_eq_false (by omega),Bool.not_false,cond_true,decide_eq_false (fun e=>e3 (by injection e with _ e;rw [e]))]
   · rw [show decide ((x.length:Int)=(x'.length:Int))=false from decide_eq_false (by omega),Bool.not_false,cond_true,decide_eq_false (fun e=>e2 (by injection e with e _;injection e with _ e;rw [e]))]
 · rw [show (!(s == s'))=true by simp [e1],cond_true,decide_eq_false (fun e=>e1 (by injection e with e _;injection e with e _))]
inductive CT where
 | leaf (n:NODE)
 | split (n:NODE) (l r:CT)
def CT.size:CT → Nat
 | .leaf _=>1
 | .split _ l r=>1+l.size+r.size
def CT.deep:CT → Nat
 | .leaf _=>1
 | .split _ l r=>1+max l.deep r.deep
theorem CT.deep_pos (C:CT):0 < C.deep:=by cases C <;> simp [CT.deep] <;> omega
theorem CT.size_pos (C:CT):0 < C.size:=by cases C <;> simp [CT.size] <;> omega
def setLR (n:NODE) (a b:Int):NODE:=(n.1,n.2.1,n.2.2.1,a,b,n.2.2.2.2.2)
def norm (n:NODE):NODE:=setLR n 0 0
theorem norm_setLR (n:NODE) (a b:Int):norm (setLR n a b)=norm n:=rfl
theorem norm_norm (n:NODE):norm (norm n)=norm n:=rfl
def layC:CT → Nat → List NODE
 | .leaf n,p=>[n]
 | .split n l r,p=>setLR n ((p+1:Nat):Int) ((p+1+l.size:Nat):Int) :: (layC l (p+1) ++ layC r (p+1+l.size))
theorem layC_len (C:CT):∀ p,(layC C p).length=C.size:=by
 induction C with
 | leaf n=>intro p;rfl
 | split n l r ihl ihr=>intro p;simp only [layC,CT.size,List.length_cons,List.length_append,ihl,ihr];omega
def Rep (t:List NODE):CT → Nat → Prop
 | .leaf n,i=>t[i]?=some n∧nLeaf n=true
 | .split n l r,i=>∃ x a b,t[i]?=some x∧norm x=n∧nLeaf x=false∧nL x=((a:Nat):Int)∧nR x=((b:Nat):Int)∧Rep t l a∧Rep t r b
def ofT (t:List NODE):TR → CT
 | .leaf i=>.leaf (nodeAt t i)
 | .split i l r=>.split (norm (nodeAt t i)) (ofT t l) (ofT t r)
theorem Is.rep {t:List NODE} {f:Int} {T:TR} (h:Is t f T):Rep t (ofT t T) T.top:=by
 induction T with
 | leaf i =>
  obtain ⟨h1,h2⟩:=h
  refine ⟨?_,?_⟩
  · rw [nodeAt_get h1];exact List.getElem?_eq_getElem h1
  · rw [nodeAt_get h1];exact h2
 | split i l r ihl ihr =>
  obtain ⟨h1,h2,_,_,h3,h4,h5,h6⟩:=h
  exact ⟨t[i],l.top,r.top,List.getElem?_eq_getElem h1,by rw [nodeAt_get h1],h2,h3,h4,ihl h5,ihr h6⟩
theorem ofT_deep (t:List NODE) (T:TR):(ofT t T).deep=T.deep:=by
 induction T with
 | leaf i=>rfl
 | split i l r ihl ihr=>simp only [ofT,CT.deep,TR.deep,ihl,ihr]
theorem ofT_size (t:List NODE) (T:TR):(ofT t T).size=T.size:=by
 induction T with
 | leaf i=>rfl
 | split i l r ihl ihr=>simp only [ofT,CT.size,TR.size,ihl,ihr]
theorem copyOf_ok {t:List NODE}:∀ (n:Nat) (C:CT) (i:Nat) (out:List NODE),Rep t C i → C.deep ≤ n → out.length+C.size ≤ 500000000000 → trim_copyOf n t (i:Int) out=some (out ++ layC C out.length,(out.length:Int)):=by
 intro n
 induction n with
 | zero=>intro C i p _ hd;have:=C.deep_pos;omega
 | succ n ih =>
  intro C i out h hd hp
  have d0:(0:Int) ≤ (i:Int):=by omega
  have b1:(out.length+1) * 208 ≤ 140737488355328:=by have:=C.size_pos;omega
  cases C with
  | leaf nd =>
   obtain ⟨h1,h2⟩:=h
   show trim_copyOf_b (trim_copyOf n) t i out=_
   rw [trim_copyOf_b,cnd d0,Int.toNat_natCast,h1,Option.bind_some,blt b1,cond_true,show nd.1=true from h2]
   rfl
  | split nd l r =>
   obtain ⟨x,a,b,h1,h2,h3,h4,h5,h6,h7⟩:=h
   simp only [CT.deep] at hd
   simp only [CT.size] at hp
   show trim_copyOf_b (trim_copyOf n) t i out=_
   have l1:(out ++ [x]).length=out.length+1:=by simp
   have e1:=ih l a (out ++ [x]) h6 (by omega) (by rw [l1];omega)
   rw [l1] at e1
   have l2:(out ++ [x] ++ layC l (out.length+1)).length=out.length+1+l.size:=by rw [List.length_append,l1,layC_len]
   have e2:=ih r b (out ++ [x] ++ layC l (out.length+1)) h7 (by omega) (by rw [l2];omega)
   rw [l2] at e2
   have hlt:out.length < (out ++ [x] ++ layC l (out.length+1) ++ layC r (out.length+1+l.size)).length:=by rw [List.length_append,l2];omega
   have d1:(0:Int) ≤ (out.length:Int):=by omega
   have d2:(out.length:Int) < ((out ++ [x] ++ layC l (out.length+1) ++ layC r (out.length+1+l.size)).length:Int):=by omega
   rw [trim_copyOf_b,cnd d0,Int.toNat_natCast,h1,Option.bind_some,blt b1,cond_true,show x.1=false from h3,cond_false,show x.2.2.2.1=_ from h4,show x.2.2.2.2.1=_ from h5,e1,Option.bind_some,e2,Option.bind_some,cnd2 d1 d2,Int.toNat_natCast,List.getElem?_eq_getElem hlt,Option.bind_some]
   subst h2
   have hset:∀ y:NODE,(out ++ [x] ++ layC l (out.length+1) ++ layC r (out.length+1+l.size)).set out.length y=out ++ (y :: (layC l (out.length+1) ++ layC r (out.length+1+l.size))):=by
    intro y
    rw [List.append_assoc,List.append_assoc,List.set_append,if_neg (by omega),Nat.sub_self]
    rfl
   rw [hset]
   simp only [layC,norm,setLR,show x.1=false from h3]
def leafOf (v c:RAT):NODE:=(true,0,zR,0,0,false,v,c)
def joinC (n:NODE):CT → CT → CT
 | .leaf a,.leaf b=>if rv (nVal a)=rv (nVal b) then .leaf (leafOf (nVal a) (nCov n)) else .split n (.leaf a) (.leaf b)
 | l,r=>.split n l r
def shrinkC:CT → CT
 | .leaf n=>.leaf n
 | .split n l r=>joinC n (shrinkC l) (shrinkC r)
def CT.isLeaf:CT → Bool
 | .leaf _=>true
 | .split _ _ _=>false
theorem joinC_deep (n:NODE) (l r:CT):(joinC n l r).deep ≤ 1+max l.deep r.deep:=by
 unfold joinC
 split
 · split <;> simp [CT.deep]
 · exact Nat.le_refl _
theorem joinC_size (n:NODE) (l r:CT):(joinC n l r).size ≤ 1+l.size+r.size:=by
 unfold joinC
 split
 · split <;> simp [CT.size]
 · exact Nat.le_refl _
theorem shrinkC_deep (C:CT):(shrinkC C).deep ≤ C.deep:=by
 induction C with
 | leaf n=>exact Nat.le_refl _
 | split n l r ihl ihr =>
  have:=joinC_deep n (shrinkC l) (shrinkC r)
  simp only [shrinkC,CT.deep];omega
theorem shrinkC_size (C:CT):(shrinkC C).size ≤ C.size:=by
 induction C with
 | leaf n=>exact Nat.le_refl _
 | split n l r ihl ihr =>
  have:=joinC_size n (shrinkC l) (shrinkC r)
  simp only [shrinkC,CT.size];omega
def SmC:CT → Prop
 | .leaf n=>Sm (nVal n)
 | .split _ l r=>SmC l∧SmC r
theorem joinC_sm {n:NODE} {l r:CT} (hl:SmC l) (hr:SmC r):SmC (joinC n l r):=by
 unfold joinC
 split
 · split
   · exact hl
   · exact ⟨hl,hr⟩
 · exact ⟨hl,hr⟩
theorem shrinkC_sm {C:CT} (h:SmC C):SmC (shrinkC C):=by
 induction C with
 | leaf n=>exact h
 | split n l r ihl ihr=>exact joinC_sm (ihl h.1) (ihr h.2)
def RepI (t:List NODE):CT → Nat → Nat → Nat → Prop
 | .leaf n,i,lo,hi=>lo ≤ i∧i < hi∧t[i]?=some n∧nLeaf n=true
 | .split n l r,i,lo,hi=>i=lo∧lo < hi∧∃ x a b mid,t[i]?=some x∧norm x=n∧nLeaf x=false∧nL x=((a:Nat):Int)∧nR x=((b:Nat):Int)∧lo+1 ≤ mid∧mid ≤ hi∧RepI t l a (lo+1) mid∧RepI t r b mid hi
theorem RepI.rep {t:List NODE}:∀ {C:CT} {i lo hi:Nat},RepI t C i lo hi → Rep t C i:=by
 intro C
 induction C with
 | leaf n=>intro i lo hi h;exact ⟨h.2.2.1,h.2.2.2⟩
 | split n l r ihl ihr =>
  intro i lo hi h
  obtain ⟨_,_,x,a,b,mid,h1,h2,h3,h4,h5,_,_,h6,h7⟩:=h
  exact ⟨x,a,b,h1,h2,h3,h4,h5,ihl h6,ihr h7⟩
theorem RepI.same {t t':List NODE}:∀ {C:CT} {i lo hi:Nat},RepI t C i lo hi → (∀ j,lo ≤ j → j < hi → t'[j]?=t[j]?) → RepI t' C i lo hi:=by
 intro C
 induction C with
 | leaf n=>intro i lo hi h hj;exact ⟨h.1,h.2.1,by rw [hj i h.1 h.2.1];exact h.2.2.1,h.2.2.2⟩
 | split n l r ihl ihr =>
  intro i lo hi h hj
  obtain ⟨e1,e2,x,a,b,mid,h1,h2,h3,h4,h5,m1,m2,h6,h7⟩:=h
  exact ⟨e1,e2,x,a,b,mid,by rw [hj i (by omega) (by omega)];exact h1,h2,h3,h4,h5,m1,m2,ihl h6 (fun j p q=>hj j (by omega) (by omega)),ihr h7 (fun j p q=>hj j (by omega) (by omega))⟩
theorem RepI.head {t:List NODE} {C:CT} {i lo hi:Nat} (h:RepI t C i lo hi):lo ≤ i∧i < hi∧∃ x,t[i]?=some x∧nLeaf x=C.isLeaf∧∀ n,C=.leaf n → x=n:=by
 cases C with
 | leaf n=>exact ⟨h.1,h.2.1,n,h.2.2.1,h.2.2.2,fun m e=>by injection e⟩
 | split n l r =>
  obtain ⟨e1,e2,x,a,b,mid,h1,h2,h3,_⟩:=h
  exact ⟨by omega,by omega,x,h1,h3,fun m e=>by injection e⟩
def WM:CT → Prop
 | .leaf n=>nLeaf n=true
 | .split n l r=>nLeaf n=false∧norm n=n∧WM l∧WM r
theorem Rep.wm {t:List NODE}:∀ {C:CT} {i:Nat},Rep t C i → WM C:=by
 intro C
 induction C with
 | leaf n=>intro i h;exact h.2
 | split n l r ihl ihr =>
  intro i h
  obtain ⟨x,a,b,h1,h2,h3,h4,h5,h6,h7⟩:=h
  subst h2
  exact ⟨h3,rfl,ihl h6,ihr h7⟩
theorem layC_repI:∀ {C:CT} (pre post:List NODE),WM C → RepI (pre ++ layC C pre.length ++ post) C pre.length pre.length (pre.length+C.size):=by
 intro C
 induction C with
 | leaf n=>intro pre post h;exact ⟨Nat.le_refl _,by simp [CT.size],by simp [layC],h⟩
 | split n l r ihl ihr =>
  intro pre post h
  obtain ⟨h1,h2,h3,h4⟩:=h
  obtain ⟨x,hx⟩:∃ x,x=setLR n ((pre.length+1:Nat):Int) ((pre.length+1+l.size:Nat):Int):=⟨_,rfl⟩
  have e:pre ++ layC (.split n l r) pre.length ++ post=(pre ++ [x]) ++ layC l (pre ++ [x]).length ++ (layC r (pre.length+1+l.size) ++ post):=by
    simp [layC,hx]
  have e':pre ++ layC (.split n l r) pre.length ++ post=(pre ++ [x] ++ layC l (pre.length+1)) ++ layC r (pre ++ [x] ++ layC l (pre.length+1)).length ++ post:=by
    have ee:(pre ++ [x] ++ layC l (pre.length+1)).length=pre.length+1+l.size:=by rw [List.length_append,layC_len];simp
    rw [ee]
    simp [layC,hx]
  have l1:(pre ++ [x]).length=pre.length+1:=by simp
  have l2:(pre ++ [x] ++ layC l (pre.length+1)).length=pre.length+1+l.size:=by rw [List.length_append,l1,layC_len]
  have r1:=ihl (pre ++ [x]) (layC r (pre.length+1+l.size) ++ post) h3
  rw [← e,l1] at r1
  have r2:=ihr (pre ++ [x] ++ layC l (pre.length+1)) post h4
  rw [← e',l2] at r2
  refine ⟨rfl,by simp only [CT.size];omega,x,pre.length+1,pre.length+1+l.size,pre.length+1+l.size,?_,by rw [hx,norm_setLR,h2],by rw [hx];exact h1,by rw [hx];rfl,by rw [hx];rfl,by omega,by simp only [CT.size];omega,r1,?_⟩
  · simp [layC,hx]
  · have : pre.length + (CT.split n l r).size = pre.length + 1 + l.size + r.size := by simp only [CT.size]; omega
    rw [this];exact r2
theorem shrink_ok:∀ (n:Nat) (C:CT) (t:List NODE) (i lo hi:Nat),RepI t C i lo hi → C.deep ≤ n → SmC C → ∃ t',trim_shrink n t (i:Int)=some t'∧t'.length=t.length∧(∀ j,¬ (lo ≤ j∧j < hi) → t'[j]?=t[j]?)∧RepI t' (shrinkC C) i lo hi:=by
 intro n
 induction n with
 | zero=>intro C t i lo hi _ hd;have:=C.deep_pos;omega
 | succ n ih =>
  intro C t i lo hi h hd hsm
  have d0:(0:Int) ≤ (i:Int):=by omega
  cases C with
  | leaf nd =>
   have h0:=h
   obtain ⟨g1,g2,h1,h2⟩:=h
   have hlt:i < t.length:=by
    rcases Nat.lt_or_ge i t.length with h | h
    · exact h
    · rw [List.getElem?_eq_none h] at h1;exact absurd h1 (by simp)
   refine ⟨t,?_,rfl,fun _ _=>rfl,h0⟩
   show trim_shrink_b (trim_shrink n) t i=_
   rw [trim_shrink_b,cnd2 d0 (by omega),Int.toNat_natCast,h1,Option.bind_some,show nd.1=true from h2,cond_true,show Nat.beq t.length t.length=true by simp,cond_true]
   rfl
  | split nd l r =>
   obtain ⟨g1,g2,x,a,b,mid,h1,h2,h3,h4,h5,m1,m2,h6,h7⟩:=h
   simp only [CT.deep] at hd
   have hlt:i < t.length:=by
    rcases Nat.lt_or_ge i t.length with h | h
    · exact h
    · rw [List.getElem?_eq_none h] at h1;exact absurd h1 (by simp)
   obtain ⟨t1,e1,k1,o1,p1⟩:=ih l t a (lo+1) mid h6 (by omega) hsm.1
   have h7':=h7.same (t':=t1) (fun j q1 q2=>o1 j (by omega))
   obtain ⟨t2,e2,k2,o2,p2⟩:=ih r t1 b mid hi h7' (by omega) hsm.2
   have p1':=p1.same (t':=t2) (fun j q1 q2=>o2 j (by omega))
   have v1:over t 0 t1=t1:=over_all k1
   have v2:over t1 0 t2=t2:=over_all k2
   have x1:t1[i]?=some x:=by rw [o1 i (by omega)];exact h1
   have x2:t2[i]?=some x:=by rw [o2 i (by omega)];exact x1
   obtain ⟨qa1,qa2,y,hy,hyl,hyn⟩:=p1'.head
   obtain ⟨qb1,qb2,z,hz,hzl,hzn⟩:=p2.head
   have alt:a < t2.length:=by
    rcases Nat.lt_or_ge a t2.length with h | h
    · exact h
    · rw [List.getElem?_eq_none h] at hy;exact absurd hy (by simp)
   have blt':b < t2.length:=by
    rcases Nat.lt_or_ge b t2.length with h | h
    · exact h
    · rw [List.getElem?_eq_none h] at hz;exact absurd hz (by simp)
   have len2:t2.length=t.length:=by omega
   have head:trim_shrink (n+1) t (i:Int)=bif y.1 then (bif z.1 then ((ratio_Same (nVal y) (nVal z)).bind fun r11=>bif r11 then some (t2.set i (leafOf (nVal y) (nCov x))) else some t2) else some t2) else some t2:=by
    show trim_shrink_b (trim_shrink n) t i=_
    have c0:Nat.beq t2.length t.length=true:=by rw [len2];simp
    have c0':∀ w:NODE,Nat.beq (t2.set i w).length t.length=true:=by intro w;rw [List.length_set,len2];simp
    rw [trim_shrink_b,cnd2 d0 (by omega),Int.toNat_natCast,h1,Option.bind_some,show x.1=false from h3,cond_false,Option.bind_some,show x.2.2.2.1=_ from h4,e1,Option.bind_some,v1,x1,Option.bind_some,show x.2.2.2.2.1=_ from h5,e2,Option.bind_some,v2,x2,Option.bind_some,show x.2.2.2.1=_ from h4,cnd2 (by omega) (by omega),Int.toNat_natCast,hy,Option.bind_some,Option.bind_some,show x.2.2.2.2.1=_ from h5,cnd2 (by omega) (by omega),Int.toNat_natCast,hz,Option.bind_some,c0,cond_true]
    cases y.1 with
    | false=>rfl
    | true =>
      cases z.1 with
      | false=>rfl
      | true =>
        simp only [cond_true]
        congr 1
        funext r11
        cases r11 with
        | false=>rfl
        | true =>
          simp only [cond_true,Option.bind_some,c0']
          rfl
   have stay:RepI t2 (.split nd (shrinkC l) (shrinkC r)) i lo hi:=⟨g1,g2,x,a,b,mid,x2,h2,h3,h4,h5,m1,m2,p1',p2⟩
   have outs:∀ j,¬ (lo ≤ j∧j < hi) → t2[j]?=t[j]?:=fun j q=>by rw [o2 j (by omega),o1 j (by omega)]
   cases hL:shrinkC l with
   | split nl ll lr =>
    rw [hL] at hyl
    refine ⟨t2,?_,len2,outs,?_⟩
    · rw [head,show y.1=false from hyl];rfl
    · rw [shrinkC, hL, joinC]
      · rw [← hL];exact stay
      · intro _ _ e;injection e
   | leaf na =>
    rw [hL] at hyl
    cases hR:shrinkC r with
    | split nl ll lr =>
      rw [hR] at hzl
      refine ⟨t2,?_,len2,outs,?_⟩
      · rw [head,show y.1=true from hyl,show z.1=false from hzl];rfl
      · rw [shrinkC, hL, hR, joinC]
        · rw [← hL,← hR];exact stay
        · intro _ _ _ e;injection e
    | leaf nb =>
      rw [hR] at hzl
      have ey:=hyn na hL
      have ez:=hzn nb hR
      subst ey ez
      have s1:SmC (shrinkC l):=shrinkC_sm hsm.1
      have s2:SmC (shrinkC r):=shrinkC_sm hsm.2
      rw [hL] at s1
      rw [hR] at s2
      have hs:=ratio_Same_ok s1 s2
      by_cases hv:rv (nVal y)=rv (nVal z)
      · refine ⟨t2.set i (leafOf (nVal y) (nCov x)), ?_, by rw [List.length_set, len2], ?_, ?_⟩
        · rw [head,show y.1=true from hyl,show z.1=true from hzl,hs,decide_eq_true hv];rfl
        · intro j q
          rw [List.getElem?_set_ne (by omega)]
          exact outs j q
        · rw [shrinkC, hL, hR, joinC, if_pos hv]
          refine ⟨by omega,by omega,?_,rfl⟩
          rw [List.getElem?_set_self (by omega),← h2]
          rfl
      · refine ⟨t2, ?_, len2, outs, ?_⟩
        · rw [head,show y.1=true from hyl,show z.1=true from hzl,hs,decide_eq_false hv];rfl
        · rw [shrinkC, hL, hR, joinC, if_neg hv, ← hL, ← hR]
          exact stay
def firstN:CT → NODE
 | .leaf n=>n
 | .split _ l _=>firstN l
def tidyC:CT → CT
 | .leaf n=>.leaf (tidyNode n)
 | .split n l r=>.split (tidyNode n) (tidyC l) (tidyC r)
theorem tidyC_size (C:CT):(tidyC C).size=C.size:=by
 induction C with
 | leaf n=>rfl
 | split n l r ihl ihr=>simp only [tidyC,CT.size,ihl,ihr]
theorem tidyC_deep (C:CT):(tidyC C).deep=C.deep:=by
 induction C with
 | leaf n=>rfl
 | split n l r ihl ihr=>simp only [tidyC,CT.deep,ihl,ihr]
theorem tidy_leaf {n:NODE} (h:nLeaf n=true):tidyNode n=leafOf (canQ (rv (nVal n))) (canQ (rv (nCov n))):=by rw [tidyNode,if_pos h,h];rfl
theorem tidy_split {n:NODE} (h:nLeaf n=false):tidyNode n=(false,nFeat n,canQ (rv (nCut n)),nL n,nR n,nMiss n,zR,canQ (rv (nCov n))):=by rw [tidyNode,if_neg (by rw [h];decide),h]
theorem tidy_norm {n:NODE} (h:nLeaf n=false):tidyNode (norm n)=norm (tidyNode n):=by rw [tidy_split h,tidy_split (n:=norm n) h];rfl
theorem Rep.tidy {t:List NODE}:∀ {C:CT} {i:Nat},Rep t C i → Rep (tidyTree t) (tidyC C) i:=by
 intro C
 induction C with
 | leaf n =>
  intro i h
  obtain ⟨h1,h2⟩:=h
  exact ⟨by rw [tidyTree,List.getElem?_map,h1];rfl,by rw [tidy_leaf h2];rfl⟩
 | split n l r ihl ihr =>
  intro i h
  obtain ⟨x,a,b,h1,h2,h3,h4,h5,h6,h7⟩:=h
  subst h2
  refine ⟨tidyNode x,a,b,by rw [tidyTree,List.getElem?_map,h1];rfl,(tidy_norm h3).symm,by rw [tidy_split h3],by rw [tidy_split h3];exact h4,by rw [tidy_split h3];exact h5,ihl h6,ihr h7⟩
theorem tidyC_wm {C:CT} (h:WM C):WM (tidyC C):=by
 induction C with
 | leaf n=>simp only [tidyC,WM];rw [tidy_leaf h];rfl
 | split n l r ihl ihr =>
  obtain ⟨h1,h2,h3,h4⟩:=h
  refine ⟨by rw [tidy_split h1],by rw [← tidy_norm h1,h2],ihl h3,ihr h4⟩
def covN:CT → RAT
 | .leaf n=>nCov n
 | .split n _ _=>nCov n
theorem joinC_split {n:NODE} {l r:CT} (h:¬ ∃ a b,l=.leaf a∧r=.leaf b∧rv (nVal a)=rv (nVal b)):joinC n l r=.split n l r:=by
 unfold joinC
 split
 · split
   · rename_i a b hv
     exact absurd ⟨a,b,rfl,rfl,hv⟩ h
   · rfl
 · rfl
theorem Same_inner {m:MODEL} {i:Nat} (hi:i < m.2.length) (hl:m.2[i].length < 4294967296) (hs:∀ n ∈ m.2[i],NSz n 4611686018427387903) (hi2:i < 4611686018427387904) :
  lp dendronref07_Same_s9 K0 (((i:Int),0,()),((m.1,m.2,()),(m.1,m.2,()),()))=some (.inl (((i:Int),()),((m.1,m.2,()),(m.1,m.2,()),()))):=by
 exact lp_up (step:=dendronref07_Same_s9) (fun k=>(((i:Int),(k:Int),()),((m.1,m.2,()),(m.1,m.2,()),()))) m.2[i].length (by omega) (by
  intro g k hk
  have d0:(0:Int) ≤ (i:Int):=by omega
  have d1:(k:Int) < ((m.2[i].length:Nat):Int):=by omega
  have d3:(0:Int) ≤ (k:Int):=by omega
  have z:=hs _ (List.getElem_mem hk)
  have e1:=exact_ok (a:=m.2[i][k].2.2.1) (b:=m.2[i][k].2.2.1) (Nat.lt_of_le_of_lt z.1.1 (by decide)) (Nat.lt_of_le_of_lt z.1.2 (by decide))
  have e2:=exact_ok (a:=m.2[i][k].2.2.2.2.2.2.1) (b:=m.2[i][k].2.2.2.2.2.2.1) (Nat.lt_of_le_of_lt z.2.1.1 (by decide)) (Nat.lt_of_le_of_lt z.2.1.2 (by decide))
  have e3:=exact_ok (a:=m.2[i][k].2.2.2.2.2.2.2) (b:=m.2[i][k].2.2.2.2.2.2.2) (Nat.lt_of_le_of_lt z.2.2.1 (by decide)) (Nat.lt_of_le_of_lt z.2.2.2 (by decide))
  rw [decide_eq_true rfl] at e1 e2 e3
  have bb:∀ b:Bool,(!(b == b))=false:=by intro b;cases b <;> rfl
  have ii:∀ b:Int,(!decide (b=b))=false:=by intro b;rw [decide_eq_true rfl];rfl
  rw [dendronref07_Same_s9,cnd d0,Int.toNat_natCast,List.getElem?_eq_getElem hi,Option.bind_some,cnd d1,cnd d0,Option.bind_some,cnd d3,Int.toNat_natCast,List.getElem?_eq_getElem hk,Option.bind_some,cnd d0,Option.bind_some,cnd d3,List.getElem?_eq_getElem hk,Option.bind_some,bb,cond_false,ii,cond_false,ii,cond_false,ii,cond_false,bb,cond_false,e1,Option.bind_some,Bool.not_true,cond_false,e2,Option.bind_some,Bool.not_true,cond_false,e3,Option.bind_some,Bool.not_true,cond_false,iadd1 (by omega)]
  rfl) (by
  intro g
  have d0:(0:Int) ≤ (i:Int):=by omega
  rw [dendronref07_Same_s9,cnd d0,Int.toNat_natCast,List.getElem?_eq_getElem hi,Option.bind_some,cnd' (by omega)])
theorem Same_self {m:MODEL} (hl:m.2.length < 4294967296) (ht:∀ t ∈ m.2,t.length < 4294967296) (hs:MSz m 4611686018427387903):dendronref07_Same m m=some true:=by
 have ii:∀ b:Int,(!decide (b=b))=false:=by intro b;rw [decide_eq_true rfl];rfl
 have key:=lp_up (step:=dendronref07_Same_s4) (fun i=>(((i:Int),()),((m.1,m.2,()),(m.1,m.2,()),()))) m.2.length (r:=.inl ((),())) (by omega) (by
  intro g i hi
  have d0:(i:Int) < ((m.2.length:Nat):Int):=by omega
  have d1:(0:Int) ≤ (i:Int):=by omega
  rw [dendronref07_Same_s4,cnd d0,cnd d1,Int.toNat_natCast,List.getElem?_eq_getElem hi,Option.bind_some,cnd d1,Option.bind_some,ii,cond_false,Same_inner hi (ht _ (List.getElem_mem hi)) (hs _ (List.getElem_mem hi)) (by omega),Option.bind_some]
  dsimp only
  rw [iadd1 (by omega)]
  rfl) (by
  intro g
  rw [dendronref07_Same_s4,cnd' (by omega)])
 have key':lp dendronref07_Same_s4 K0 ((0,()),((m.1,m.2,()),(m.1,m.2,()),()))=_:=key
 rw [dendronref07_Same,ii,cond_false,ii,cond_false,key']
 rfl
theorem law25_awake_ok:dendronlaw25_awake=some true:=by decide +kernel
theorem tidyNode_sz {n:NODE} {k:Nat} (h:NSz n k) (hk:0 < k):NSz (tidyNode n) k:=by
 have c:∀ {a:RAT},SzR a k → SzR (canQ (rv a)) k:=fun h=>(h.szQ hk).szR
 have z:SzR zR k:=⟨Nat.zero_le _,Nat.zero_le _⟩
 unfold tidyNode
 split
 · exact ⟨z,c h.2.1,c h.2.2⟩
 · exact ⟨c h.1,z,c h.2.2⟩
theorem tidyTree_sz {t:List NODE} {k:Nat} (h:TSz t k) (hk:0 < k):TSz (tidyTree t) k:=by
 intro n hn
 obtain ⟨x,hx,rfl⟩:=List.mem_map.1 hn
 exact tidyNode_sz (h x hx) hk
def SzC (k:Nat):CT → Prop
 | .leaf n=>NSz n k
 | .split n l r=>NSz n k∧SzC k l∧SzC k r
theorem Rep.szC {t:List NODE} {k:Nat} (hs:TSz t k):∀ {C:CT} {i:Nat},Rep t C i → SzC k C:=by
 have mem:∀ {i:Nat} {x:NODE},t[i]?=some x → NSz x k:=fun h=>hs _ (List.mem_of_getElem? h)
 intro C
 induction C with
 | leaf n=>intro i h;exact mem h.1
 | split n l r ihl ihr =>
  intro i h
  obtain ⟨x,a,b,h1,h2,h3,h4,h5,h6,h7⟩:=h
  subst h2
  have z:NSz x k:=mem h1
  exact ⟨z,ihl h6,ihr h7⟩
theorem SzC.lay {k:Nat}:∀ {C:CT} (p:Nat),SzC k C → TSz (layC C p) k:=by
 intro C
 induction C with
 | leaf n=>intro p h x hx;simp only [layC,List.mem_singleton] at hx;subst hx;exact h
 | split n l r ihl ihr =>
  intro p h x hx
  simp only [layC,List.mem_cons,List.mem_append] at hx
  rcases hx with rfl | hx | hx
  · exact h.1
  · exact ihl _ h.2.1 x hx
  · exact ihr _ h.2.2 x hx
theorem SzC.sm {k:Nat} (hk:k < 1099511627776):∀ {C:CT},SzC k C → SmC C:=by
 intro C
 induction C with
 | leaf n=>intro h;exact h.2.1.sm hk
 | split n l r ihl ihr=>intro h;exact ⟨ihl h.2.1,ihr h.2.2⟩
theorem Tree_ok {t:List NODE} {f:Int} {k:Nat} (ht:t.length < 4294967296) (hs:TSz t k) (hk:k < 500000000000):∃ b,valid_Tree t f=some b∧(b=true ↔ Good (f,[t])):=by
 obtain ⟨b,h1,h2⟩:=Ok_ok (m:=(f,[t])) (k:=k) (by simp) (by intro u hu;simp at hu;subst hu;exact ht) (by intro u hu;simp at hu;subst hu;exact hs) hk
 exact ⟨b,by rw [valid_Tree,h1];rfl,h2⟩
theorem Good.one {t:List NODE} {f:Int} (h:Good (f,[t])):Is t f (X.treeOf t)∧(X.treeOf t).top=0∧(X.treeOf t).deep ≤ t.length+1:=h.treeOf (i:=0) (by simp)
theorem tidy1_ok {t:List NODE} {k:Nat} (ht:t.length < 4294967296) (hs:TSz t k) (hk:k < 1099511627776):model_Tidy (0,[t])=some (0,[tidyTree t]) :=
 Tidy_ok (m:=(0,[t])) (by simp) (by intro u hu;simp at hu;subst hu;exact ht) (by intro u hu;simp at hu;subst hu;exact hs) hk
theorem Order_ok {t:List NODE} {f:Int} (ht:t.length ≤ 15) (hs:TSz t 4) :
  (¬ Good (f,[t])∧valid_Tree t f=some false∧trim_Order t f=some ([],1)) ∨ (Good (f,[t])∧valid_Tree t f=some true∧trim_Order t f=some (layC (tidyC (ofT t (treeOf t))) 0,0)):=by
 obtain ⟨b,h1,h2⟩:=Tree_ok (t:=t) (f:=f) (by omega) hs (by decide)
 cases b with
 | false =>
  refine .inl ⟨fun h=>(by have:=h2.2 h;simp at this),h1,?_⟩
  rw [trim_Order,h1];rfl
 | true =>
  have hg:=h2.1 rfl
  refine .inr ⟨hg,h1,?_⟩
  obtain ⟨g1,g2,g3⟩:=hg.one
  have hr:=g1.rep
  rw [g2] at hr
  have hd:(tidyC (ofT t (treeOf t))).deep ≤ 16:=by rw [tidyC_deep,ofT_deep];omega
  have hz:(tidyC (ofT t (treeOf t))).size < 65536:=by rw [tidyC_size,ofT_size];exact TR.size_le (by omega)
  have hc:=copyOf_ok R0 _ 0 [] hr.tidy (by unfold R0;omega) (by simp only [List.length_nil];omega)
  rw [trim_Order,h1,Option.bind_some,Bool.not_true,cond_false,tidy1_ok (by omega) hs (by decide),Option.bind_some,List.getElem?_cons_zero,Option.bind_some]
  have hc':trim_copyOf R0 (tidyTree t) 0 []=_:=hc
  rw [hc']
  rfl
theorem Shrink_ok {t:List NODE} {f:Int} (ht:t.length ≤ 15) (hs:TSz t 4) (hg:Good (f,[t])):trim_Shrink t f=some (layC (shrinkC (tidyC (ofT t (treeOf t)))) 0,0):=by
 rcases Order_ok ht hs with h | ⟨_,_,ho⟩
 · exact absurd hg h.1
 · obtain ⟨g1, g2, g3⟩ := hg.one
   have hr:=g1.rep
   have hwm:=tidyC_wm hr.wm
   have hd:(tidyC (ofT t (treeOf t))).deep ≤ 16:=by rw [tidyC_deep,ofT_deep];omega
   have hz:(tidyC (ofT t (treeOf t))).size < 65536:=by rw [tidyC_size,ofT_size];exact TR.size_le (by omega)
   have hsz:SzC 4 (tidyC (ofT t (treeOf t))):=hr.tidy.szC (tidyTree_sz hs (by decide))
   have hi:=layC_repI (C:=tidyC (ofT t (treeOf t))) [] [] hwm
   simp only [List.nil_append,List.append_nil,List.length_nil] at hi
   obtain ⟨t',e1,e2,_,e3⟩:=shrink_ok R0 _ _ 0 0 _ hi (by unfold R0;omega) (hsz.sm (by decide))
   have e1':trim_shrink R0 (layC (tidyC (ofT t (treeOf t))) 0) 0=some t':=e1
   have d:=shrinkC_deep (tidyC (ofT t (treeOf t)))
   have z:=shrinkC_size (tidyC (ofT t (treeOf t)))
   have hc:trim_copyOf R0 t' 0 []=_:=copyOf_ok R0 _ 0 [] e3.rep (by unfold R0;omega) (by simp only [List.length_nil];omega)
   rw [trim_Shrink,ho,Option.bind_some,show (!decide ((0:Int)=0))=false by decide,cond_false,e1',Option.bind_some,over_all e2,hc]
   rfl
def CSz (row:List CELL) (k:Nat):Prop:=∀ c ∈ row,SzR c.2 k
theorem goes_ok {n:NODE} {c:CELL} {k j:Nat} (hn:SzR (nCut n) k) (hk:k < 1099511627776) (hc:SzR c.2 j) (hj:j < 1099511627776):route_goes n c=some (goes n c):=by
 unfold route_goes goes
 cases h:c.1 with
 | true=>rfl
 | false =>
  rw [cond_false,ratio_Cmp_ok (hc.sm hj) (hn.sm hk),Option.bind_some,if_neg (by decide)]
  congr 1
  by_cases h:rv c.2 < rv (nCut n)
  · rw [decide_eq_true (rcmp_neg.2 h),decide_eq_true h]
  · rw [decide_eq_false (fun e=>h (rcmp_neg.1 e)),decide_eq_false h]
theorem Left_ok {n:NODE} {c:CELL} {k j:Nat} (hn:SzR (nCut n) k) (hk:k < 1099511627776) (hc:SzR c.2 j) (hj:j < 1099511627776):route_Left n c=some (!nLeaf n && goes n c):=by
 unfold route_Left
 rw [goes_ok hn hk hc hj]
 show _=some (!n.1 && goes n c)
 cases h:n.1 with
 | true=>rfl
 | false=>rfl
theorem goL_ok {t:List NODE} {f:Int} {row:List CELL} {i:Nat} (hs:TSz t 4) (hc:CSz row 9) (hi:i < t.length) (h0:0 ≤ nFeat t[i]) (h1:nFeat t[i] < (row.length:Int)) :
  ∃ c,row[(nFeat t[i]).toNat]?=some c∧SzR c.2 9∧goes t[i] c=goL t row i:=by
 have hlt:(nFeat t[i]).toNat < row.length:=by omega
 refine ⟨row[(nFeat t[i]).toNat],List.getElem?_eq_getElem hlt,hc _ (List.getElem_mem hlt),?_⟩
 rw [goL,nodeAt_get hi,cellAt_get hlt]
theorem cutRow_sz (l:List CELL):CSz (l.map cutCell) 9:=by
 intro c hc
 obtain ⟨x,_,rfl⟩:=List.mem_map.1 hc
 exact ⟨Nat.le_trans (cutR_sz 3 _).1 (by decide),Nat.le_trans (cutR_sz 3 _).2 (by decide)⟩
theorem fitsOk {m:MODEL} {row:List CELL} (hl:m.2.length < 4294967296) (ht:∀ t ∈ m.2,t.length < 4294967296) (hs:MSz m 4) :
  ∃ e:Int,route_fits m row=some e∧route_Fits m row=some e∧(e=0 ↔ Good m∧(row.length:Int)=m.1):=by
 obtain ⟨b,h1,h2⟩:=Ok_ok hl ht hs (by decide)
 have key:∃ e:Int,route_fits m row=some e∧(e=0 ↔ Good m∧(row.length:Int)=m.1):=by
  cases b with
  | false => exact ⟨1, by rw [route_fits, h1]; rfl, by constructor; · intro h; exact absurd h (by decide)
                                                       · intro h;have:=h2.2 h.1;simp at this⟩
  | true =>
   by_cases h:(row.length:Int)=m.1
   · exact ⟨0,by rw [route_fits,h1,Option.bind_some,Bool.not_true,cond_false,decide_eq_true h];rfl,by simp [h2.1 rfl,h]⟩
   · exact ⟨14,by rw [route_fits,h1,Option.bind_some,Bool.not_true,cond_false,decide_eq_false h];rfl,by simp [h]⟩
 obtain ⟨e,h3,h4⟩:=key
 exact ⟨e,h3,by rw [route_Fits,h3];rfl,h4⟩
structure Askd (m:MODEL) (row:List CELL):Prop where
 good:Good m
 len:(row.length:Int)=m.1
 ms:MSz m 4
 ml:m.2.length ≤ 6
 mt:∀ t ∈ m.2,t.length ≤ 15
 cs:CSz row 9
theorem Askd.tree {m:MODEL} {row:List CELL} (h:Askd m row) {i:Nat} (hi:i < m.2.length):TSz m.2[i] 4∧Is m.2[i] (row.length:Int) (treeOf (treeAt m i))∧(treeOf (treeAt m i)).top=0∧(treeOf (treeAt m i)).deep ≤ 16∧treeAt m i=m.2[i]:=by
 have h1:=h.good.treeOf hi
 have h2:=deep16 h.good h.mt hi
 rw [treeAt_get hi] at h2 ⊢
 exact ⟨h.ms _ (List.getElem_mem hi),by rw [h.len];exact h1.1,h1.2.1,h2,rfl⟩
theorem sum_step {f:Nat → Rat} {n k:Nat} {q:RAT} (hs:SzQ (rsum f n) k) (hk:k < 1099511627776) (hq:Sm q) (e:rv q=f n):ratio_Add (((canQ (rsum f n)).1.1,(canQ (rsum f n)).1.2),(canQ (rsum f n)).2) q=some (canQ (rsum f (n+1))):=by
 have h1:=ratio_Add_ok (hs.sm hk) hq
 rw [rv_canQ,e] at h1
 exact h1
theorem testBit_div (n k:Nat):(n / 2 ^ k) % 2=1 ↔ n.testBit k=true:=by
 rw [Nat.testBit_eq_decide_div_mod_eq,decide_eq_true_iff]
theorem in_lp {set k:Nat} (hs:set < 18446744073709551616) (hk:k < 1000000):dendronlaw11_in (set:Int) (k:Int)=some (set.testBit k):=by
 have key:=lp_up (step:=dendronlaw11_in_s2) (fun i=>((((set / 2 ^ i:Nat):Int),(k:Int),(i:Int),()),())) k (r:=((((set / 2 ^ k:Nat):Int),()),())) (by omega) (by
   intro g i hi
   have d0:(i:Int) < (k:Int):=by omega
   have h2:(set / 2 ^ i:Nat) < 18446744073709551616:=Nat.lt_of_le_of_lt (Nat.div_le_self _ _) hs
   obtain ⟨x,hx⟩:∃ x,x=set / 2 ^ i:=⟨_,rfl⟩
   have e:set / 2 ^ (i+1)=x / 2:=by rw [hx,Nat.pow_succ,Nat.div_div_eq_div_mul]
   rw [e,← hx]
   rw [← hx] at h2
   rw [dendronlaw11_in_s2,cnd d0,iadd1 (by omega),iquo_u (by omega) (by omega) (by omega)]
   rfl) (by
   intro g
   rw [dendronlaw11_in_s2,cnd' (by omega)])
 have e0:set / 2 ^ 0=set:=by simp
 have key':lp dendronlaw11_in_s2 K0 ((((set / 2 ^ 0:Nat):Int),(k:Int),0,()),())=_:=key
 rw [e0] at key'
 rw [dendronlaw11_in,key',Option.bind_some,irem_n (Int.natCast_nonneg _)]
 congr 1
 obtain ⟨x,hx⟩:∃ x,x=set / 2 ^ k:=⟨_,rfl⟩
 have tb:=testBit_div set k
 rw [← hx] at tb ⊢
 by_cases h:set.testBit k=true
 · rw [h, decide_eq_true]
   have:=tb.2 h
   omega
 · have h' : set.testBit k = false := by simpa using h
   rw [h',decide_eq_false]
   intro e
   exact h (tb.1 (by omega))
theorem below_ok {t:List NODE} {row:List CELL} {set:Nat} (hs:TSz t 4) (hc:CSz row 9) (hcov:CoversP t) (hset:set < 18446744073709551616) (hf64:row.length ≤ 64):∀ (n:Nat) (T:TR),Is t (row.length:Int) T → T.deep ≤ n → T.size ≤ 1000000 →
  ∃ x,dendronlaw11_below n t (T.top:Int) row (set:Int)=some x∧rv x=expT t row set T∧SzR x (16 * T.size):=by
 intro n
 induction n with
 | zero=>intro T _ hd;have:=T.deep_pos;omega
 | succ n ih =>
  intro T h hd hz
  show ∃ x,dendronlaw11_below_b (dendronlaw11_below n) t T.top row set=some x∧_
  cases T with
  | leaf i =>
   obtain ⟨h1,h2⟩:=h
   have d0:(0:Int) ≤ (i:Int):=by omega
   have z:=(hs _ (List.getElem_mem h1)).2.1
   refine ⟨nVal t[i],?_,?_,⟨by have:=z.1;simp only [TR.size];omega,by have:=z.2;simp only [TR.size];omega⟩⟩
   · rw [dendronlaw11_below_b,show ((TR.leaf i).top:Int)=(i:Int) from rfl,cnd d0,Int.toNat_natCast,List.getElem?_eq_getElem h1,Option.bind_some,show t[i].1=true from h2,cond_true]
   · rw [expT,nodeAt_get h1]
  | split i l r =>
   obtain ⟨h1,h2,f0,f1,h3,h4,h5,h6⟩:=h
   have d0:(0:Int) ≤ (i:Int):=by omega
   simp only [TR.deep] at hd
   simp only [TR.size] at hz ⊢
   obtain ⟨c,g1,g2,g3⟩:=goL_ok (f:=0) hs hc h1 f0 f1
   have z:=hs _ (List.getElem_mem h1)
   obtain ⟨xl,el,vl,zl⟩:=ih l h5 (by omega) (by omega)
   obtain ⟨xr,er,vr,zr⟩:=ih r h6 (by omega) (by omega)
   have el':dendronlaw11_below n t t[i].2.2.2.1 row set=some xl:=by rw [show t[i].2.2.2.1=_ from h3];exact el
   have er':dendronlaw11_below n t t[i].2.2.2.2.1 row set=some xr:=by rw [show t[i].2.2.2.2.1=_ from h4];exact er
   have hft:((nFeat t[i]).toNat:Int)=nFeat t[i]:=by omega
   have hkn:=in_lp (k:=(nFeat t[i]).toNat) hset (by omega)
   rw [hft] at hkn
   rw [dendronlaw11_below_b,show ((TR.split i l r).top:Int)=(i:Int) from rfl,cnd d0,Int.toNat_natCast,List.getElem?_eq_getElem h1,Option.bind_some,show t[i].1=false from h2,cond_false,hkn,Option.bind_some]
   simp only [expT,nodeAt_get h1]
   cases hb:set.testBit (nFeat t[i]).toNat with
   | true =>
     rw [cond_true,cnd f0,g1,Option.bind_some,Left_ok z.1 (by decide) g2 (by decide),Option.bind_some,g3,show (!nLeaf t[i])=true by rw [h2];rfl,Bool.true_and,if_pos rfl]
     cases goL t row i with
     | true=>exact ⟨xl,by rw [cond_true,el',Option.bind_some],by rw [if_pos rfl];exact vl,⟨by have:=zl.1;omega,by have:=zl.2;omega⟩⟩
     | false=>exact ⟨xr,by rw [cond_false,er',Option.bind_some],by rw [if_neg (by decide)];exact vr,⟨by have:=zr.1;omega,by have:=zr.2;omega⟩⟩
   | false =>
     have al:=h5.top_lt
     have ar:=h6.top_lt
     have za:=(hs _ (List.getElem_mem al)).2.2
     have zb:=(hs _ (List.getElem_mem ar)).2.2
     have zi:=z.2.2
     have m1:=ratio_Mul_ok (za.sm (by decide)) (zl.sm (by omega))
     have m2:=ratio_Mul_ok (zb.sm (by decide)) (zr.sm (by omega))
     rw [vl] at m1
     rw [vr] at m2
     have sl:=expT_sz (row:=row) (set:=set) hs h5
     have sr:=expT_sz (row:=row) (set:=set) hs h6
     have s1:=(za.szQ (by decide)).mul sl
     have s2:=(zb.szQ (by decide)).mul sr
     have s3:=s1.add s2
     have m3:=ratio_Add_ok (s1.sm (by omega)) (s2.sm (by omega))
     rw [rv_canQ,rv_canQ] at m3
     have hne:rv (nCov t[i]) ≠ 0:=by
       have:=hcov i h1
       intro e
       rw [e] at this
       exact absurd this (by decide)
     have m4:=ratio_Div_ok (s3.sm (by omega)) (zi.sm (by decide))
     rw [if_neg hne,rv_canQ] at m4
     have s4:=s3.div (zi.szQ (by decide))
     refine ⟨_,?_,?_,(s4.mono (m:=16 * (1+l.size+r.size)) (by omega)).szR⟩
     · rw [cond_false,show t[i].2.2.2.1=_ from h3,cnd (by omega),Int.toNat_natCast,List.getElem?_eq_getElem al,Option.bind_some,el,Option.bind_some,m1,Option.bind_some,show t[i].2.2.2.2.1=_ from h4,cnd (by omega),Int.toNat_natCast,List.getElem?_eq_getElem ar,Option.bind_some,er,Option.bind_some,m2,Option.bind_some,m3,Option.bind_some,m4,Option.bind_some]
     · rw [rv_canQ,if_neg (by decide),cov_get al,cov_get ar,cov_get h1]
theorem Askd.cov {m:MODEL} {row:List CELL} (h:Askd m row) {i:Nat} (hi:i < m.2.length):CoversP m.2[i]:=h.good.covers hi
theorem Askd.f64 {m:MODEL} {row:List CELL} (h:Askd m row):row.length ≤ 64:=by
 have:=h.good.1.2.1
 have:=h.len
 omega
theorem Value11_ok {m:MODEL} {row:List CELL} (h:Askd m row) {set:Nat} (hset:set < 18446744073709551616):dendronlaw11_Value m row (set:Int)=some (canQ (sayM m row set)):=by
 have ml:=h.ml
 obtain ⟨F,eF⟩:∃ F:Nat → Rat,F=fun i=>expT (treeAt m i) row set (treeOf (treeAt m i)):=⟨_,rfl⟩
 have hF:∀ n,n ≤ m.2.length → SzQ (rsum F n) (1+n * 1048577):=fun n hn=>by rw [eF];exact sayM_sz h.good h.ms h.mt hn
 have key:=lp_up (step:=dendronlaw11_Value_s3) (fun i=>((row,(set:Int),(i:Int),()),((m.1,m.2,()),(false,[],[],()),((canQ (rsum F i)).1.1,(canQ (rsum F i)).1.2,(canQ (rsum F i)).2,()),()))) m.2.length (by omega) (by
  intro g i hi
  have d0:(i:Int) < ((m.2.length:Nat):Int):=by omega
  have d1:(0:Int) ≤ (i:Int):=by omega
  obtain ⟨t1,t2,t3,t4,t5⟩:=h.tree hi
  have hz:=TR.size_le t4
  obtain ⟨x,hv,vx,zx⟩:=below_ok t1 h.cs (h.cov hi) hset h.f64 R0 _ t2 (by unfold R0;omega) (by omega)
  rw [t3] at hv
  have hv:dendronlaw11_below R0 m.2[i] 0 row set=some x:=hv
  have ha:=sum_step (hF i (by omega)) (by omega) (zx.sm (by omega)) (by rw [vx,eF];show _=expT (treeAt m i) row set _;rw [t5])
  rw [dendronlaw11_Value_s3,cnd d0,cnd d1,Int.toNat_natCast,List.getElem?_eq_getElem hi,Option.bind_some,hv,Option.bind_some,ha,Option.bind_some,iadd1 (by omega)]
  rfl) (by
  intro g
  rw [dendronlaw11_Value_s3,cnd' (by omega)])
 rw [dendronlaw11_Value,ratio_Zero_ok,Option.bind_some]
 have key':lp dendronlaw11_Value_s3 K0 ((row,(set:Int),0,()),((m.1,m.2,()),(false,[],[],()),((canQ 0).1.1,(canQ 0).1.2,(canQ 0).2,()),()))=_:=key
 rw [key']
 rw [sayM,← eF]
 rfl
theorem Small_ok (m0:MODEL) (row0:List CELL) (hl:m0.2.length ≤ 9223372036854775807) (ht:∀ t ∈ m0.2,t.length ≤ 9223372036854775807) (hr:row0.length ≤ 9223372036854775807) :
   ∃ m row,dendronlaw11_Small m0 row0=some (m,row)∧MSz m 4∧m.2.length ≤ 3∧(∀ t ∈ m.2,t.length ≤ 15)∧CSz row 9:=by
 have hf:=Few07_ok m0 hl ht
 have ms:=cutM_sz m0
 have mt:=cutM_tlen m0
 have h9:=Few09_ok row0 70 hr (by decide)
 have h9:dendronlaw09_Few row0 70=some ((row0.take 70).map cutCell):=h9
 have cs:=cutRow_sz (row0.take 70)
 by_cases h3:((cutM m0).2.length:Int) > 3
 · refine ⟨((cutM m0).1, (cutM m0).2.take 3), (row0.take 70).map cutCell, ?_, fun t h => ms t (List.mem_of_mem_take h), by simp; omega, fun t h => mt t (List.mem_of_mem_take h), cs⟩
   rw [dendronlaw11_Small,hf,Option.bind_some,cnd h3,cnd (by omega),h9];rfl
 · refine ⟨cutM m0, (row0.take 70).map cutCell, ?_, ms, by omega, mt, cs⟩
   rw [dendronlaw11_Small,hf,Option.bind_some,cnd' h3,h9];rfl
def rprod (f:Nat → Rat):Nat → Rat
 | 0=>1
 | n+1=>rprod f n * f n
def expC (row:List CELL) (set:Nat):CT → Rat
 | .leaf n=>rv (nVal n)
 | .split n l r=>if set.testBit (nFeat n).toNat then (if goes n (cellAt row (nFeat n).toNat) then expC row set l else expC row set r)
  else (rv (covN l) * expC row set l+rv (covN r) * expC row set r) / rv (nCov n)
theorem covN_ofT {t:List NODE} (T:TR):rv (covN (ofT t T))=cov t T.top:=by
 cases T with
 | leaf i=>rfl
 | split i l r=>rfl
theorem expT_C {t:List NODE} {row:List CELL} {set:Nat} (T:TR):expT t row set T=expC row set (ofT t T):=by
 induction T with
 | leaf i=>rfl
 | split i l r ihl ihr =>
  simp only [expT,ofT,expC]
  rw [ihl,ihr,covN_ofT,covN_ofT]
  rfl
def GC (f:Int):CT → Prop
 | .leaf n=>nLeaf n=true∧0 < rv (nCov n)∧0 ≤ nFeat n∧nFeat n ≤ 64∧0 ≤ nL n∧nL n ≤ 255∧0 ≤ nR n∧nR n ≤ 255
 | .split n l r=>nLeaf n=false∧norm n=n∧0 ≤ nFeat n∧nFeat n < f∧0 < rv (nCov n)∧rv (nCov n)=rv (covN l)+rv (covN r)∧GC f l∧GC f r
theorem ofT_GC {t:List NODE} {f:Int} (hc:CoversP t) (hs:SumsP t) (hf:∀ i (h:i < t.length),NodeFits t[i]):∀ {T:TR},Is t f T → GC f (ofT t T):=by
 intro T
 induction T with
 | leaf i =>
  rintro ⟨h1,h2⟩
  show GC f (.leaf (nodeAt t i))
  rw [nodeAt_get h1]
  exact ⟨h2,hc i h1,hf i h1⟩
 | split i l r ihl ihr =>
  rintro ⟨h1,h2,f0,f1,h3,h4,h5,h6⟩
  have hsm:=hs i h1 h2
  rw [h3,h4,Int.toNat_natCast,Int.toNat_natCast] at hsm
  show GC f (.split (norm (nodeAt t i)) (ofT t l) (ofT t r))
  rw [nodeAt_get h1]
  exact ⟨h2,norm_norm _,f0,f1,hc i h1,by rw [covN_ofT,covN_ofT];exact hsm,ihl h5,ihr h6⟩
def Lay (t:List NODE) (C:CT) (p:Nat):Prop:=∀ j,j < C.size → t[p+j]?=(layC C p)[j]?
theorem Lay.zero (C:CT):Lay (layC C 0) C 0:=fun j _=>by rw [Nat.zero_add]
theorem Lay.split {t:List NODE} {n:NODE} {l r:CT} {p:Nat} (h:Lay t (.split n l r) p) :
   t[p]?=some (setLR n ((p+1:Nat):Int) ((p+1+l.size:Nat):Int))∧Lay t l (p+1)∧Lay t r (p+1+l.size):=by
 refine ⟨?_,fun j hj=>?_,fun j hj=>?_⟩
 · have := h 0 (by simp only [CT.size]; omega)
   rw [Nat.add_zero] at this
   rw [this];rfl
 · have := h (j + 1) (by simp only [CT.size]; omega)
   rw [show p+1+j=p+(j+1) by omega,this]
   simp only [layC,List.getElem?_cons_succ]
   rw [List.getElem?_append_left (by rw [layC_len];exact hj)]
 · have := h (j + l.size + 1) (by simp only [CT.size]; omega)
   rw [show p+1+l.size+j=p+(j+l.size+1) by omega,this]
   simp only [layC,List.getElem?_cons_succ]
   rw [List.getElem?_append_right (by rw [layC_len];omega),layC_len]
   congr 1;omega
def trOf:CT → Nat → TR
 | .leaf _,p=>.leaf p
 | .split _ l r,p=>.split p (trOf l (p+1)) (trOf r (p+1+l.size))
theorem trOf_top (C:CT) (p:Nat):(trOf C p).top=p:=by cases C <;> rfl
theorem trOf_deep (C:CT):∀ p,(trOf C p).deep=C.deep:=by
 induction C with
 | leaf n=>intro p;rfl
 | split n l r ihl ihr=>intro p;simp only [trOf,TR.deep,CT.deep,ihl,ihr]
theorem CT.deep_le (C:CT):C.deep ≤ C.size:=by
 induction C with
 | leaf n=>exact Nat.le_refl _
 | split n l r ihl ihr=>simp only [CT.deep,CT.size];have:=l.size_pos;have:=r.size_pos;omega
theorem Lay.isT {t:List NODE} {f:Int}:∀ {C:CT} {p:Nat},Lay t C p → GC f C → Is t f (trOf C p):=by
 intro C
 induction C with
 | leaf n =>
  intro p h hg
  have h0:t[p]?=some n:=by have:=h 0 (by simp [CT.size]);rw [Nat.add_zero] at this;rw [this];rfl
  obtain ⟨hp,e⟩:=List.getElem?_eq_some_iff.1 h0
  exact ⟨hp,by rw [e];exact hg.1⟩
 | split n l r ihl ihr =>
  intro p h hg
  obtain ⟨h0,hl,hr⟩:=h.split
  obtain ⟨hp,e⟩:=List.getElem?_eq_some_iff.1 h0
  obtain ⟨g1,g2,g3,g4,g5,g6,g7,g8⟩:=hg
  refine ⟨hp,by rw [e];exact g1,by rw [e];exact g3,by rw [e];exact g4,by rw [e,trOf_top];rfl,by rw [e,trOf_top];rfl,ihl hl g7,ihr hr g8⟩
theorem Lay.ofT {t:List NODE} {f:Int}:∀ {C:CT} {p:Nat},Lay t C p → GC f C → X.ofT t (trOf C p)=C:=by
 intro C
 induction C with
 | leaf n =>
  intro p h hg
  have h0:t[p]?=some n:=by have:=h 0 (by simp [CT.size]);rw [Nat.add_zero] at this;rw [this];rfl
  show CT.leaf (nodeAt t p)=_
  rw [nodeAt,h0];rfl
 | split n l r ihl ihr =>
  intro p h hg
  obtain ⟨h0,hl,hr⟩:=h.split
  obtain ⟨g1,g2,g3,g4,g5,g6,g7,g8⟩:=hg
  show CT.split (norm (nodeAt t p)) _ _=_
  rw [nodeAt,h0,Option.getD_some,norm_setLR,g2,ihl hl g7,ihr hr g8]
theorem Lay.all {t:List NODE} {f:Int} (Q:Nat → NODE → Prop)
  (hlf:∀ i n,GC f (.leaf n) → t[i]?=some n → Q i n)
  (hsp:∀ i n l r,GC f (.split n l r) → Lay t (.split n l r) i → Q i (setLR n ((i+1:Nat):Int) ((i+1+l.size:Nat):Int))) :
  ∀ {C:CT} {p:Nat},Lay t C p → GC f C → ∀ j,p ≤ j → j < p+C.size → ∀ x,t[j]?=some x → Q j x:=by
 intro C
 induction C with
 | leaf n =>
  intro p h hg j h1 h2 x hx
  have h0:t[p]?=some n:=by have:=h 0 (by simp [CT.size]);rw [Nat.add_zero] at this;rw [this];rfl
  simp only [CT.size] at h2
  have:j=p:=by omega
  subst this
  rw [h0] at hx
  cases hx
  exact hlf _ _ hg h0
 | split n l r ihl ihr =>
  intro p h hg j h1 h2 x hx
  obtain ⟨h0,hl,hr⟩:=h.split
  obtain ⟨g1,g2,g3,g4,g5,g6,g7,g8⟩:=id hg
  simp only [CT.size] at h2
  by_cases e:j=p
  · subst e
    rw [h0] at hx
    cases hx
    exact hsp _ _ _ _ hg h
  · by_cases e2 : j < p + 1 + l.size
    · exact ihl hl g7 j (by omega) (by omega) x hx
    · exact ihr hr g8 j (by omega) (by omega) x hx
def cntR (t:List NODE) (a j:Nat):Nat → Nat
 | 0=>0
 | n+1=>cntR t a j n+(kids t (a+n)).count j
theorem cntR_cnt (t:List NODE) (j:Nat):∀ n,cntR t 0 j n=cnt t n j:=by
 intro n
 induction n with
 | zero=>rw [cnt_zero];rfl
 | succ n ih=>rw [cnt_succ,cntR,ih,Nat.zero_add]
theorem cntR_add (t:List NODE) (a j n:Nat):∀ k,cntR t a j (n+k)=cntR t a j n+cntR t (a+n) j k:=by
 intro k
 induction k with
 | zero=>rfl
 | succ k ih=>rw [show n+(k+1)=n+k+1 by omega,cntR,cntR,ih,show a+(n+k)=a+n+k by omega];omega
theorem Lay.cnt {t:List NODE} {f:Int} (j:Nat):∀ {C:CT} {p:Nat},Lay t C p → GC f C → cntR t p j C.size=if p < j∧j < p+C.size then 1 else 0:=by
 intro C
 induction C with
 | leaf n =>
  intro p h hg
  have h0:t[p]?=some n:=by have:=h 0 (by simp [CT.size]);rw [Nat.add_zero] at this;rw [this];rfl
  obtain ⟨hp,e⟩:=List.getElem?_eq_some_iff.1 h0
  rw [show (CT.leaf n).size=1 from rfl]
  rw [cntR,cntR,Nat.add_zero,kids_leaf hp (by rw [e];exact hg.1),if_neg (by omega)];rfl
 | split n l r ihl ihr =>
  intro p h hg
  obtain ⟨h0,hl,hr⟩:=h.split
  obtain ⟨hp,e⟩:=List.getElem?_eq_some_iff.1 h0
  obtain ⟨g1,g2,g3,g4,g5,g6,g7,g8⟩:=hg
  have hk:kids t p=[p+1,p+1+l.size]:=by
    rw [kids_split hp (by rw [e];exact g1),e];rfl
  have hls:=l.size_pos
  have hrs:=r.size_pos
  rw [show (CT.split n l r).size=1+l.size+r.size from rfl]
  rw [cntR_add,cntR_add,ihr (p:=p+(1+l.size)) (by rw [show p+(1+l.size)=p+1+l.size by omega];exact hr) g8,ihl hl g7,cntR,cntR,Nat.add_zero,hk]
  simp only [List.count_cons,List.count_nil,beq_iff_eq]
  by_cases e1:p+1=j
  · subst e1
    rw [if_pos rfl,if_neg (by omega),if_neg (by omega),if_neg (by omega),if_pos (by omega)]
  · rw [if_neg e1]
    by_cases e2:p+1+l.size=j
    · subst e2
      rw [if_pos rfl,if_neg (by omega),if_neg (by omega),if_pos (by omega)]
    · rw [if_neg e2]
      by_cases e3:p+1 < j∧j < p+1+l.size
      · rw [if_pos e3,if_neg (by omega),if_pos (by omega)]
      · rw [if_neg e3]
        by_cases e4:p+(1+l.size) < j∧j < p+(1+l.size)+r.size
        · rw [if_pos e4,if_pos (by omega)]
        · rw [if_neg e4,if_neg (by omega)]
def qcan (qs:List Rat):List RAT:=qs.map canQ
@[simp] theorem qcan_len (qs:List Rat):(qcan qs).length=qs.length:=by simp [qcan]
def lsum:List Rat → Rat
 | []=>0
 | x :: r=>x+lsum r
theorem lsum_append (a b:List Rat):lsum (a ++ b)=lsum a+lsum b:=by
 induction a with
 | nil=>simp [lsum,Rat.zero_add]
 | cons x a ih=>simp only [List.cons_append,lsum,ih,Rat.add_assoc]
theorem CoversP.ne {t:List NODE} (h:CoversP t):∀ i,i < t.length → cov t i ≠ 0:=by
 intro i hi e
 have:=h i hi
 rw [cov_get hi] at e
 rw [e] at this
 exact absurd this (by decide)
abbrev AP:=Nat×Rat×Bool
def encP (p:AP):PART:=((p.1:Int),canQ p.2.1,p.2.2)
def encW (w:List AP):List PART:=w.map encP
theorem encW_len (w:List AP):(encW w).length=w.length:=by simp [encW]
theorem encW_get {w:List AP} {i:Nat} (h:i < w.length):(encW w)[i]?=some (encP w[i]):=by simp [encW,h]
def along (f:Nat) (q:Rat) (ok:Bool):List AP → List AP
 | []=>[(f,q,ok)]
 | p :: w=>if p.1 < f then p :: along f q ok w else if p.1=f then (f,p.2.1 * q,p.2.2 && ok) :: w else (f,q,ok) :: p :: w
def ASz (w:List AP) (k:Nat):Prop:=∀ p ∈ w,SzQ p.2.1 k
abbrev AL:=Nat×Rat×List AP
def featT (t:List NODE) (i:Nat):Nat:=(nFeat (nodeAt t i)).toNat
def legsT (t:List NODE) (row:List CELL):TR → List AP → List AL
 | .leaf i,w=>[(i,rv (nVal (nodeAt t i)),w)]
 | .split i l r,w=>legsT t row l (along (featT t i) (cov t l.top / cov t i) (goL t row i) w) ++ legsT t row r (along (featT t i) (cov t r.top / cov t i) (!goL t row i) w)
theorem along_mem {f:Nat} {q:Rat} {ok:Bool} {w:List AP}:∀ p ∈ along f q ok w,p.1=f ∨ ∃ p' ∈ w,p'.1=p.1:=by
 induction w with
 | nil=>intro p hp;simp [along] at hp;subst hp;exact .inl rfl
 | cons a w ih =>
  intro p hp
  simp only [along] at hp
  split at hp
  · rcases List.mem_cons.1 hp with rfl | hp
    · exact .inr ⟨p,List.mem_cons_self,rfl⟩
    · rcases ih p hp with h | ⟨p', h1, h2⟩
      · exact .inl h
      · exact .inr ⟨p',List.mem_cons_of_mem _ h1,h2⟩
  · split at hp
    · rcases List.mem_cons.1 hp with rfl | hp
      · exact .inl rfl
      · exact .inr ⟨p,List.mem_cons_of_mem _ hp,rfl⟩
    · rcases List.mem_cons.1 hp with rfl | hp
      · exact .inl rfl
      · exact .inr ⟨p,hp,rfl⟩
theorem share_sz {t:List NODE} (hs:TSz t 4) {a i:Nat} (ha:a < t.length) (hi:i < t.length):SzQ (cov t a / cov t i) 8:=(cov_sz hs ha).div (cov_sz hs hi)
def lprod:List Rat → Rat
 | []=>1
 | x :: r=>x * lprod r
theorem lprod_append (a b:List Rat):lprod (a ++ b)=lprod a * lprod b:=by
 induction a with
 | nil=>simp [lprod,Rat.one_mul]
 | cons x a ih=>simp only [List.cons_append,lprod,ih,Rat.mul_assoc]
def facP (set:Nat) (p:AP):Rat:=if set.testBit p.1 then (if p.2.2 then 1 else 0) else p.2.1
def reachA (set:Nat) (w:List AP):Rat:=lprod (w.map (facP set))
theorem reachA_along (set f:Nat) (q:Rat) (ok:Bool) (w:List AP):reachA set (along f q ok w)=reachA set w * facP set (f,q,ok):=by
 induction w with
 | nil=>simp [reachA,along,lprod,Rat.mul_one,Rat.one_mul]
 | cons p w ih =>
  simp only [reachA] at ih
  simp only [along]
  split
  · simp only [reachA,List.map_cons,lprod,ih];grind
  · split
    · rename_i e
      simp only [reachA,List.map_cons,lprod]
      have:facP set (f,p.2.1 * q,p.2.2 && ok)=facP set p * facP set (f,q,ok):=by
       simp only [facP,e]
       cases set.testBit f <;> cases p.2.2 <;> cases ok <;> simp <;> grind
      rw [this];grind
    · simp only [reachA,List.map_cons,lprod];grind
def legV (set:Nat) (x:AL):Rat:=reachA set x.2.2 * x.2.1
theorem legs_say {t:List NODE} {f:Int} {row:List CELL} {set:Nat} {T:TR} (hc:∀ i,i < t.length → cov t i ≠ 0) (h:Is t f T):∀ w,lsum ((legsT t row T w).map (legV set))=reachA set w * expT t row set T:=by
 induction T with
 | leaf i=>intro w;simp only [legsT,List.map_cons,List.map_nil,lsum,legV,expT,Rat.add_zero]
 | split i l r ihl ihr =>
  intro w
  obtain ⟨h1,h2,f0,f1,h3,h4,h5,h6⟩:=h
  have c:=hc i h1
  simp only [legsT,List.map_append,lsum_append,ihl h5,ihr h6,reachA_along,expT]
  have e:(nFeat (nodeAt t i)).toNat=featT t i:=rfl
  rw [e]
  simp only [facP]
  obtain ⟨a,ea⟩:∃ a,a=expT t row set l:=⟨_,rfl⟩
  obtain ⟨b,eb⟩:∃ b,b=expT t row set r:=⟨_,rfl⟩
  obtain ⟨p,ep⟩:∃ p,p=cov t l.top:=⟨_,rfl⟩
  obtain ⟨q,eq⟩:∃ q,q=cov t r.top:=⟨_,rfl⟩
  obtain ⟨d,ed⟩:∃ d,d=cov t i:=⟨_,rfl⟩
  obtain ⟨z,ez⟩:∃ z,z=reachA set w:=⟨_,rfl⟩
  rw [← ea,← eb,← ep,← eq,← ed,← ez]
  cases set.testBit (featT t i) <;> cases goL t row i <;> simp <;> grind
def nodesT:TR → List Nat
 | .leaf i=>[i]
 | .split i l r=>i :: (nodesT l ++ nodesT r)
theorem nodesT_len (T:TR):(nodesT T).length=T.size:=by
 induction T with
 | leaf i=>rfl
 | split i l r ihl ihr=>simp only [nodesT,TR.size,List.length_cons,List.length_append,ihl,ihr];omega
theorem nodesT_lt {t:List NODE} {f:Int} {T:TR} (h:Is t f T):∀ j ∈ nodesT T,j < t.length:=by
 induction T with
 | leaf i=>intro j hj;simp [nodesT] at hj;subst hj;exact h.1
 | split i l r ihl ihr =>
  obtain ⟨h1,_,_,_,_,_,h2,h3⟩:=h
  intro j hj
  simp only [nodesT,List.mem_cons,List.mem_append] at hj
  rcases hj with rfl | hj | hj
  · exact h1
  · exact ihl h2 j hj
  · exact ihr h3 j hj
theorem Is.kids {t:List NODE} {f:Int} {i:Nat} {l r:TR} (h:Is t f (.split i l r)):kids t i=[l.top,r.top]:=by
 obtain ⟨h1,h2,_,_,h3,h4,_,_⟩:=h
 rw [kids_split h1 h2,h3,h4,Int.toNat_natCast,Int.toNat_natCast]
theorem nodesT_parent {t:List NODE} {f:Int} {T:TR} (h:Is t f T):∀ j ∈ nodesT T,j=T.top ∨ ∃ p ∈ nodesT T,j ∈ kids t p:=by
 induction T with
 | leaf i=>intro j hj;simp [nodesT] at hj;exact .inl hj
 | split i l r ihl ihr =>
  have hk:=h.kids
  obtain ⟨h1,_,_,_,_,_,h2,h3⟩:=h
  intro j hj
  simp only [nodesT,List.mem_cons,List.mem_append] at hj
  have hi:i ∈ nodesT (.split i l r):=by simp [nodesT]
  rcases hj with rfl | hj | hj
  · exact .inl rfl
  · refine .inr ?_
    rcases ihl h2 j hj with rfl | ⟨p,hp,hm⟩
    · exact ⟨i,hi,by rw [hk];simp⟩
    · exact ⟨p,by simp [nodesT,hp],hm⟩
  · refine .inr ?_
    rcases ihr h3 j hj with rfl | ⟨p,hp,hm⟩
    · exact ⟨i,hi,by rw [hk];simp⟩
    · exact ⟨p,by simp [nodesT,hp],hm⟩
theorem nodesT_rank {t:List NODE} {f:Int} {rk:Nat → Nat} (hrk:∀ i,i < t.length → rk i ≤ t.length∧∀ c ∈ kids t i,rk c < rk i) {T:TR} (h:Is t f T):∀ j ∈ nodesT T,rk j ≤ rk T.top:=by
 induction T with
 | leaf i=>intro j hj;simp [nodesT] at hj;subst hj;exact Nat.le_refl _
 | split i l r ihl ihr =>
  have hk:=h.kids
  obtain ⟨h1,_,_,_,_,_,h2,h3⟩:=h
  have a:=(hrk i h1).2 l.top (by rw [hk];simp)
  have b:=(hrk i h1).2 r.top (by rw [hk];simp)
  intro j hj
  simp only [nodesT,List.mem_cons,List.mem_append] at hj
  show rk j ≤ rk i
  rcases hj with rfl | hj | hj
  · exact Nat.le_refl _
  · have:=ihl h2 j hj;omega
  · have:=ihr h3 j hj;omega
theorem flatMap_count {t:List NODE} {n j p p':Nat} (hp:p < n) (hp':p' < n) (hne:p ≠ p') (h:j ∈ kids t p) (h':j ∈ kids t p'):2 ≤ ((List.range n).flatMap (kids t)).count j:=by
 have key:∀ {a b n:Nat},a < b → b < n → j ∈ kids t a → j ∈ kids t b → 2 ≤ ((List.range n).flatMap (kids t)).count j:=by
   intro a b n hab hb ha hbm
   have e:List.range n=List.range b ++ (List.range (n - b)).map (·+b):=by
    have h1:n=b+(n - b):=by omega
    conv=>lhs;rw [h1,List.range_add]
    congr 1
    refine List.map_congr_left fun x _=>Nat.add_comm _ _
   rw [e,List.flatMap_append,List.count_append]
   have c1:0 < ((List.range b).flatMap (kids t)).count j:=List.count_pos_iff.2 (List.mem_flatMap.2 ⟨a,by simpa using hab,ha⟩)
   have c2:0 < (((List.range (n - b)).map (·+b)).flatMap (kids t)).count j:=List.count_pos_iff.2 (List.mem_flatMap.2 ⟨b,List.mem_map.2 ⟨0,by simp;omega,by simp⟩,hbm⟩)
   omega
 rcases Nat.lt_or_gt_of_ne hne with hlt | hlt
 · exact key hlt hp' h h'
 · exact key hlt hp h' h
theorem nodesT_nodup {t:List NODE} {f:Int} (hs:ShapeP t) {T:TR} (h:Is t f T):(nodesT T).Nodup:=by
 obtain ⟨hc,rk,hrk⟩:=hs
 have one:∀ j p p',p < t.length → p' < t.length → 0 < j → j < t.length → j ∈ kids t p → j ∈ kids t p' → p=p':=by
  intro j p p' hp hp' h0 hj hm hm'
  refine Classical.byContradiction fun hne=>?_
  have h1:=flatMap_count hp hp' hne hm hm'
  have h2:=hc j h0 hj
  rw [cnt] at h2
  omega
 induction T with
 | leaf i=>simp [nodesT]
 | split i l r ihl ihr =>
  have hk:=h.kids
  obtain ⟨h1,g1,g2,g3,g4,g5,h2,h3⟩:=h
  have ra:=(hrk i h1).2 l.top (by rw [hk];simp)
  have rb:=(hrk i h1).2 r.top (by rw [hk];simp)
  have nl:=nodesT_rank hrk h2
  have nr:=nodesT_rank hrk h3
  have top0:∀ j ∈ kids t i,0 < j → True:=fun _ _ _=>trivial
  refine List.nodup_cons.2 ⟨fun hm=>?_,List.nodup_append.2 ⟨ihl h2,ihr h3,?_⟩⟩
  · rcases List.mem_append.1 hm with hm | hm
    · have:=nl i hm;omega
    · have:=nr i hm;omega
  ·
    have key:∀ (d j:Nat),t.length - rk j ≤ d → j ∈ nodesT l → j ∈ nodesT r → False:=by
      intro d
      induction d with
      | zero =>
       intro j hd hl hr
       have:=nl j hl
       have:=(hrk i h1).1
       omega
      | succ d ih =>
       intro j hd hl hr
       have hjl:=nodesT_lt h2 j hl
       have par:∃ p p',p < t.length∧p' < t.length∧j ∈ kids t p∧j ∈ kids t p'∧((p=i∧j=l.top) ∨ p ∈ nodesT l)∧((p'=i∧j=r.top) ∨ p' ∈ nodesT r):=by
         have hk1:l.top ∈ kids t i:=by rw [hk];simp
         have hk2:r.top ∈ kids t i:=by rw [hk];simp
         rcases nodesT_parent h2 j hl with e | ⟨p,hp,hm⟩
         · rcases nodesT_parent h3 j hr with e' | ⟨p', hp', hm'⟩
           · exact ⟨i,i,h1,h1,by rw [e];exact hk1,by rw [e];exact hk1,.inl ⟨rfl,e⟩,.inl ⟨rfl,e'⟩⟩
           · exact ⟨i,p',h1,nodesT_lt h3 p' hp',by rw [e];exact hk1,hm',.inl ⟨rfl,e⟩,.inr hp'⟩
         · rcases nodesT_parent h3 j hr with e' | ⟨p', hp', hm'⟩
           · exact ⟨p,i,nodesT_lt h2 p hp,h1,hm,by rw [e'];exact hk2,.inr hp,.inl ⟨rfl,e'⟩⟩
           · exact ⟨p,p',nodesT_lt h2 p hp,nodesT_lt h3 p' hp',hm,hm',.inr hp,.inr hp'⟩
       obtain ⟨p,p',q1,q2,q3,q4,q5,q6⟩:=par
       by_cases h0:0 < j
       · have e := one j p p' q1 q2 h0 hjl q3 q4
         subst e
         rcases q5 with ⟨e1,e2⟩ | q5
         · rcases q6 with ⟨_, e3⟩ | q6
           ·
             have h5:=hc j h0 hjl
             rw [cnt] at h5
             have:((List.range t.length).flatMap (kids t)).count j ≥ (kids t i).count j:=by
               have hi:i ∈ List.range t.length:=by simpa using h1
               obtain ⟨a,b,eab⟩:=List.append_of_mem hi
               rw [eab,List.flatMap_append,List.flatMap_cons,List.count_append,List.count_append]
               omega
             rw [hk,← e2,← e3] at this
             simp at this
             omega
           · rw [e1] at q6
             have:=nr i q6;omega
         · rcases q6 with ⟨e1, _⟩ | q6
           · rw [e1] at q5
             have:=nl i q5;omega
           · have := (hrk p q1).2 j q3
             have:=(hrk p q1).1
             exact ih p (by omega) q5 q6
       ·
         have j0:j=0:=by omega
         have nokid:∀ (d q:Nat),t.length - rk q ≤ d → q < t.length → j ∈ kids t q → False:=by
           intro d
           induction d with
           | zero =>
             intro q hd hq hm
             have:=(hrk q hq).2 j hm
             by_cases hq0:q=0
             · rw [j0,hq0] at this;omega
             · obtain ⟨p, hp, hpm⟩ := has_parent hc (by omega) hq
               have a:=(hrk p hp).2 q hpm
               have b:=(hrk p hp).1
               omega
           | succ d ihd =>
             intro q hd hq hm
             have hlt:=(hrk q hq).2 j hm
             by_cases hq0:q=0
             · rw [j0,hq0] at hlt;omega
             ·
               have up:∀ (d2 u:Nat),t.length - rk u ≤ d2 → u < t.length → rk q ≤ rk u → False:=by
                intro d2
                induction d2 with
                | zero =>
                 intro u hu hu2 hqu
                 by_cases hu0:u=0
                 · rw [hu0] at hqu;rw [j0] at hlt;omega
                 · obtain ⟨p, hp, hpm⟩ := has_parent hc (by omega) hu2
                   have a:=(hrk p hp).2 u hpm
                   have b:=(hrk p hp).1
                   omega
                | succ d2 ihd2 =>
                 intro u hu hu2 hqu
                 by_cases hu0:u=0
                 · rw [hu0] at hqu;rw [j0] at hlt;omega
                 · obtain ⟨p, hp, hpm⟩ := has_parent hc (by omega) hu2
                   have a:=(hrk p hp).2 u hpm
                   have b:=(hrk p hp).1
                   exact ihd2 p (by omega) hp (by omega)
               exact up _ q (Nat.le_refl _) hq (Nat.le_refl _)
         exact nokid _ p (Nat.le_refl _) q1 q3
    intro a ha b hb e
    subst e
    exact key _ a (Nat.le_refl _) ha hb
theorem tree_size {t:List NODE} {f:Int} (hs:ShapeP t) {T:TR} (h:Is t f T):T.size ≤ t.length:=by
 rw [← nodesT_len]
 exact nodup_len (nodesT_nodup hs h) (nodesT_lt h)
theorem TR.size_pos (T:TR):0 < T.size:=by cases T <;> simp [TR.size] <;> omega
theorem deep_half (T:TR):2 * T.deep ≤ T.size+1:=by
 induction T with
 | leaf i=>simp [TR.deep,TR.size]
 | split i l r ihl ihr =>
  have:=l.size_pos
  have:=r.size_pos
  simp only [TR.deep,TR.size]
  omega
def SortA (w:List AP):Prop:=w.Pairwise fun a b=>a.1 < b.1
theorem along_sort {f:Nat} {q:Rat} {ok:Bool} {w:List AP} (h:SortA w):SortA (along f q ok w):=by
 induction w with
 | nil=>simp [along,SortA]
 | cons p w ih =>
  have h1:=List.pairwise_cons.1 h
  simp only [along]
  split
  · rename_i hp
    refine List.pairwise_cons.2 ⟨fun a ha=>?_,ih h1.2⟩
    rcases along_mem a ha with e | ⟨p',h3,h4⟩
    · omega
    · have:=h1.1 p' h3;omega
  · split
    · rename_i e
      exact List.pairwise_cons.2 ⟨fun a ha=>by have:=h1.1 a ha;show f < a.1;omega,h1.2⟩
    · refine List.pairwise_cons.2 ⟨fun a ha => ?_, h⟩
      show f < a.1
      rcases List.mem_cons.1 ha with rfl | ha
      · omega
      · have:=h1.1 a ha;omega
def flo (n:Nat) (o:Nat → Rat):List RAT:=(List.range n).map fun f=>canQ (o f)
theorem flo_len (n:Nat) (o:Nat → Rat):(flo n o).length=n:=by simp [flo]
theorem flo_get {n f:Nat} (o:Nat → Rat) (h:f < n):(flo n o)[f]?=some (canQ (o f)):=by simp [flo,h]
theorem flo_congr {n:Nat} {o p:Nat → Rat} (h:∀ f,f < n → o f=p f):flo n o=flo n p:=by
 rw [flo,flo]
 exact List.map_congr_left fun f hf=>by rw [h f (List.mem_range.1 hf)]
theorem flo_set {n i:Nat} {o p:Nat → Rat} {x:Rat} (hx:p i=x) (hp:∀ f,f ≠ i → p f=o f):(flo n o).set i (canQ x)=flo n p:=by
 apply List.ext_getElem?
 intro f
 rw [List.getElem?_set]
 by_cases hf:f < n
 · rw [flo_get _ hf, flo_get _ hf, flo_len]
   by_cases e:i=f
   · rw [if_pos e,if_pos (by omega),← e,hx]
   · rw [if_neg e,hp f (fun h=>e h.symm)]
 · have h1 : (flo n o)[f]? = none := List.getElem?_eq_none (by rw [flo_len]; omega)
   have h2:(flo n p)[f]?=none:=List.getElem?_eq_none (by rw [flo_len];omega)
   rw [h1,h2]
   split
   · rw [if_neg (by rw [flo_len];omega)]
   · rfl
theorem rsum_zeros {f:Nat → Rat} {n:Nat} (h:∀ i,i < n → f i=0):rsum f n=0:=by
 induction n with
 | zero=>rfl
 | succ n ih=>rw [rsum,ih fun i hi=>h i (by omega),h n (by omega),Rat.add_zero]
theorem bit_add {S f:Nat} (h:S.testBit f=false):∀ j,(S+2 ^ f).testBit j=(decide (j=f) || S.testBit j):=by
 induction f generalizing S with
 | zero =>
  intro j
  have h0:S % 2=0:=by rw [Nat.testBit_zero] at h;simpa using h
  cases j with
  | zero=>rw [Nat.testBit_zero];simp;omega
  | succ j =>
   rw [Nat.testBit_succ,Nat.testBit_succ,show (S+2 ^ 0) / 2=S / 2 by omega]
   simp
 | succ f ih =>
  intro j
  rw [Nat.testBit_succ] at h
  have e1:(S+2 ^ (f+1)) / 2=S / 2+2 ^ f:=by rw [Nat.pow_succ];omega
  have e2:(S+2 ^ (f+1)) % 2=S % 2:=by rw [Nat.pow_succ];omega
  cases j with
  | zero=>rw [Nat.testBit_zero,Nat.testBit_zero,e2];simp
  | succ j =>
   rw [Nat.testBit_succ,Nat.testBit_succ,e1,ih h]
   simp
theorem bit_add_lt {S f n:Nat} (h:S.testBit f=false) (hS:S < 2 ^ n) (hf:f < n):S+2 ^ f < 2 ^ n:=by
 refine Nat.lt_pow_two_of_testBit _ fun i hi=>?_
 rw [bit_add h,decide_eq_false (by omega),Bool.false_or]
 exact Nat.testBit_lt_two_pow (Nat.lt_of_lt_of_le hS (Nat.pow_le_pow_right (by decide) hi))
def popc:Nat → Nat → Nat
 | 0,_=>0
 | n+1,S=>popc n S+(if S.testBit n then 1 else 0)
theorem popc_congr {n S S':Nat} (h:∀ j,j < n → S.testBit j=S'.testBit j):popc n S=popc n S':=by
 induction n with
 | zero=>rfl
 | succ n ih=>rw [popc,popc,ih fun j hj=>h j (by omega),h n (by omega)]
theorem rsum_split (f:Nat → Rat) (a b:Nat):rsum f (a+b)=rsum f a+rsum (fun i=>f (i+a)) b:=by
 induction b with
 | zero=>simp [rsum,Rat.add_zero]
 | succ b ih=>rw [← Nat.add_assoc,rsum,ih,rsum,Rat.add_assoc,Nat.add_comm a b]
theorem rprod_congr {f g:Nat → Rat} {n:Nat} (h:∀ i,i < n → f i=g i):rprod f n=rprod g n:=by
 induction n with
 | zero=>rfl
 | succ n ih=>rw [rprod,rprod,ih fun i hi=>h i (by omega),h n (by omega)]
abbrev BA:=Rat×Rat
def pick (x:BA) (b:Bool):Rat:=if b then x.2 else x.1
def EE:List BA → (Nat → Rat) → Rat
 | [],c=>c 0
 | x :: L,c=>x.1 * EE L c+x.2 * EE L fun k=>c (k+1)
theorem EE_congr {L:List BA}:∀ {c d:Nat → Rat},(∀ k,k ≤ L.length → c k=d k) → EE L c=EE L d:=by
 induction L with
 | nil=>intro c d h;exact h 0 (Nat.le_refl _)
 | cons x L ih =>
  intro c d h
  rw [EE,EE,ih fun k hk=>h k (by simp only [List.length_cons];omega),ih fun k hk=>h (k+1) (by simp only [List.length_cons];omega)]
theorem EE_add {L:List BA}:∀ {c d:Nat → Rat},EE L (fun k=>c k+d k)=EE L c+EE L d:=by
 induction L with
 | nil=>intro c d;rfl
 | cons x L ih=>intro c d;rw [EE,EE,EE,ih,ih];grind
theorem EE_mul {L:List BA}:∀ {c:Nat → Rat} {q:Rat},EE L (fun k=>q * c k)=q * EE L c:=by
 induction L with
 | nil=>intro c q;rfl
 | cons x L ih=>intro c q;rw [EE,EE,ih,ih];grind
theorem EE_perm {L M:List BA} (h:L.Perm M):∀ c,EE L c=EE M c:=by
 induction h with
 | nil=>intro c;rfl
 | cons x _ ih=>intro c;rw [EE,EE,ih,ih]
 | swap x y L=>intro c;simp only [EE];grind
 | trans _ _ ih1 ih2=>intro c;rw [ih1,ih2]
theorem EE_out {L:List BA} {x:BA}:∀ c,EE (x :: L) c=EE (L ++ [x]) c:=fun c=>EE_perm (by
 have:=(List.perm_append_comm (l₁:=[x]) (l₂:=L));simpa using this) c
theorem EE_one (L:List BA) (c:Nat → Rat):EE ((1,1) :: L) c=EE L fun k=>c k+c (k+1):=by
 rw [EE,EE_add];grind
theorem EE_off (L:List BA) (c:Nat → Rat):EE ((1,0) :: L) c=EE L c:=by rw [EE];grind
theorem sets_sum (g:Nat → BA) (n:Nat):∀ c:Nat → Rat,rsum (fun S=>c (popc n S) * rprod (fun j=>pick (g j) (S.testBit j)) n) (2 ^ n)=EE ((List.range n).map g) c:=by
 induction n with
 | zero=>intro c;simp [rsum,popc,rprod,EE,Rat.mul_one,Rat.zero_add]
 | succ n ih =>
  intro c
  have hb:∀ S,S < 2 ^ n → S.testBit n=false:=fun S hS=>Nat.testBit_lt_two_pow hS
  have e1:rsum (fun S=>c (popc (n+1) S) * rprod (fun j=>pick (g j) (S.testBit j)) (n+1)) (2 ^ n)=(g n).1 * rsum (fun S=>c (popc n S) * rprod (fun j=>pick (g j) (S.testBit j)) n) (2 ^ n):=by
   rw [Rat.mul_comm (g n).1,← rsum_mul]
   refine rsum_congr fun S hS=>?_
   rw [popc,rprod,hb S hS,if_neg (by decide),Nat.add_zero,pick,if_neg (by decide)];grind
  have e2:rsum (fun S=>c (popc (n+1) (S+2 ^ n)) * rprod (fun j=>pick (g j) ((S+2 ^ n).testBit j)) (n+1)) (2 ^ n)=(g n).2 * rsum (fun S=>c (popc n S+1) * rprod (fun j=>pick (g j) (S.testBit j)) n) (2 ^ n):=by
   rw [Rat.mul_comm (g n).2,← rsum_mul]
   refine rsum_congr fun S hS=>?_
   have hj:=bit_add (hb S hS)
   have hp:popc n (S+2 ^ n)=popc n S:=popc_congr fun j hj'=>by rw [hj j,decide_eq_false (by omega),Bool.false_or]
   have hr:rprod (fun j=>pick (g j) ((S+2 ^ n).testBit j)) n=rprod (fun j=>pick (g j) (S.testBit j)) n:=rprod_congr fun j hj'=>by rw [hj j,decide_eq_false (by omega),Bool.false_or]
   rw [popc,rprod,hp,hr,hj n,decide_eq_true rfl,Bool.true_or,if_pos rfl,pick,if_pos rfl];grind
  rw [Nat.pow_succ,Nat.mul_two,rsum_split,e1,e2,ih c,ih fun k=>c (k+1),List.range_succ,List.map_append]
  show _=EE (_ ++ [g n]) c
  rw [← EE_out,EE]
theorem wq_add {k n:Nat} (h:k < n):wq k (n+1)+wq (k+1) (n+1)=wq k n:=by
 unfold wq quo
 have e1:n+1 - k - 1=(n - k - 1)+1:=by omega
 have e2:n+1 - (k+1) - 1=n - k - 1:=by omega
 rw [e1,e2]
 obtain ⟨j,hj⟩:∃ j,j=n - k - 1:=⟨_,rfl⟩
 rw [← hj]
 have hn:((n:Nat):Rat)=(j:Rat)+(k:Rat)+1:=by
  have:n=j+k+1:=by omega
  rw [this];push_cast;rfl
 have f1:((fac (j+1):Nat):Rat)=((j:Rat)+1) * ((fac j:Nat):Rat):=by rw [fac];push_cast;rfl
 have f2:((fac (k+1):Nat):Rat)=((k:Rat)+1) * ((fac k:Nat):Rat):=by rw [fac];push_cast;rfl
 have f3:((fac (n+1):Nat):Rat)=((n:Rat)+1) * ((fac n:Nat):Rat):=by rw [fac];push_cast;rfl
 have p1:((fac n:Nat):Rat) ≠ 0:=by
  have:=fac_pos n
  intro e
  have:(fac n:Nat)=0:=by exact_mod_cast e
  omega
 have p2:(n:Rat)+1 ≠ 0:=by
  intro e
  have:((n+1:Nat):Rat)=0:=by push_cast;exact e
  have:(n+1:Nat)=0:=by exact_mod_cast this
  omega
 rw [f1,f2,f3]
 obtain ⟨a,ha⟩:∃ a,a=((fac k:Nat):Rat):=⟨_,rfl⟩
 obtain ⟨b,hb⟩:∃ b,b=((fac j:Nat):Rat):=⟨_,rfl⟩
 obtain ⟨d,hd⟩:∃ d,d=((fac n:Nat):Rat):=⟨_,rfl⟩
 obtain ⟨x,hx⟩:∃ x,x=(j:Rat):=⟨_,rfl⟩
 obtain ⟨y,hy⟩:∃ y,y=(k:Rat):=⟨_,rfl⟩
 rw [← hd] at p1 ⊢
 rw [hn,← hx,← hy] at p2
 rw [hn,← ha,← hb,← hx,← hy]
 grind
theorem EE_dummy (L:List BA) (d:Nat):EE (List.replicate d (1,1) ++ L) (fun k=>wq k (L.length+1+d))=EE L fun k=>wq k (L.length+1):=by
 induction d with
 | zero=>rfl
 | succ d ih =>
  rw [List.replicate_succ,List.cons_append,EE_one,← ih]
  refine EE_congr fun k hk=>?_
  simp only [List.length_append,List.length_replicate] at hk
  exact wq_add (k:=k) (n:=L.length+1+d) (by omega)
def shapT (v:Nat → Rat) (n f S:Nat):Rat:=if S.testBit f then 0 else wq (popc n S) n * (v (S+2 ^ f) - v S)
def shapQ (v:Nat → Rat) (n f:Nat):Rat:=rsum (shapT v n f) (2 ^ n)
theorem shapQ_congr {v w:Nat → Rat} {n f:Nat} (hf:f < n) (h:∀ S,S < 2 ^ n → v S=w S):shapQ v n f=shapQ w n f:=by
 refine rsum_congr fun S hS=>?_
 unfold shapT
 cases hb:S.testBit f with
 | true=>rfl
 | false=>rw [if_neg (by decide),if_neg (by decide),h S hS,h _ (bit_add_lt hb hS hf)]
theorem rsum_addF (f g:Nat → Rat) (n:Nat):rsum (fun i=>f i+g i) n=rsum f n+rsum g n:=by
 induction n with
 | zero=>simp [rsum,Rat.add_zero]
 | succ n ih=>rw [rsum,rsum,rsum,ih];grind
theorem shapQ_add (v w:Nat → Rat) (n f:Nat):shapQ (fun S=>v S+w S) n f=shapQ v n f+shapQ w n f:=by
 unfold shapQ
 rw [← rsum_addF]
 refine rsum_congr fun S _=>?_
 unfold shapT
 split
 · simp [Rat.add_zero]
 · grind
theorem shapQ_mul (v:Nat → Rat) (n f:Nat) (q:Rat):shapQ (fun S=>v S * q) n f=shapQ v n f * q:=by
 unfold shapQ
 rw [← rsum_mul]
 refine rsum_congr fun S _=>?_
 unfold shapT
 split
 · rw [Rat.zero_mul]
 · grind
theorem shapQ_zero (n f:Nat):shapQ (fun _=>0) n f=0:=by
 unfold shapQ
 refine rsum_zeros fun S _=>?_
 unfold shapT
 split
 · rfl
 · grind
theorem shapQ_rsum (v:Nat → Nat → Rat) (n f:Nat):∀ k,shapQ (fun S=>rsum (fun i=>v i S) k) n f=rsum (fun i=>shapQ (v i) n f) k:=by
 intro k
 induction k with
 | zero=>exact shapQ_zero n f
 | succ k ih=>rw [rsum,← ih,← shapQ_add];rfl
theorem shapQ_lsum {α:Type} (v:α → Nat → Rat) (n f:Nat):∀ l:List α,shapQ (fun S=>lsum (l.map fun x=>v x S)) n f=lsum (l.map fun x=>shapQ (v x) n f):=by
 intro l
 induction l with
 | nil=>exact shapQ_zero n f
 | cons x l ih=>rw [List.map_cons,lsum,← ih,← shapQ_add];rfl
abbrev FP:=Nat×BA
def lkG:List FP → Nat → BA
 | [],_=>(1,1)
 | p :: P,j=>if p.1=j then p.2 else lkG P j
theorem lkG_out {P:List FP} {j:Nat} (h:j ∉ P.map (·.1)):lkG P j=(1,1):=by
 induction P with
 | nil=>rfl
 | cons p P ih =>
  simp only [List.map_cons,List.mem_cons,not_or] at h
  rw [lkG,if_neg (fun e=>h.1 e.symm),ih h.2]
theorem lkG_map {P:List FP} (hnd:(P.map (·.1)).Nodup):(P.map (·.1)).map (lkG P)=P.map (·.2):=by
 induction P with
 | nil=>rfl
 | cons p P ih =>
  have h:=List.nodup_cons.1 hnd
  have ih:=ih h.2
  simp only [List.map_cons,lkG,if_true,List.cons.injEq,true_and]
  rw [← ih]
  refine List.map_congr_left fun j hj=>?_
  exact if_neg (fun e=>h.1 (by subst e;exact hj))
theorem range_perm {n:Nat} {F:List Nat} (hnd:F.Nodup) (hlt:∀ j ∈ F,j < n):∃ R:List Nat,(List.range n).Perm (F ++ R)∧∀ j ∈ R,j ∉ F:=by
 refine ⟨(List.range n).filter fun j=>!F.contains j,?_,fun j hj=>by simpa using (List.mem_filter.1 hj).2⟩
 refine (List.perm_ext_iff_of_nodup List.nodup_range ?_).2 fun a=>?_
 · refine List.nodup_append.2 ⟨hnd, List.Nodup.sublist List.filter_sublist List.nodup_range, fun a ha b hb e => ?_⟩
   subst e
   have:=(List.mem_filter.1 hb).2
   simp at this
   exact this ha
 · simp only [List.mem_append, List.mem_filter, List.mem_range]
   constructor
   · intro h
     by_cases ha:a ∈ F
     · exact .inl ha
     · exact .inr ⟨h,by simpa using ha⟩
   · rintro (h | h)
     · exact hlt a h
     · exact h.1
theorem lprod_perm {a b:List Rat} (h:a.Perm b):lprod a=lprod b:=by
 induction h with
 | nil=>rfl
 | cons x _ ih=>rw [lprod,lprod,ih]
 | swap x y l=>simp only [lprod];grind
 | trans _ _ h1 h2=>rw [h1,h2]
theorem rprod_range (h:Nat → Rat) (n:Nat):rprod h n=lprod ((List.range n).map h):=by
 induction n with
 | zero=>rfl
 | succ n ih=>rw [rprod,ih,List.range_succ,List.map_append,lprod_append];simp [lprod,Rat.mul_one]
theorem lprod_ones {l:List Rat} (h:∀ x ∈ l,x=1):lprod l=1:=by
 induction l with
 | nil=>rfl
 | cons x l ih=>rw [lprod,h x List.mem_cons_self,ih fun y hy=>h y (List.mem_cons_of_mem _ hy),Rat.mul_one]
def prodP (P:List FP) (S:Nat):Rat:=lprod (P.map fun p=>pick p.2 (S.testBit p.1))
theorem shap_prod {n f:Nat} {x:BA} {P:List FP} (hf:f < n) (hnd:(P.map (·.1)).Nodup) (hlt:∀ p ∈ P,p.1 < n) (hnf:f ∉ P.map (·.1)) :
  shapQ (fun S=>pick x (S.testBit f) * prodP P S) n f=(x.2 - x.1) * EE (P.map (·.2)) fun k=>wq k (P.length+1):=by
 obtain ⟨R,hR,hRF⟩:=range_perm (n:=n) (F:=f :: P.map (·.1)) (List.nodup_cons.2 ⟨hnf,hnd⟩) (fun j hj=>by
  rcases List.mem_cons.1 hj with rfl | hj
  · exact hf
  · obtain ⟨p,hp,rfl⟩:=List.mem_map.1 hj;exact hlt p hp)
 obtain ⟨g,hg⟩:∃ g:Nat → BA,g=fun j=>if j=f then (1,0) else lkG P j:=⟨_,rfl⟩
 have gf:g f=(1,0):=by rw [hg];exact if_pos rfl
 have gP:(P.map (·.1)).map g=P.map (·.2):=by
  rw [← lkG_map hnd]
  refine List.map_congr_left fun j hj=>?_
  rw [hg]
  exact if_neg fun e=>hnf (by rw [← e];exact hj)
 have gR:∀ j ∈ R,g j=(1,1):=fun j hj=>by
  have:=hRF j hj
  simp only [List.mem_cons,not_or] at this
  rw [hg]
  show (if j=f then _ else _)=_
  rw [if_neg this.1,lkG_out this.2]
 have hlen:n=P.length+1+R.length:=by
  have:=hR.length_eq
  simp only [List.length_range,List.length_append,List.length_cons,List.length_map] at this
  omega
 have hprod:∀ S,rprod (fun j=>pick (g j) (S.testBit j)) n=if S.testBit f then 0 else prodP P S:=fun S=>by
  rw [rprod_range,lprod_perm (hR.map _),List.map_append,lprod_append,List.map_cons,lprod,gf,lprod_ones (l:=R.map _) (fun y hy=>by
    obtain ⟨j,hj,rfl⟩:=List.mem_map.1 hy
    rw [gR j hj];unfold pick;split <;> rfl)]
  have e:((P.map (·.1)).map fun j=>pick (g j) (S.testBit j))=P.map fun p=>pick p.2 (S.testBit p.1):=by
    rw [List.map_map]
    refine List.map_congr_left fun p hp=>?_
    show pick (g p.1) _=_
    have:g p.1=p.2:=by
     obtain ⟨i,hi,rfl⟩:=List.mem_iff_getElem.1 hp
     have:=congrArg (fun l=>l[i]?) gP
     simp only [List.getElem?_map,List.getElem?_eq_getElem hi,Option.map_some,Option.some.injEq] at this
     exact this
    rw [this]
  rw [e]
  unfold pick prodP
  split
  · simp [Rat.zero_mul]
  · simp [Rat.one_mul,Rat.mul_one];rfl
 have hsum:shapQ (fun S=>pick x (S.testBit f) * prodP P S) n f=(x.2 - x.1) * rsum (fun S=>wq (popc n S) n * rprod (fun j=>pick (g j) (S.testBit j)) n) (2 ^ n):=by
  unfold shapQ
  rw [Rat.mul_comm,← rsum_mul]
  refine rsum_congr fun S hS=>?_
  rw [hprod]
  unfold shapT
  cases hb:S.testBit f with
  | true=>simp [Rat.mul_zero,Rat.zero_mul]
  | false =>
    have hb':=bit_add hb
    have e1:prodP P (S+2 ^ f)=prodP P S:=by
     unfold prodP
     congr 1
     refine List.map_congr_left fun p hp=>?_
     rw [hb' p.1,decide_eq_false (fun e=>hnf (List.mem_map.2 ⟨p,hp,e⟩)),Bool.false_or]
    dsimp only
    rw [if_neg (by decide),if_neg (by decide),e1,hb' f,decide_eq_true rfl,Bool.true_or]
    simp only [pick,if_true,Bool.false_eq_true,if_false]
    grind
 have hss:=sets_sum g n fun k=>wq k n
 rw [hsum,hss]
 congr 1
 have hp2:((List.range n).map g).Perm ((1,0) :: (List.replicate R.length (1,1) ++ P.map (·.2))):=by
  refine (hR.map g).trans ?_
  rw [List.map_append,List.map_cons,gf,gP,List.cons_append]
  have:R.map g=List.replicate R.length (1,1):=by
    rw [List.eq_replicate_iff]
    exact ⟨by simp,fun y hy=>by obtain ⟨j,hj,rfl⟩:=List.mem_map.1 hy;exact gR j hj⟩
  rw [this]
  exact List.Perm.cons _ List.perm_append_comm
 rw [EE_perm hp2,EE_off]
 have:=EE_dummy (P.map (·.2)) R.length
 rw [List.length_map] at this
 rw [← this,← hlen]
theorem shap_none {n f:Nat} {P:List FP} (hnf:f ∉ P.map (·.1)):shapQ (prodP P) n f=0:=by
 unfold shapQ
 refine rsum_zeros fun S _=>?_
 unfold shapT
 cases hb:S.testBit f with
 | true=>rfl
 | false =>
  have e1:prodP P (S+2 ^ f)=prodP P S:=by
   unfold prodP
   congr 1
   refine List.map_congr_left fun p hp=>?_
   rw [bit_add hb p.1,decide_eq_false (fun e=>hnf (List.mem_map.2 ⟨p,hp,e⟩)),Bool.false_or]
  rw [if_neg (by decide),e1];grind
def one0 (b:Bool):Rat:=if b then 1 else 0
def mulF (x:BA) (P:Nat → Rat) (k:Nat):Rat:=x.1 * P k+(if k=0 then 0 else x.2 * P (k - 1))
def polF:List BA → Nat → Rat
 | []=>fun k=>if k=0 then 1 else 0
 | x :: L=>mulF x (polF L)
theorem polF_EE (L:List BA):∀ k,polF L k=EE L fun j=>if j=k then 1 else 0:=by
 induction L with
 | nil => intro k; show (if k = 0 then (1 : Rat) else 0) = if 0 = k then 1 else 0
          by_cases h:k=0
          · subst h;rfl
          · rw [if_neg h,if_neg (fun e=>h e.symm)]
 | cons x L ih =>
  intro k
  show mulF x (polF L) k=_
  rw [mulF,EE,ih]
  congr 1
  by_cases h:k=0
  · subst h
    rw [if_pos rfl]
    have:EE L (fun j=>if j+1=0 then (1:Rat) else 0)=EE L fun j=>0 * 0:=EE_congr fun j _=>by rw [if_neg (by omega),Rat.mul_zero]
    rw [this,EE_mul,Rat.zero_mul,Rat.mul_zero]
  · rw [if_neg h, ih]
    congr 1
    refine EE_congr fun j _=>?_
    by_cases e:j=k - 1
    · rw [if_pos e,if_pos (by omega)]
    · rw [if_neg e,if_neg (by omega)]
theorem polF_out (L:List BA):∀ k,L.length+1 ≤ k → polF L k=0:=by
 induction L with
 | nil=>intro k h;exact if_neg (by simp at h;omega)
 | cons x L ih =>
  intro k h
  simp only [List.length_cons] at h
  show mulF x (polF L) k=0
  rw [mulF,ih k (by omega),if_neg (by omega),ih (k - 1) (by omega),Rat.mul_zero,Rat.mul_zero,Rat.add_zero]
theorem polF_perm {L M:List BA} (h:L.Perm M):polF L=polF M:=by
 funext k;rw [polF_EE,polF_EE];exact EE_perm h _
theorem rsum_shift (f:Nat → Rat) (n:Nat):rsum f (n+1)=f 0+rsum (fun i=>f (i+1)) n:=by
 induction n with
 | zero=>simp [rsum,Rat.add_zero,Rat.zero_add]
 | succ n ih=>rw [rsum,ih,rsum,Rat.add_assoc]
theorem rsum_ext {f:Nat → Rat} {n m:Nat} (h:∀ i,n ≤ i → f i=0) (hm:n ≤ m):rsum f m=rsum f n:=by
 induction m with
 | zero => have : n = 0 := by omega
           subst this;rfl
 | succ m ih =>
  by_cases e:n=m+1
  · rw [e]
  · rw [rsum,h m (by omega),ih (by omega),Rat.add_zero]
theorem EE_rsum (L:List BA):∀ c,EE L c=rsum (fun j=>polF L j * c j) (L.length+1):=by
 induction L with
 | nil=>intro c;show c 0=0+1 * c 0;rw [Rat.one_mul,Rat.zero_add]
 | cons x L ih =>
  intro c
  have e1:rsum (fun j=>polF (x :: L) j * c j) ((x :: L).length+1)=x.1 * rsum (fun j=>polF L j * c j) (L.length+1)+x.2 * rsum (fun j=>polF L j * c (j+1)) (L.length+1):=by
   have a:∀ j,polF (x :: L) j * c j=(polF L j * c j) * x.1+(if j=0 then 0 else polF L (j - 1) * c j) * x.2:=fun j=>by
    show mulF x (polF L) j * c j=_
    rw [mulF]
    split <;> grind
   have b:rsum (fun j=>polF (x :: L) j * c j) (L.length+2)=rsum (fun j=>(polF L j * c j) * x.1+(if j=0 then 0 else polF L (j - 1) * c j) * x.2) (L.length+2):=rsum_congr fun j _=>a j
   show rsum _ (L.length+2)=_
   rw [b,rsum_addF,rsum_mul,rsum_mul]
   have e2:rsum (fun j=>polF L j * c j) (L.length+2)=rsum (fun j=>polF L j * c j) (L.length+1):=rsum_ext (fun j hj=>by rw [polF_out L j hj,Rat.zero_mul]) (by omega)
   have e3:rsum (fun j=>if j=0 then 0 else polF L (j - 1) * c j) (L.length+2)=rsum (fun j=>polF L j * c (j+1)) (L.length+1):=by
    rw [rsum_shift,if_pos rfl,Rat.zero_add]
    exact rsum_congr fun j _=>by rw [if_neg (by omega),Nat.add_sub_cancel]
   rw [e2,e3];grind
  rw [e1,EE,ih,ih]
theorem natQ_ne {n:Nat} (h:0 < n):((n:Nat):Rat) ≠ 0:=by
 intro e
 have:(n:Nat)=0:=by exact_mod_cast e
 omega
theorem wq_stay {i n:Nat} (h:i < n):wq i (n+1)=wq i n * (((n - i:Nat):Rat) / ((n+1:Nat):Rat)):=by
 obtain ⟨j,rfl⟩:∃ j,n=i+j+1:=⟨n - i - 1,by omega⟩
 have e1:i+j+1+1 - i - 1=j+1:=by omega
 have e2:i+j+1 - i - 1=j:=by omega
 have e3:i+j+1 - i=j+1:=by omega
 have a1:((fac (j+1):Nat):Rat)=((j+1:Nat):Rat) * ((fac j:Nat):Rat):=by rw [fac];push_cast;rfl
 have a2:((fac (i+j+1+1):Nat):Rat)=((i+j+1+1:Nat):Rat) * ((fac (i+j+1):Nat):Rat):=by rw [fac];push_cast;rfl
 have n1:=natQ_ne (fac_pos (i+j+1))
 have n2:=natQ_ne (show 0 < i+j+1+1 by omega)
 simp only [wq,quo]
 rw [e1,e2,e3,a1,a2]
 generalize ((fac i:Nat):Rat)=x
 generalize ((fac j:Nat):Rat)=y
 generalize ((fac (i+j+1):Nat):Rat)=z at *
 generalize ((j+1:Nat):Rat)=u
 generalize ((i+j+1+1:Nat):Rat)=v at *
 rw [Rat.div_def,Rat.div_def,Rat.div_def,Rat.inv_mul_rev]
 grind
theorem wq_join {i n:Nat} (h:i < n):wq (i+1) (n+1)=wq i n * (((i+1:Nat):Rat) / ((n+1:Nat):Rat)):=by
 obtain ⟨j,rfl⟩:∃ j,n=i+j+1:=⟨n - i - 1,by omega⟩
 have e1:i+j+1+1 - (i+1) - 1=j:=by omega
 have e2:i+j+1 - i - 1=j:=by omega
 have a1:((fac (i+1):Nat):Rat)=((i+1:Nat):Rat) * ((fac i:Nat):Rat):=by rw [fac];push_cast;rfl
 have a2:((fac (i+j+1+1):Nat):Rat)=((i+j+1+1:Nat):Rat) * ((fac (i+j+1):Nat):Rat):=by rw [fac];push_cast;rfl
 simp only [wq,quo]
 rw [e1,e2,a1,a2]
 generalize ((fac i:Nat):Rat)=x
 generalize ((fac j:Nat):Rat)=y
 generalize ((fac (i+j+1):Nat):Rat)=z at *
 generalize ((i+1:Nat):Rat)=u
 generalize ((i+j+1+1:Nat):Rat)=v at *
 rw [Rat.div_def,Rat.div_def,Rat.div_def,Rat.inv_mul_rev]
 grind
def fcP (p:AP):BA:=(p.2.1,one0 p.2.2)
def ekP (P:List AP):Nat → Rat:=polF (P.map fcP)
def wtP (P:List AP) (k:Nat):Rat:=wq k (P.length+1) * ekP P k
theorem ekP_perm {P Q:List AP} (h:P.Perm Q):ekP P=ekP Q:=polF_perm (h.map fcP)
theorem ekP_snoc (P:List AP) (p:AP):ekP (P ++ [p])=mulF (fcP p) (ekP P):=by
 have:(P ++ [p]).Perm (p :: P):=List.perm_append_comm.trans (List.Perm.refl _)
 rw [ekP_perm this];rfl
theorem ekP_out (P:List AP) {k:Nat} (h:P.length < k):ekP P k=0:=polF_out _ k (by simp;omega)
theorem wtP_nil:wtP [] 0=1:=by
 show wq 0 1 * 1=1
 rw [Rat.mul_one];decide +kernel
abbrev LK:=Int×RAT×CELL
def lkF (P:List AP) (w:Nat → Rat) (i:Nat):LK :=
 if i=0 then (-1,canQ 1,true,canQ (w 0)) else
  let p:=(P[i - 1]?).getD (0,0,false)
  ((p.1:Int),canQ p.2.1,p.2.2,canQ (w i))
def encK (P:List AP) (w:Nat → Rat):List LK:=(List.range (P.length+1)).map (lkF P w)
theorem encK_len (P:List AP) (w:Nat → Rat):(encK P w).length=P.length+1:=by simp [encK]
theorem encK_get {P:List AP} {w:Nat → Rat} {i:Nat} (h:i < P.length+1):(encK P w)[i]?=some (lkF P w i):=by simp [encK,h]
theorem encK_congr {P:List AP} {w w':Nat → Rat} (h:∀ i,i ≤ P.length → w i=w' i):encK P w=encK P w':=by
 refine List.map_congr_left fun i hi=>?_
 have hi:=List.mem_range.1 hi
 unfold lkF
 split
 · rename_i e;subst e;rw [h 0 (by omega)]
 · rw [h i (by omega)]
theorem lkF_w (P:List AP) (w:Nat → Rat) (i:Nat):(lkF P w i).2.2.2=canQ (w i):=by
 unfold lkF;split
 · rename_i e;subst e;rfl
 · rfl
theorem lkF_upd (P:List AP) (w:Nat → Rat) (i:Nat) (q:Rat):((lkF P w i).1,(lkF P w i).2.1,(lkF P w i).2.2.1,canQ q)=lkF P (fun j=>if j=i then q else w j) i:=by
 unfold lkF
 split
 · rename_i e;subst e;simp
 · simp
theorem encK_set {P:List AP} {w:Nat → Rat} {i:Nat} (q:Rat):(encK P w).set i ((lkF P w i).1,(lkF P w i).2.1,(lkF P w i).2.2.1,canQ q)=encK P fun j=>if j=i then q else w j:=by
 rw [lkF_upd]
 refine List.ext_getElem? fun j=>?_
 rw [List.getElem?_set]
 by_cases e:i=j
 · subst e
   rw [if_pos rfl]
   by_cases hi:i < P.length+1
   · rw [if_pos (by rw [encK_len];exact hi),encK_get hi]
   · rw [if_neg (by rw [encK_len];exact hi),List.getElem?_eq_none (by rw [encK_len];omega)]
 · rw [if_neg e]
   by_cases hj:j < P.length+1
   · rw [encK_get hj, encK_get hj]
     have:(if j=i then q else w j)=w j:=if_neg fun h=>e h.symm
     unfold lkF
     split
     · rename_i e0;subst e0;simp only [this]
     · simp only [this]
   · rw [List.getElem?_eq_none (by rw [encK_len];omega),List.getElem?_eq_none (by rw [encK_len];omega)]
theorem lkF_part {P:List AP} {w:Nat → Rat} {i:Nat} (h:i < P.length):lkF P w (i+1)=((P[i].1:Int),canQ P[i].2.1,P[i].2.2,canQ (w (i+1))):=by
 simp [lkF,List.getElem?_eq_getElem h]
theorem encK_snoc (P:List AP) (w:Nat → Rat) (p:AP) (q:Rat):encK P w ++ [((p.1:Int),canQ p.2.1,p.2.2,canQ q)]=encK (P ++ [p]) fun j=>if j=P.length+1 then q else w j:=by
 have e:encK (P ++ [p]) (fun j=>if j=P.length+1 then q else w j)=(List.range (P.length+1)).map (lkF (P ++ [p]) fun j=>if j=P.length+1 then q else w j) ++ [lkF (P ++ [p]) (fun j=>if j=P.length+1 then q else w j) (P.length+1)]:=by
   unfold encK
   rw [List.length_append,List.length_singleton,List.range_succ,List.map_append];rfl
 rw [e]
 congr 1
 · refine List.map_congr_left fun i hi => ?_
   have hi:=List.mem_range.1 hi
   unfold lkF
   split
   · rename_i e;subst e;simp
   · have : ¬ i = P.length + 1 := by omega
     rw [List.getElem?_append_left (by omega)]
     simp only [if_neg this]
 · simp [lkF]
structure PathP (P:List AP) (k g:Nat):Prop where
 nd:(P.map (·.1)).Nodup
 sz:ASz P k
 len:P.length ≤ 20
 lt:∀ p ∈ P,p.1 < g
 pos:∀ p ∈ P,0 < p.2.1
theorem New15_ok:pathshap_New=some (encK [] (wtP [])):=by
 rw [pathshap_New,ratio_One_ok,Option.bind_some,Option.bind_some]
 show some [_]=some [lkF [] (wtP []) 0]
 simp only [lkF,if_true,wtP_nil]
theorem Find_at {P:List AP} {w:Nat → Rat} {f i:Nat} (hi:i < P.length) (he:P[i].1=f) (hn:∀ j (hj:j < P.length),j < i → P[j].1 ≠ f) (hl:P.length ≤ 1000000):pathshap_Path_Find (f:Int) (encK P w)=some (((i+1:Nat):Int),encK P w):=by
 have el:=encK_len P w
 have key:=lp_up (step:=pathshap_Path_Find_s4) (fun k=>(((f:Int),((P.length+1:Nat):Int),(k:Int),()),((encK P w,()),()))) (i+1) (r:=.inr ((((i+1:Nat):Int),()),((encK P w,()),()))) (by omega) (by
  intro g k hk
  have d0:(k:Int) < ((P.length+1:Nat):Int):=by omega
  have d1:(0:Int) ≤ (k:Int):=by omega
  have d2:(k:Int) < ((encK P w).length:Int):=by omega
  rw [pathshap_Path_Find_s4,cnd d0,cnd2 d1 d2,Int.toNat_natCast,encK_get (by omega),Option.bind_some]
  cases k with
  | zero=>rw [cnd' (by omega),iadd1 (by omega)];rfl
  | succ k =>
   have hne:¬ (lkF P w (k+1)).1=(f:Int):=by
    rw [lkF_part (by omega)]
    have:=hn k (by omega) (by omega)
    show ¬ ((P[k].1:Nat):Int)=_
    omega
   rw [cnd (by omega),cnd' hne,iadd1 (by omega)];rfl) (by
  intro g
  have d0:((i+1:Nat):Int) < ((P.length+1:Nat):Int):=by omega
  have d1:(0:Int) ≤ ((i+1:Nat):Int):=by omega
  have d2:((i+1:Nat):Int) < ((encK P w).length:Int):=by omega
  have he':(lkF P w (i+1)).1=(f:Int):=by rw [lkF_part hi];show ((P[i].1:Nat):Int)=_;omega
  rw [pathshap_Path_Find_s4,cnd d0,cnd2 d1 d2,Int.toNat_natCast,encK_get (by omega),Option.bind_some,cnd (by omega),cnd he'])
 have key:lp pathshap_Path_Find_s4 K0 (((f:Int),((P.length+1:Nat):Int),0,()),((encK P w,()),()))=_:=key
 rw [pathshap_Path_Find,el,key];rfl
theorem Find_not {P:List AP} {w:Nat → Rat} {f:Nat} (hn:∀ p ∈ P,p.1 ≠ f) (hl:P.length ≤ 1000000):pathshap_Path_Find (f:Int) (encK P w)=some (0,encK P w):=by
 have el:=encK_len P w
 have key:=lp_up (step:=pathshap_Path_Find_s4) (fun k=>(((f:Int),((P.length+1:Nat):Int),(k:Int),()),((encK P w,()),()))) (P.length+1) (r:=.inl ((),((encK P w,()),()))) (by omega) (by
  intro g k hk
  have d0:(k:Int) < ((P.length+1:Nat):Int):=by omega
  have d1:(0:Int) ≤ (k:Int):=by omega
  have d2:(k:Int) < ((encK P w).length:Int):=by omega
  rw [pathshap_Path_Find_s4,cnd d0,cnd2 d1 d2,Int.toNat_natCast,encK_get (by omega),Option.bind_some]
  cases k with
  | zero=>rw [cnd' (by omega),iadd1 (by omega)];rfl
  | succ k =>
   have hne:¬ (lkF P w (k+1)).1=(f:Int):=by
    rw [lkF_part (by omega)]
    have:=hn P[k] (List.getElem_mem (by omega))
    show ¬ ((P[k].1:Nat):Int)=_
    omega
   rw [cnd (by omega),cnd' hne,iadd1 (by omega)];rfl) (by
  intro g
  rw [pathshap_Path_Find_s4,cnd' (by omega)])
 have key:lp pathshap_Path_Find_s4 K0 (((f:Int),((P.length+1:Nat):Int),0,()),((encK P w,()),()))=_:=key
 rw [pathshap_Path_Find,el,key];rfl
theorem Parts15_ok {P:List AP} {w:Nat → Rat} (hl:P.length ≤ 1000000):pathshap_Path_Parts (encK P w)=some (encW P,encK P w):=by
 have el:=encK_len P w
 have key:=lp_up (step:=pathshap_Path_Parts_s5) (fun k=>((encW (P.take (k - 1)),((P.length+1:Nat):Int),(k:Int),()),((encK P w,()),()))) (P.length+1) (r:=((encW P,()),((encK P w,()),()))) (by omega) (by
  intro g k hk
  have d0:(k:Int) < ((P.length+1:Nat):Int):=by omega
  have d1:(0:Int) ≤ (k:Int):=by omega
  have d2:(k:Int) < ((encK P w).length:Int):=by omega
  rw [pathshap_Path_Parts_s5,cnd d0,cnd2 d1 d2,Int.toNat_natCast,encK_get (by omega),Option.bind_some]
  cases k with
  | zero=>rw [cnd' (by omega),iadd1 (by omega)];rfl
  | succ k =>
   have hk':k < P.length:=by omega
   have e:encW (P.take (k+1))=encW (P.take k) ++ [((lkF P w (k+1)).1,(lkF P w (k+1)).2.1,(lkF P w (k+1)).2.2.1)]:=by
    rw [lkF_part hk']
    exact map_take_succ encP hk'
   rw [cnd (by omega),blt (by rw [encW_len,List.length_take];omega),cond_true,iadd1 (by omega)]
   show g ((encW (P.take k) ++ _,_,_,_),_)=g ((encW (P.take (k+1)),_,_,_),_)
   rw [e];rfl) (by
  intro g
  rw [pathshap_Path_Parts_s5,cnd' (by omega),Nat.add_sub_cancel,List.take_of_length_le (Nat.le_refl _)])
 have key:lp pathshap_Path_Parts_s5 K0 (([],((P.length+1:Nat):Int),0,()),((encK P w,()),()))=_:=key
 rw [pathshap_Path_Parts,el,key];rfl
theorem frac_ok {a b:Nat} (ha:a < 1000000) (hb:b < 1000000):ratio_Frac (a:Int) (b:Int)=some (canQ ((a:Rat) / (b:Rat))):=by
 have:=ratio_Frac_ok (n:=(a:Int)) (d:=(b:Int)) (by omega) (by omega) (by omega) (by omega)
 rw [this];rfl
theorem frac_sz {a b:Nat} (ha:a < 1000000) (hb:b < 1000000):SzQ ((a:Rat) / (b:Rat)) 2:=by
 have h:∀ {n:Nat},n < 1000000 → SzQ (n:Rat) 1:=fun {n} hn=>by
  have:=SzQ.int (z:=(n:Int)) (by omega)
  exact this
 exact (h ha).div (h hb)
theorem one0_sz (b:Bool):SzQ (one0 b) 1:=by cases b;exact SzQ.zero;exact SzQ.one
def ekS (k:Nat):Nat → Nat
 | 0=>1
 | n+1=>2 * ekS k n+k+2
theorem ekS_mono (k:Nat) {n m:Nat} (h:n ≤ m):ekS k n ≤ ekS k m:=by
 induction h with
 | refl=>exact Nat.le_refl _
 | step _ ih=>simp only [ekS];omega
theorem ekS_le {k n:Nat} (hk:k ≤ 70) (hn:n ≤ 20):ekS k n ≤ 76546048:=by
 have h1:=ekS_mono k hn
 have h2:ekS k 20 ≤ ekS 70 20:=by
  have:∀ n,ekS k n ≤ ekS 70 n:=by
   intro n
   induction n with
   | zero=>exact Nat.le_refl _
   | succ n ih=>simp only [ekS];omega
  exact this 20
 have h3:ekS 70 20 ≤ 76546048:=by decide +kernel
 omega
theorem ekP_sz {P:List AP} {k:Nat} (h:ASz P k):∀ i,SzQ (ekP P i) (ekS k P.length):=by
 induction P with
 | nil =>
  intro i
  show SzQ (if i=0 then (1:Rat) else 0) 1
  split
  · exact SzQ.one
  · exact SzQ.zero
 | cons p P ih =>
  intro i
  have h1:SzQ p.2.1 k:=h p List.mem_cons_self
  have ih:=ih fun x hx=>h x (List.mem_cons_of_mem _ hx)
  show SzQ (mulF (fcP p) (ekP P) i) _
  unfold mulF
  have a:SzQ ((fcP p).1 * ekP P i) (k+ekS k P.length):=h1.mul (ih i)
  have b:SzQ (if i=0 then 0 else (fcP p).2 * ekP P (i - 1)) (1+ekS k P.length):=by
    split
    · exact SzQ.zero.mono (by omega)
    · exact (one0_sz p.2.2).mul (ih _)
  exact (a.add b).mono (by simp only [List.length_cons,ekS];omega)
theorem wtP_sz {P:List AP} {k:Nat} (h:ASz P k) (hl:P.length ≤ 20) {i:Nat} (hi:i ≤ P.length):SzQ (wtP P i) (30+ekS k P.length) :=
 (wq_sz (by omega) (by omega)).mul (ekP_sz h i)
def extW (P:List AP) (p:AP) (i:Nat) (j:Nat):Rat :=
 if j < i then wtP P j else if j=i then (if j=P.length+1 then 0 else (p.2.1 * wtP P j) * (((P.length+1 - j:Nat):Rat) / ((P.length+1+1:Nat):Rat))) else wtP (P ++ [p]) j
theorem wtP_snoc {P:List AP} {p:AP} {j:Nat} (hj:j ≤ P.length+1):wtP (P ++ [p]) j =
  (if j=P.length+1 then 0 else (p.2.1 * wtP P j) * (((P.length+1 - j:Nat):Rat) / ((P.length+1+1:Nat):Rat))) +
  (if j=0 then 0 else one0 p.2.2 * (wtP P (j - 1) * (((j - 1+1:Nat):Rat) / ((P.length+1+1:Nat):Rat)))):=by
 unfold wtP
 rw [ekP_snoc,mulF,List.length_append,List.length_singleton]
 show wq j (P.length+1+1) * (p.2.1 * ekP P j+_)=_
 have a:(if j=P.length+1 then (0:Rat) else (p.2.1 * (wq j (P.length+1) * ekP P j)) * (((P.length+1 - j:Nat):Rat) / ((P.length+1+1:Nat):Rat)))=wq j (P.length+1+1) * (p.2.1 * ekP P j):=by
  split
  · rw [ekP_out P (by omega),Rat.mul_zero,Rat.mul_zero]
  · rw [wq_stay (i:=j) (n:=P.length+1) (by omega)];grind
 have b:(if j=0 then (0:Rat) else one0 p.2.2 * (wq (j - 1) (P.length+1) * ekP P (j - 1) * (((j - 1+1:Nat):Rat) / ((P.length+1+1:Nat):Rat))))=wq j (P.length+1+1) * (if j=0 then 0 else (fcP p).2 * ekP P (j - 1)):=by
  split
  · rw [Rat.mul_zero]
  · have := wq_join (i := j - 1) (n := P.length + 1) (by omega)
    rw [show j - 1+1=j by omega] at this
    rw [this,show j - 1+1=j by omega]
    show one0 p.2.2 * _=_ * (one0 p.2.2 * _)
    grind
 rw [a,b];grind
theorem Extend_ok {P:List AP} {k g:Nat} (h:PathP P k g) {f:Nat} {q:Rat} {ok:Bool} (hf:∀ p ∈ P,p.1 ≠ f) (hq:SzQ q k) (hq0:0 < q) (hk:k ≤ 70) (hl:P.length < 20) (hfl:f < 1000000) :
  pathshap_Path_Extend (f:Int) (canQ q) ok (encK P (wtP P))=some (0,encK (P ++ [(f,q,ok)]) (wtP (P ++ [(f,q,ok)]))):=by
 obtain ⟨p,ep⟩:∃ p:AP,p=(f,q,ok):=⟨_,rfl⟩
 have hl2:=h.len
 have el:=encK_len P (wtP P)
 have hS:=ekS_le (k:=k) (n:=P.length) hk (by omega)
 have wsz:∀ i,i ≤ P.length → SzQ (wtP P i) 100000000:=fun i hi=>(wtP_sz h.sz hl2 hi).mono (by omega)
 obtain ⟨N,eN⟩:∃ N,N=P.length+1:=⟨_,rfl⟩
 have hsnoc:=encK_snoc P (wtP P) p 0
 have e0:encK (P ++ [p]) (fun j=>if j=P.length+1 then 0 else wtP P j)=encK (P ++ [p]) (extW P p N):=by
  refine encK_congr fun j hj=>?_
  simp only [List.length_append,List.length_singleton] at hj
  show (if j=P.length+1 then 0 else wtP P j)=extW P p N j
  unfold extW
  by_cases e:j=P.length+1
  · rw [if_pos e,if_neg (by omega),if_pos (by omega),if_pos e]
  · rw [if_neg e,if_pos (by omega)]
 have ell:∀ w,(encK (P ++ [p]) w).length=N+1:=fun w=>by rw [encK_len,List.length_append];simp [eN]
 have pn1:iadd .i64 ((N:Nat):Int) 1=((N+1:Nat):Int):=iadd1 (by omega)
 have key:=lp_up (step:=pathshap_Path_Extend_s10) (fun m=>((ok,(N:Int),((N:Nat):Int) - 1 - (m:Int),()),(((canQ q).1.1,(canQ q).1.2,(canQ q).2,()),(encK (P ++ [p]) (extW P p (N - m)),()),()))) N
  (r:=((),((encK (P ++ [p]) (extW P p 0),()),()))) (by omega) (by
  intro g m hm
  obtain ⟨i,hi⟩:∃ i,N=i+m+1:=⟨N - m - 1,by omega⟩
  have ei:((N:Nat):Int) - 1 - (m:Int)=(i:Int):=by omega
  have ei2:((N:Nat):Int) - 1 - ((m+1:Nat):Int)=(i:Int) - 1:=by omega
  have en1:N - m=i+1:=by omega
  have en2:N - (m+1)=i:=by omega
  have hiN:i < N:=by omega
  have d0:((i:Nat):Int) ≥ 0:=by omega
  have d1:(0:Int) ≤ (i:Int):=by omega
  have d2:(i:Int) < ((encK (P ++ [p]) (extW P p (i+1))).length:Int):=by rw [ell];omega
  have g1:=encK_get (P:=P ++ [p]) (w:=extW P p (i+1)) (i:=i) (by rw [List.length_append];simp;omega)
  have wi:(lkF (P ++ [p]) (extW P p (i+1)) i).2.2.2=canQ (wtP P i):=by rw [lkF_w,extW,if_pos (by omega)]
  have hw:=wsz i (by omega)
  have q1:iadd .i64 (i:Int) 1=((i+1:Nat):Int):=iadd1 (by omega)
  have q2:isub .i64 (N:Int) (i:Int)=((N - i:Nat):Int):=by rw [isub_i (by omega) (by omega)];omega
  have q3:isub .i64 (i:Int) 1=(i:Int) - 1:=by rw [isub_i (by omega) (by omega)]
  have f1:=frac_ok (a:=i+1) (b:=N+1) (by omega) (by omega)
  have f2:=frac_ok (a:=N - i) (b:=N+1) (by omega) (by omega)
  have s1:=frac_sz (a:=i+1) (b:=N+1) (by omega) (by omega)
  have s2:=frac_sz (a:=N - i) (b:=N+1) (by omega) (by omega)
  have m1:=ratio_Mul_ok (hq.sm (by omega)) (hw.sm (by decide))
  rw [rv_canQ,rv_canQ] at m1
  have m1:ratio_Mul (((canQ q).1.1,(canQ q).1.2),(canQ q).2) (canQ (wtP P i))=some (canQ (q * wtP P i)):=m1
  have z1:SzQ (q * wtP P i) 200000000:=(hq.mul hw).mono (by omega)
  have m2:=ratio_Mul_ok (z1.sm (by decide)) (s2.sm (by decide))
  rw [rv_canQ,rv_canQ] at m2
  have fin0:extW P p i i=q * wtP P i * (((N - i:Nat):Rat) / ((N+1:Nat):Rat)):=by
    rw [extW,if_neg (by omega),if_pos rfl,if_neg (by omega),ep,eN]
  show pathshap_Path_Extend_s10 g ((ok,(N:Int),((N:Nat):Int) - 1 - (m:Int),()),(((canQ q).1.1,(canQ q).1.2,(canQ q).2,()),(encK (P ++ [p]) (extW P p (N - m)),()),()))=g ((ok,(N:Int),((N:Nat):Int) - 1 - ((m+1:Nat):Int),()),(((canQ q).1.1,(canQ q).1.2,(canQ q).2,()),(encK (P ++ [p]) (extW P p (N - (m+1))),()),()))
  rw [ei,ei2,en1,en2,pathshap_Path_Extend_s10,cnd d0,cnd2 d1 d2,Int.toNat_natCast,g1,Option.bind_some,wi]
  cases hok:ok with
  | true =>
    have a1:(0:Int) ≤ ((i+1:Nat):Int):=by omega
    have a2:((i+1:Nat):Int) < ((encK (P ++ [p]) (extW P p (i+1))).length:Int):=by rw [ell];omega
    have g2:=encK_get (P:=P ++ [p]) (w:=extW P p (i+1)) (i:=i+1) (by rw [List.length_append];simp;omega)
    have m3:=ratio_Mul_ok (hw.sm (by decide)) (s1.sm (by decide))
    rw [rv_canQ,rv_canQ] at m3
    have z3:SzQ (wtP P i * (((i+1:Nat):Rat) / ((N+1:Nat):Rat))) 200000000:=(hw.mul s1).mono (by omega)
    have z4:SzQ (extW P p (i+1) (i+1)) 400000000:=by
     rw [extW,if_neg (by omega),if_pos rfl]
     split
     · exact SzQ.zero.mono (by decide)
     · have hw' := wsz (i + 1) (by omega)
       have s3:=frac_sz (a:=P.length+1 - (i+1)) (b:=P.length+1+1) (by omega) (by omega)
       rw [ep]
       exact ((hq.mul hw').mul s3).mono (by omega)
    have m4:=ratio_Add_ok (z4.sm (by decide)) (z3.sm (by decide))
    rw [rv_canQ,rv_canQ] at m4
    have fin1:extW P p (i+1) (i+1)+wtP P i * (((i+1:Nat):Rat) / ((N+1:Nat):Rat))=extW P p i (i+1):=by
     have hs:=wtP_snoc (P:=P) (p:=p) (j:=i+1) (by omega)
     rw [if_neg (show ¬ i+1=0 by omega),Nat.add_sub_cancel,show one0 p.2.2=1 by rw [ep,hok];rfl,Rat.one_mul] at hs
     have e1:extW P p i (i+1)=wtP (P ++ [p]) (i+1):=by rw [extW,if_neg (by omega),if_neg (by omega)]
     have e2:extW P p (i+1) (i+1)=if i+1=P.length+1 then 0 else (p.2.1 * wtP P (i+1)) * (((P.length+1 - (i+1):Nat):Rat) / ((P.length+1+1:Nat):Rat)):=by rw [extW,if_neg (by omega),if_pos rfl]
     rw [e1,e2,hs,eN]
    have u1:=encK_set (P:=P ++ [p]) (w:=extW P p (i+1)) (i:=i+1) (extW P p i (i+1))
    have d3:(i:Int) < (((encK (P ++ [p]) (fun j=>if j=i+1 then extW P p i (i+1) else extW P p (i+1) j))).length:Int):=by rw [ell];omega
    have g3:=encK_get (P:=P ++ [p]) (w:=fun j=>if j=i+1 then extW P p i (i+1) else extW P p (i+1) j) (i:=i) (by rw [List.length_append];simp;omega)
    have u2:=encK_set (P:=P ++ [p]) (w:=fun j=>if j=i+1 then extW P p i (i+1) else extW P p (i+1) j) (i:=i) (extW P p i i)
    rw [cond_true,q1,cnd2 a1 a2,Int.toNat_natCast,g2,Option.bind_some,pn1,f1,Option.bind_some,m3,Option.bind_some,lkF_w,m4,Option.bind_some,fin1,cnd2 a1 a2,Option.bind_some,m1,Option.bind_some,q2,f2,Option.bind_some,m2,Option.bind_some,u1,cnd2 d1 d3,g3,Option.bind_some,← fin0,u2,q3]
    have:encK (P ++ [p]) (fun j=>if j=i then extW P p i i else if j=i+1 then extW P p i (i+1) else extW P p (i+1) j)=encK (P ++ [p]) (extW P p i):=by
     refine encK_congr fun j hj=>?_
     by_cases e1:j=i
     · rw [if_pos e1,e1]
     · rw [if_neg e1]
       by_cases e2:j=i+1
       · rw [if_pos e2,e2]
       · rw [if_neg e2]
         unfold extW
         by_cases e3:j < i
         · rw [if_pos (by omega),if_pos e3]
         · rw [if_neg (by omega),if_neg (by omega),if_neg (by omega),if_neg (by omega)]
    rw [this]
  | false =>
    have u2:=encK_set (P:=P ++ [p]) (w:=extW P p (i+1)) (i:=i) (extW P p i i)
    rw [cond_false,m1,Option.bind_some,q2,pn1,f2,Option.bind_some,m2,Option.bind_some,cnd2 d1 d2,Option.bind_some,← fin0,u2,q3]
    have:encK (P ++ [p]) (fun j=>if j=i then extW P p i i else extW P p (i+1) j)=encK (P ++ [p]) (extW P p i):=by
     refine encK_congr fun j hj=>?_
     simp only [List.length_append,List.length_singleton] at hj
     by_cases e1:j=i
     · rw [if_pos e1,e1]
     · rw [if_neg e1]
       unfold extW
       by_cases e3:j < i
       · rw [if_pos (by omega),if_pos e3]
       · by_cases e2 : j = i + 1
         · subst e2
           have hs:=wtP_snoc (P:=P) (p:=p) (j:=i+1) (by omega)
           rw [show one0 p.2.2=0 by rw [ep,hok];rfl,Rat.zero_mul,if_neg (show ¬ i+1=0 by omega),Rat.add_zero] at hs
           rw [if_neg (show ¬ i+1 < i+1 by omega),if_pos rfl,if_neg (show ¬ i+1 < i by omega),if_neg (show ¬ i+1=i by omega),hs]
         · rw [if_neg (by omega),if_neg e2,if_neg (by omega),if_neg (by omega)]
    rw [this]) (by
  intro g
  rw [Nat.sub_self,pathshap_Path_Extend_s10,cnd' (by omega)])
 have efin:encK (P ++ [p]) (extW P p 0)=encK (P ++ [p]) (wtP (P ++ [p])):=by
  refine encK_congr fun j hj=>?_
  unfold extW
  rw [if_neg (by omega)]
  by_cases e:j=0
  · subst e
    have hs:=wtP_snoc (P:=P) (p:=p) (j:=0) (by omega)
    rw [if_pos rfl,Rat.add_zero] at hs
    rw [if_pos rfl,hs]
  · rw [if_neg e]
 rw [efin] at key
 have qn:isub .i64 ((P.length+1:Nat):Int) 1=((N:Nat):Int) - 1 - ((0:Nat):Int):=by rw [isub_i (by omega) (by omega)];omega
 have c0:¬ ((P.length+1:Nat):Int)=0:=by omega
 have hsg:rcmp q 0 > 0:=rcmp_pos.2 hq0
 have hsign:=ratio_Sign_ok (hq.sm (by omega))
 rw [rv_canQ] at hsign
 have hcl:=ratio_Clean_ok (hq.sm (by omega))
 rw [rv_canQ] at hcl
 rw [pathshap_Path_Extend,el,cnd' c0,cnd' (by omega),Find_not hf (by omega),Option.bind_some]
 dsimp only
 rw [cnd' (by omega),hsign,Option.bind_some,cnd' (by omega),hcl,Option.bind_some,ratio_Zero_ok,Option.bind_some,blt (by rw [el];omega),cond_true]
 have e1:encK P (wtP P) ++ [((f:Int),(canQ q,(ok,canQ 0)))]=encK (P ++ [p]) (extW P p N):=by
  rw [← e0,← hsnoc,ep]
 rw [e1,el,qn]
 have key:lp pathshap_Path_Extend_s10 K0 ((ok,((P.length+1:Nat):Int),((N:Nat):Int) - 1 - ((0:Nat):Int),()),(((canQ q).1.1,(canQ q).1.2,(canQ q).2,()),(encK (P ++ [p]) (extW P p N),()),()))=some ((),(encK (P ++ [p]) (wtP (P ++ [p])),()),()):=by
  rw [← eN];exact key
 rw [key,ep];rfl
def outP1 (P:List AP) (a:Nat):List AP:=P.take a ++ P.drop (a+1)
theorem outP1_len {P:List AP} {a:Nat} (h:a < P.length):(outP1 P a).length+1=P.length:=by simp [outP1];omega
theorem outP1_perm {P:List AP} {a:Nat} (h:a < P.length):P.Perm (P[a] :: outP1 P a):=by
 have e:P=P.take a ++ P[a] :: P.drop (a+1):=by rw [← List.drop_eq_getElem_cons h,List.take_append_drop]
 have:(P.take a ++ P[a] :: P.drop (a+1)).Perm (P[a] :: (P.take a ++ P.drop (a+1))):=List.perm_middle
 exact (List.Perm.of_eq e).trans this
theorem outP1_mem {P:List AP} {a:Nat}:∀ p ∈ outP1 P a,p ∈ P:=fun p hp=>by
 rcases List.mem_append.1 hp with h | h
 · exact List.mem_of_mem_take h
 · exact List.mem_of_mem_drop h
theorem ekP_take {P:List AP} {a:Nat} (h:a < P.length) (k:Nat):ekP P k=P[a].2.1 * ekP (outP1 P a) k+(if k=0 then 0 else one0 P[a].2.2 * ekP (outP1 P a) (k - 1)):=by
 rw [ekP_perm (outP1_perm h)];rfl
theorem PathP.out {P:List AP} {k g:Nat} (h:PathP P k g) {a:Nat} (ha:a < P.length):PathP (outP1 P a) k g:=by
 have hp:=(outP1_perm ha).map (·.1)
 have hn:=hp.nodup_iff.1 h.nd
 exact ⟨(List.nodup_cons.1 hn).2,fun p hp=>h.sz p (outP1_mem p hp),by have:=outP1_len ha;have:=h.len;omega,fun p hp=>h.lt p (outP1_mem p hp),fun p hp=>h.pos p (outP1_mem p hp)⟩
theorem PathP.notin {P:List AP} {k g:Nat} (h:PathP P k g) {a:Nat} (ha:a < P.length):∀ p ∈ outP1 P a,p.1 ≠ P[a].1:=by
 have hp:=(outP1_perm ha).map (·.1)
 have hn:=List.nodup_cons.1 (hp.nodup_iff.1 h.nd)
 intro p hp e
 exact hn.1 (List.mem_map.2 ⟨p,hp,e⟩)
theorem wtP_no {P:List AP} {a i:Nat} (ha:a < P.length) (hi:i < P.length) (hz:P[a].2.1 ≠ 0) (hok:P[a].2.2=false) :
  wtP P i * (((P.length+1:Nat):Rat) / ((P.length - i:Nat):Rat)) * P[a].2.1⁻¹=wtP (outP1 P a) i:=by
 have hl:=outP1_len ha
 unfold wtP
 rw [ekP_take ha,hok,wq_stay (i:=i) (n:=P.length) hi,show (outP1 P a).length+1=P.length by omega]
 have n1:=natQ_ne (show 0 < P.length - i by omega)
 have n2:=natQ_ne (show 0 < P.length+1 by omega)
 generalize wq i P.length=x
 generalize ekP (outP1 P a) i=y
 generalize ekP (outP1 P a) (i - 1)=y2
 generalize ((P.length - i:Nat):Rat)=u at *
 generalize ((P.length+1:Nat):Rat)=v at *
 generalize P[a].2.1=z at *
 simp only [one0,Bool.false_eq_true,if_false,Rat.zero_mul,ite_self,Rat.add_zero]
 grind
def nxP (P:List AP) (a i:Nat):Rat:=wq (i+1) (P.length+1) * ekP (outP1 P a) i
theorem nxP_out {P:List AP} {a i:Nat} (ha:a < P.length) (hi:i < P.length):nxP P a i * (((P.length+1:Nat):Rat) / ((i+1:Nat):Rat))=wtP (outP1 P a) i:=by
 have hl:=outP1_len ha
 unfold wtP nxP
 rw [wq_join (i:=i) (n:=P.length) hi,show (outP1 P a).length+1=P.length by omega]
 have n1:=natQ_ne (show 0 < i+1 by omega)
 have n2:=natQ_ne (show 0 < P.length+1 by omega)
 generalize wq i P.length=x
 generalize ekP (outP1 P a) i=y
 generalize ((i+1:Nat):Rat)=u at *
 generalize ((P.length+1:Nat):Rat)=v at *
 grind
theorem nxP_next {P:List AP} {a i:Nat} (ha:a < P.length) (hi:i < P.length) (hok:P[a].2.2=true) :
  wtP P i - wtP (outP1 P a) i * P[a].2.1 * (((P.length - i:Nat):Rat) / ((P.length+1:Nat):Rat))=if i=0 then 0 else nxP P a (i - 1):=by
 have hl:=outP1_len ha
 unfold wtP nxP
 rw [ekP_take ha,hok,wq_stay (i:=i) (n:=P.length) hi,show (outP1 P a).length+1=P.length by omega]
 cases i with
 | zero =>
  simp only [if_true]
  generalize wq 0 P.length=x
  generalize ekP (outP1 P a) 0=y
  generalize P[a].2.1=z at *
  grind
 | succ i =>
  rw [if_neg (by omega),if_neg (by omega),Nat.add_sub_cancel,wq_stay (i:=i+1) (n:=P.length) hi]
  generalize wq (i+1) P.length=x
  generalize ekP (outP1 P a) (i+1)=y
  generalize ekP (outP1 P a) i=y2
  generalize P[a].2.1=z at *
  simp only [one0,if_true]
  grind
theorem nxP_top {P:List AP} {a:Nat} (ha:a < P.length) (hok:P[a].2.2=true):wtP P P.length=nxP P a (P.length - 1):=by
 have hl:=outP1_len ha
 unfold wtP nxP
 rw [ekP_take ha,hok,ekP_out (outP1 P a) (by omega),if_neg (by omega),show P.length - 1+1=P.length by omega]
 simp only [one0,if_true]
 grind
theorem nxP_sz {P:List AP} {k g a:Nat} (h:PathP P k g) (ha:a < P.length) (hk:k ≤ 70) {i:Nat} (hi:i < P.length):SzQ (nxP P a i) 100000000:=by
 have hl:=outP1_len ha
 have h2:=h.out ha
 have hS:=ekS_le (k:=k) (n:=(outP1 P a).length) hk h2.len
 have:=h.len
 exact ((wq_sz (s:=i+1) (n:=P.length+1) (by omega) (by omega)).mul (ekP_sz h2.sz i)).mono (by omega)
def bkL (n i:Nat) (w:Nat → Rat):List RAT:=(List.range n).map fun j=>if i ≤ j then canQ (w j) else zR
theorem bkL_len (n i:Nat) (w:Nat → Rat):(bkL n i w).length=n:=by simp [bkL]
theorem bkL_get {n i j:Nat} (w:Nat → Rat) (h:j < n):(bkL n i w)[j]?=some (if i ≤ j then canQ (w j) else zR):=by simp [bkL,h]
theorem bkL_set {n i:Nat} (w:Nat → Rat):(bkL n (i+1) w).set i (canQ (w i))=bkL n i w:=by
 refine List.ext_getElem? fun j=>?_
 rw [List.getElem?_set]
 by_cases e:i=j
 · subst e
   by_cases hi:i < n
   · rw [if_pos rfl,if_pos (by rw [bkL_len];exact hi),bkL_get w hi,if_pos (Nat.le_refl _)]
   · rw [if_pos rfl,if_neg (by rw [bkL_len];exact hi),List.getElem?_eq_none (by rw [bkL_len];omega)]
 · rw [if_neg e]
   by_cases hj:j < n
   · rw [bkL_get w hj, bkL_get w hj]
     by_cases h:i ≤ j
     · rw [if_pos (by omega),if_pos h]
     · rw [if_neg (by omega),if_neg h]
   · rw [List.getElem?_eq_none (by rw [bkL_len];omega),List.getElem?_eq_none (by rw [bkL_len];omega)]
theorem bkL_none (n:Nat) (w:Nat → Rat):bkL n n w=List.replicate n zR:=by
 rw [List.eq_replicate_iff]
 refine ⟨bkL_len _ _ _,fun x hx=>?_⟩
 obtain ⟨j,hj,rfl⟩:=List.mem_map.1 hx
 have:=List.mem_range.1 hj
 exact if_neg (by omega)
theorem bkL_all (n:Nat) (w:Nat → Rat):bkL n 0 w=flo n w:=List.map_congr_left fun j _=>if_pos (Nat.zero_le _)
theorem without_ok {P:List AP} {k g:Nat} (h:PathP P k g) (hk:k ≤ 70) {a:Nat} (ha:a < P.length) :
  pathshap_Path_without ((a+1:Nat):Int) (encK P (wtP P))=some (flo P.length (wtP (outP1 P a)),encK P (wtP P)):=by
 have hl:=outP1_len ha
 have hl2:=h.len
 have el:=encK_len P (wtP P)
 obtain ⟨n,en⟩:∃ n,n=P.length:=⟨_,rfl⟩
 have hS:=ekS_le (k:=k) (n:=P.length) hk (by omega)
 have wsz:∀ i,i ≤ P.length → SzQ (wtP P i) 100000000:=fun i hi=>(wtP_sz h.sz hl2 hi).mono (by omega)
 have hQ:=h.out ha
 have hS2:=ekS_le (k:=k) (n:=(outP1 P a).length) hk hQ.len
 have qsz:∀ i,i < P.length → SzQ (wtP (outP1 P a) i) 100000000:=fun i hi=>(wtP_sz hQ.sz hQ.len (by omega)).mono (by omega)
 have hz:SzQ P[a].2.1 k:=h.sz _ (List.getElem_mem ha)
 have hpos:=h.pos _ (List.getElem_mem ha)
 have hz0:P[a].2.1 ≠ 0:=by intro e;rw [e] at hpos;exact absurd hpos (by decide)
 obtain ⟨L,eL⟩:∃ L,L=lkF P (wtP P) (a+1):=⟨_,rfl⟩
 have eL':=eL
 rw [lkF_part ha] at eL'
 have L1:L.2.1=canQ P[a].2.1:=by rw [eL']
 have L2:L.2.2.1=P[a].2.2:=by rw [eL']
 obtain ⟨nx,hnx⟩:∃ nx:Nat → Rat,nx=fun m=>if P[a].2.2 then (if m < n then nxP P a (n - 1 - m) else 0) else wtP P n:=⟨_,rfl⟩
 obtain ⟨ov,hov⟩:∃ ov:Rat,ov=P[a].2.1⁻¹:=⟨_,rfl⟩
 have pn1:iadd .i64 ((n:Nat):Int) 1=((n+1:Nat):Int):=iadd1 (by omega)
 have key:=lp_up (step:=pathshap_Path_without_s7) (fun m=>(((n:Int),bkL n (n - m) (wtP (outP1 P a)),((n:Nat):Int) - 1 - (m:Int),()),((L.1,L.2.1.1.1,L.2.1.1.2,L.2.1.2,L.2.2.1,L.2.2.2.1.1,L.2.2.2.1.2,L.2.2.2.2,()),((canQ ov).1.1,(canQ ov).1.2,(canQ ov).2,()),((canQ (nx m)).1.1,(canQ (nx m)).1.2,(canQ (nx m)).2,()),(encK P (wtP P),()),()))) n
  (r:=((bkL n 0 (wtP (outP1 P a)),()),((encK P (wtP P),()),()))) (by omega) (by
  intro g m hm
  obtain ⟨i,hi⟩:∃ i,n=i+m+1:=⟨n - m - 1,by omega⟩
  have ei:((n:Nat):Int) - 1 - (m:Int)=(i:Int):=by omega
  have ei2:((n:Nat):Int) - 1 - ((m+1:Nat):Int)=(i:Int) - 1:=by omega
  have en1:n - m=i+1:=by omega
  have en2:n - (m+1)=i:=by omega
  have d0:((i:Nat):Int) ≥ 0:=by omega
  have d1:(0:Int) ≤ (i:Int):=by omega
  have d2:(i:Int) < ((encK P (wtP P)).length:Int):=by rw [el];omega
  have d3:(i:Int) < ((bkL n (i+1) (wtP (outP1 P a))).length:Int):=by rw [bkL_len];omega
  have g1:=encK_get (P:=P) (w:=wtP P) (i:=i) (by omega)
  have g2:=bkL_get (n:=n) (i:=i+1) (j:=i) (wtP (outP1 P a)) (by omega)
  have q2:isub .i64 (n:Int) (i:Int)=((n - i:Nat):Int):=by rw [isub_i (by omega) (by omega)];omega
  have q3:isub .i64 (i:Int) 1=(i:Int) - 1:=by rw [isub_i (by omega) (by omega)]
  have q1:iadd .i64 (i:Int) 1=((i+1:Nat):Int):=iadd1 (by omega)
  have hset:=bkL_set (n:=n) (i:=i) (wtP (outP1 P a))
  show pathshap_Path_without_s7 g (((n:Int),bkL n (n - m) (wtP (outP1 P a)),((n:Nat):Int) - 1 - (m:Int),()),((L.1,L.2.1.1.1,L.2.1.1.2,L.2.1.2,L.2.2.1,L.2.2.2.1.1,L.2.2.2.1.2,L.2.2.2.2,()),((canQ ov).1.1,(canQ ov).1.2,(canQ ov).2,()),((canQ (nx m)).1.1,(canQ (nx m)).1.2,(canQ (nx m)).2,()),(encK P (wtP P),()),()))=g (((n:Int),bkL n (n - (m+1)) (wtP (outP1 P a)),((n:Nat):Int) - 1 - ((m+1:Nat):Int),()),((L.1,L.2.1.1.1,L.2.1.1.2,L.2.1.2,L.2.2.1,L.2.2.2.1.1,L.2.2.2.1.2,L.2.2.2.2,()),((canQ ov).1.1,(canQ ov).1.2,(canQ ov).2,()),((canQ (nx (m+1))).1.1,(canQ (nx (m+1))).1.2,(canQ (nx (m+1))).2,()),(encK P (wtP P),()),()))
  rw [ei,ei2,en1,en2,pathshap_Path_without_s7,cnd d0,L2]
  cases hok:P[a].2.2 with
  | false =>
   have f1:=frac_ok (a:=n+1) (b:=n - i) (by omega) (by omega)
   have s1:=frac_sz (a:=n+1) (b:=n - i) (by omega) (by omega)
   have hw:=wsz i (by omega)
   have m1:=ratio_Mul_ok (hw.sm (by decide)) (s1.sm (by decide))
   rw [rv_canQ,rv_canQ] at m1
   have z1:SzQ (wtP P i * (((n+1:Nat):Rat) / ((n - i:Nat):Rat))) 200000000:=(hw.mul s1).mono (by omega)
   have hi2:SzQ ov k:=by rw [hov];exact hz.inv
   have m2:=ratio_Mul_ok (z1.sm (by decide)) (hi2.sm (by omega))
   rw [rv_canQ,rv_canQ] at m2
   have m2:ratio_Mul (canQ (wtP P i * (((n+1:Nat):Rat) / ((n - i:Nat):Rat)))) (((canQ ov).1.1,(canQ ov).1.2),(canQ ov).2)=_:=m2
   have e1:=wtP_no ha (i:=i) (by omega) hz0 hok
   rw [← en,← hov] at e1
   have e2:nx (m+1)=nx m:=by rw [hnx];simp only [hok,Bool.false_eq_true,if_false]
   rw [Bool.not_false,cond_true,cnd2 d1 d2,Int.toNat_natCast,g1,Option.bind_some,pn1,q2,f1,Option.bind_some,lkF_w,m1,Option.bind_some,m2,Option.bind_some,cnd2 d1 d3,g2,Option.bind_some,e1,hset,q3,e2]
  | true =>
   have f1:=frac_ok (a:=n+1) (b:=i+1) (by omega) (by omega)
   have s1:=frac_sz (a:=n+1) (b:=i+1) (by omega) (by omega)
   have enx:nx m=nxP P a i:=by rw [hnx];simp only [hok,if_true];rw [if_pos hm,show n - 1 - m=i by omega]
   have nsz:=nxP_sz h ha hk (i:=i) (by omega)
   have m1:=ratio_Mul_ok (nsz.sm (by decide)) (s1.sm (by decide))
   rw [rv_canQ,rv_canQ] at m1
   have e1:=nxP_out ha (i:=i) (by omega)
   rw [← en] at e1
   rw [e1] at m1
   have m1:ratio_Mul (((canQ (nxP P a i)).1.1,(canQ (nxP P a i)).1.2),(canQ (nxP P a i)).2) (canQ (((n+1:Nat):Rat) / ((i+1:Nat):Rat)))=some (canQ (wtP (outP1 P a) i)):=m1
   have d4:(i:Int) < ((bkL n i (wtP (outP1 P a))).length:Int):=by rw [bkL_len];omega
   have g3:=bkL_get (n:=n) (i:=i) (j:=i) (wtP (outP1 P a)) (by omega)
   rw [if_pos (Nat.le_refl _)] at g3
   have hq:=qsz i (by omega)
   have m2:=ratio_Mul_ok (hq.sm (by decide)) (hz.sm (by omega))
   rw [rv_canQ,rv_canQ] at m2
   have m2:ratio_Mul (canQ (wtP (outP1 P a) i)) ((L.2.1.1.1,L.2.1.1.2),L.2.1.2)=some (canQ (wtP (outP1 P a) i * P[a].2.1)):=by
    show ratio_Mul _ L.2.1=_
    rw [L1];exact m2
   have f2:=frac_ok (a:=n - i) (b:=n+1) (by omega) (by omega)
   have s2:=frac_sz (a:=n - i) (b:=n+1) (by omega) (by omega)
   have z2:SzQ (wtP (outP1 P a) i * P[a].2.1) 200000000:=(hq.mul hz).mono (by omega)
   have m3:=ratio_Mul_ok (z2.sm (by decide)) (s2.sm (by decide))
   rw [rv_canQ,rv_canQ] at m3
   have z3:SzQ (wtP (outP1 P a) i * P[a].2.1 * (((n - i:Nat):Rat) / ((n+1:Nat):Rat))) 300000000:=(z2.mul s2).mono (by omega)
   have hw:=wsz i (by omega)
   have m4:=ratio_Sub_ok (hw.sm (by decide)) (z3.sm (by decide))
   rw [rv_canQ,rv_canQ] at m4
   have e2:=nxP_next ha (i:=i) (by omega) hok
   rw [← en] at e2
   rw [e2] at m4
   have e3:nx (m+1)=if i=0 then 0 else nxP P a (i - 1):=by
    rw [hnx];simp only [hok,if_true]
    by_cases h0:i=0
    · rw [if_neg (by omega),if_pos h0]
    · rw [if_pos (by omega),if_neg h0,show n - 1 - (m+1)=i - 1 by omega]
   rw [Bool.not_true,cond_false,pn1,q1,f1,Option.bind_some,enx,m1,Option.bind_some,cnd2 d1 d3,Int.toNat_natCast,g2,Option.bind_some,cnd2 d1 d2,g1,Option.bind_some,hset,cnd2 d1 d4,g3,Option.bind_some,m2,Option.bind_some,q2,f2,Option.bind_some,m3,Option.bind_some,lkF_w,m4,Option.bind_some,q3,e3]) (by
  intro g
  rw [Nat.sub_self,pathshap_Path_without_s7,cnd' (by omega)])
 have i1:isub .i64 ((P.length+1:Nat):Int) 1=(n:Int):=by rw [isub_i (by omega) (by omega)];omega
 have i2:isub .i64 (n:Int) 1=((n:Nat):Int) - 1 - ((0:Nat):Int):=by rw [isub_i (by omega) (by omega)];omega
 have c0:(0:Int) ≤ ((a+1:Nat):Int):=by omega
 have c1:((a+1:Nat):Int) < ((P.length+1:Nat):Int):=by omega
 have hinv:=ratio_Inv_ok (hz.sm (by omega))
 rw [rv_canQ,if_neg hz0,← hov] at hinv
 have c2:(decide ((n:Int)=(n:Int)) && decide ((0:Int) ≤ (n:Int)) && decide ((((56:Nat):Int) * (n:Int)) ≤ 281474976710656) && decide ((n:Int) ≤ 9223372036854775807))=true:=by
  simp only [Bool.and_eq_true,decide_eq_true_eq]
  refine ⟨⟨⟨trivial,by omega⟩,?_⟩,by omega⟩
  show (56:Int) * (n:Int) ≤ 281474976710656
  omega
 have ev:nx 0=wtP P n:=by
  rw [hnx]
  cases hok:P[a].2.2 with
  | false=>simp
  | true=>simp only [if_true];rw [if_pos (by omega),en,nxP_top ha hok,Nat.sub_zero]
 have gn:=encK_get (P:=P) (w:=wtP P) (i:=n) (by omega)
 rw [pathshap_Path_without,el,cnd2 c0 c1,Int.toNat_natCast,encK_get (by omega),Option.bind_some,i1,c2,cond_true,← eL,L1,hinv,Option.bind_some,cnd2 (by omega) (by omega),Int.toNat_natCast,gn,Option.bind_some,i2]
 dsimp only
 rw [lkF_w,← ev]
 have key:lp pathshap_Path_without_s7 K0 (((n:Int),List.replicate n (((false,[]),[]):RAT),((n:Nat):Int) - 1 - ((0:Nat):Int),()),((L.1,(canQ P[a].2.1).1.1,(canQ P[a].2.1).1.2,(canQ P[a].2.1).2,L.2.2.1,L.2.2.2.1.1,L.2.2.2.1.2,L.2.2.2.2,()),((canQ ov).1.1,(canQ ov).1.2,(canQ ov).2,()),((canQ (nx 0)).1.1,(canQ (nx 0)).1.2,(canQ (nx 0)).2,()),(encK P (wtP P),()),()))=some ((bkL n 0 (wtP (outP1 P a)),()),((encK P (wtP P),()),())):=by
  have k2:=key
  rw [Nat.sub_zero,bkL_none,L1] at k2
  exact k2
 rw [key,bkL_all,en];rfl
theorem floSum_ok {n k:Nat} {w:Nat → Rat} (hw:∀ i,i < n → SzQ (w i) k) (hk:1+n * (k+1) < 1099511627776) (hn:n < 1000000):ratio_Sum (flo n w)=some (canQ (rsum w n)):=by
 have hv:∀ i,i < n → vals (flo n w) i=w i:=fun i hi=>by
  rw [vals,flo_get w hi]
  show rv (canQ (w i))=w i
  exact rv_canQ _
 have h:=ratio_Sum_ok (l:=flo n w) (k:=k) (fun x hx=>by
  obtain ⟨i,hi,rfl⟩:=List.mem_map.1 hx
  have hi:=List.mem_range.1 hi
  refine (hw i hi).sm ?_
  have:1 * (k+1) ≤ n * (k+1):=Nat.mul_le_mul_right _ (by omega)
  omega) (fun i hi=>by rw [flo_len] at hi;rw [hv i hi];exact hw i hi) (by rw [flo_len];exact hk) (by rw [flo_len];omega)
 rw [h,flo_len]
 congr 2
 exact rsum_congr fun i hi=>hv i hi
def sumP (P:List AP) (a:Nat):Rat:=rsum (wtP (outP1 P a)) P.length
theorem outW_sz {P:List AP} {k g:Nat} (h:PathP P k g) (hk:k ≤ 70) {a:Nat} (ha:a < P.length):∀ i,i < P.length → SzQ (wtP (outP1 P a) i) (30+ekS k (outP1 P a).length):=fun i hi=>by
 have:=outP1_len ha
 exact wtP_sz (h.out ha).sz (h.out ha).len (by omega)
theorem Sum15_ok {P:List AP} {k g:Nat} (h:PathP P k g) (hk:k ≤ 70) {a:Nat} (ha:a < P.length) :
  pathshap_Path_Sum ((a+1:Nat):Int) (encK P (wtP P))=some (canQ (sumP P a),0,encK P (wtP P)):=by
 have el:=encK_len P (wtP P)
 have hl2:=h.len
 have hS2:=ekS_le (k:=k) (n:=(outP1 P a).length) hk (h.out ha).len
 have hs:=floSum_ok (n:=P.length) (w:=wtP (outP1 P a)) (k:=100000000) (fun i hi=>(outW_sz h hk ha i hi).mono (by omega)) (by omega) (by omega)
 rw [pathshap_Path_Sum,el,cnd' (by omega),cnd' (by omega),cnd' (by omega),without_ok h hk ha,Option.bind_some]
 dsimp only
 rw [hs];rfl
theorem encK_out {P:List AP} {w:Nat → Rat} {a:Nat} (ha:a < P.length):(encK P w).take (a+1) ++ (encK P w).drop (a+2)=encK (outP1 P a) fun j=>if j ≤ a then w j else w (j+1):=by
 have el:=encK_len P w
 have hl:=outP1_len ha
 have ho:∀ j,(outP1 P a)[j]?=if j < a then P[j]? else P[j+1]?:=fun j=>by
   unfold outP1
   by_cases hj:j < a
   · rw [if_pos hj,List.getElem?_append_left (by rw [List.length_take];omega),List.getElem?_take,if_pos hj]
   · rw [if_neg hj, List.getElem?_append_right (by rw [List.length_take]; omega), List.length_take, Nat.min_eq_left (by omega), List.getElem?_drop]
     congr 1;omega
 refine List.ext_getElem? fun j=>?_
 by_cases hj:j < a+1
 · rw [List.getElem?_append_left (by rw [List.length_take]; omega), List.getElem?_take, if_pos hj, encK_get (by omega), encK_get (by omega)]
   unfold lkF
   split
   · rename_i e;subst e;simp
   · have e1 : (outP1 P a)[j - 1]? = P[j - 1]? := by rw [ho, if_pos (by omega)]
     have e2:(if j ≤ a then w j else w (j+1))=w j:=if_pos (by omega)
     simp only [e1,e2]
 · rw [List.getElem?_append_right (by rw [List.length_take]; omega), List.length_take, Nat.min_eq_left (by omega), List.getElem?_drop, show a + 2 + (j - (a + 1)) = j + 1 by omega]
   by_cases hj2:j+1 < P.length+1
   · rw [encK_get hj2, encK_get (by omega)]
     unfold lkF
     have e1:(outP1 P a)[j - 1]?=P[j]?:=by rw [ho,if_neg (by omega)];congr 1;omega
     have e2:(if j ≤ a then w j else w (j+1))=w (j+1):=if_neg (by omega)
     rw [if_neg (by omega),if_neg (by omega)]
     simp only [e1,e2,Nat.add_sub_cancel]
   · rw [List.getElem?_eq_none (by omega),List.getElem?_eq_none (by rw [encK_len];omega)]
theorem Unwind_ok {P:List AP} {k g:Nat} (h:PathP P k g) (hk:k ≤ 70) {a:Nat} (ha:a < P.length) :
  pathshap_Path_Unwind ((a+1:Nat):Int) (encK P (wtP P))=some (0,encK (outP1 P a) (wtP (outP1 P a))):=by
 have el:=encK_len P (wtP P)
 have hl2:=h.len
 have hl:=outP1_len ha
 obtain ⟨Q,eQ⟩:∃ Q,Q=outP1 P a:=⟨_,rfl⟩
 have eo:=encK_out (w:=wtP P) ha
 rw [← eQ] at eo hl
 obtain ⟨w0,hw0⟩:∃ w0:Nat → Rat,w0=fun j=>if j ≤ a then wtP P j else wtP P (j+1):=⟨_,rfl⟩
 rw [← hw0] at eo
 obtain ⟨F,eF⟩:∃ F,F=flo P.length (wtP Q):=⟨_,rfl⟩
 have lF:F.length=P.length:=by rw [eF,flo_len]
 have lQ:∀ w,(encK Q w).length=P.length:=fun w=>by rw [encK_len];exact hl
 have key:=lp_up (step:=pathshap_Path_Unwind_s8) (fun i=>((F,encK Q (fun j=>if j < i then wtP Q j else w0 j),((P.length:Nat):Int),(i:Int),()),((encK P (wtP P),()),()))) P.length
  (r:=((encK Q (fun j=>if j < P.length then wtP Q j else w0 j),()),((encK P (wtP P),()),()))) (by omega) (by
  intro gg i hi
  have d0:(i:Int) < ((P.length:Nat):Int):=by omega
  have d1:(0:Int) ≤ (i:Int):=by omega
  have d2:(i:Int) < (F.length:Int):=by rw [lF];exact d0
  have d3:(i:Int) < ((encK Q (fun j=>if j < i then wtP Q j else w0 j)).length:Int):=by rw [lQ];exact d0
  have g1:F[i]?=some (canQ (wtP Q i)):=by rw [eF];exact flo_get _ hi
  have g2:=encK_get (P:=Q) (w:=fun j=>if j < i then wtP Q j else w0 j) (i:=i) (by omega)
  have u:=encK_set (P:=Q) (w:=fun j=>if j < i then wtP Q j else w0 j) (i:=i) (wtP Q i)
  have e:encK Q (fun j=>if j=i then wtP Q i else if j < i then wtP Q j else w0 j)=encK Q (fun j=>if j < i+1 then wtP Q j else w0 j):=by
   refine encK_congr fun j _=>?_
   by_cases e1:j=i
   · rw [if_pos e1,if_pos (by omega),e1]
   · rw [if_neg e1]
     by_cases e2:j < i
     · rw [if_pos e2,if_pos (by omega)]
     · rw [if_neg e2,if_neg (by omega)]
  rw [pathshap_Path_Unwind_s8,cnd d0,cnd2 d1 d2,Int.toNat_natCast,g1,Option.bind_some,cnd2 d1 d3,g2,Option.bind_some,u,e,iadd1 (by omega)]
  rfl) (by
  intro gg
  rw [pathshap_Path_Unwind_s8,cnd' (by omega)])
 have e0:encK Q (fun j=>if j < 0 then wtP Q j else w0 j)=encK Q w0:=encK_congr fun j _=>if_neg (by omega)
 have e1:encK Q (fun j=>if j < P.length then wtP Q j else w0 j)=encK Q (wtP Q):=encK_congr fun j hj=>if_pos (by omega)
 rw [e0,e1] at key
 have key:lp pathshap_Path_Unwind_s8 K0 ((F,encK Q w0,((P.length:Nat):Int),0,()),((encK P (wtP P),()),()))=some ((encK Q (wtP Q),()),((encK P (wtP P),()),())):=key
 have i1:iadd .i64 ((a+1:Nat):Int) 1=((a+2:Nat):Int):=iadd1 (by omega)
 have hw:=without_ok h hk ha
 rw [← eQ,← eF] at hw
 have t1:(((a+1:Nat):Int) - 0).toNat=a+1:=by omega
 have t2:(((a+2:Nat):Int)).toNat=a+2:=by omega
 have c1:(decide ((0:Int) ≤ ((a+1:Nat):Int)) && decide ((((a+1:Nat):Int):Int) ≤ ((a+1:Nat):Int)) && decide ((((a+1:Nat):Int):Int) ≤ ((P.length+1:Nat):Int)))=true:=by
  simp only [Bool.and_eq_true,decide_eq_true_eq];omega
 rw [pathshap_Path_Unwind,el,cnd' (by omega),cnd' (by omega),cnd' (by omega),hw,Option.bind_some]
 dsimp only
 rw [el,c1,cond_true,t1,blt (by rw [List.length_take,el];simp;omega),cond_true,i1,cnd2 (by omega) (by omega),t2,List.nil_append,blt (by rw [List.length_take,List.length_drop,el];omega),cond_true,eo,lQ,key,eQ]
 rfl
theorem along_new {f:Nat} {q:Rat} {ok:Bool} {w:List AP} (h:∀ p ∈ w,p.1 ≠ f):(along f q ok w).Perm ((f,q,ok) :: w):=by
 induction w with
 | nil=>exact List.Perm.refl _
 | cons p w ih =>
  have h1:p.1 ≠ f:=h p List.mem_cons_self
  have ih:=ih fun x hx=>h x (List.mem_cons_of_mem _ hx)
  simp only [along]
  split
  · exact (List.Perm.cons _ ih).trans (List.Perm.swap _ _ _)
  · first | exact List.Perm.refl _ | (rw [if_neg h1])
theorem along_old {f:Nat} {q s:Rat} {ok o:Bool} {w:List AP} (hs:SortA w) (hm:(f,s,o) ∈ w):∃ r:List AP,w.Perm ((f,s,o) :: r)∧(along f q ok w).Perm ((f,s * q,o && ok) :: r):=by
 induction w with
 | nil=>cases hm
 | cons p w ih =>
  have hs2:=List.pairwise_cons.1 hs
  rcases List.mem_cons.1 hm with e | hm
  · subst e
    refine ⟨w,List.Perm.refl _,?_⟩
    simp only [along]
    simp
  · obtain ⟨r, h1, h2⟩ := ih hs2.2 hm
    have hlt:p.1 < f:=hs2.1 _ hm
    refine ⟨p :: r,(List.Perm.cons _ h1).trans (List.Perm.swap _ _ _),?_⟩
    simp only [along]
    rw [if_pos hlt]
    exact (List.Perm.cons _ h2).trans (List.Perm.swap _ _ _)
theorem find_ix {P:List AP} {f:Nat}:(∀ p ∈ P,p.1 ≠ f) ∨ ∃ a,∃ ha:a < P.length,P[a].1=f∧∀ j (hj:j < P.length),j < a → P[j].1 ≠ f:=by
 induction P with
 | nil=>exact .inl (by simp)
 | cons p P ih =>
  by_cases e:p.1=f
  · exact .inr ⟨0,by simp,e,fun j _ hj=>by omega⟩
  · rcases ih with h | ⟨a, ha, h1, h2⟩
    · exact .inl fun x hx=>by rcases List.mem_cons.1 hx with rfl | hx;exact e;exact h x hx
    · refine .inr ⟨a + 1, by simpa using ha, by simpa using h1, fun j hj hja => ?_⟩
      cases j with
      | zero=>exact e
      | succ j=>simpa using h2 j (by simpa using hj) (by omega)
theorem PathP.mono {P:List AP} {k k' g:Nat} (h:PathP P k g) (hk:k ≤ k'):PathP P k' g:=⟨h.nd,fun p hp=>(h.sz p hp).mono hk,h.len,h.lt,h.pos⟩
theorem PathP.snoc {P:List AP} {k g:Nat} (h:PathP P k g) {f:Nat} {q:Rat} {ok:Bool} (hf:∀ p ∈ P,p.1 ≠ f) (hq:SzQ q k) (hq0:0 < q) (hl:P.length < 20) (hfg:f < g):PathP (P ++ [(f,q,ok)]) k g:=by
 have hp:(P ++ [((f,q,ok):AP)]).Perm ((f,q,ok) :: P):=List.perm_append_comm.trans (List.Perm.refl _)
 have hmem:∀ p ∈ P ++ [((f,q,ok):AP)],p=(f,q,ok) ∨ p ∈ P:=fun p hp=>by
   rcases List.mem_append.1 hp with h | h
   · exact .inr h
   · exact .inl (List.mem_singleton.1 h)
 refine ⟨?_,fun p hp=>?_,by rw [List.length_append];simp;omega,fun p hp=>?_,fun p hp=>?_⟩
 · rw [(hp.map (·.1)).nodup_iff]
   refine List.nodup_cons.2 ⟨fun hm=>?_,h.nd⟩
   obtain ⟨p,hp,e⟩:=List.mem_map.1 hm
   exact hf p hp e
 · rcases hmem p hp with rfl | h'
   · exact hq
   · exact h.sz p h'
 · rcases hmem p hp with rfl | h'
   · exact hfg
   · exact h.lt p h'
 · rcases hmem p hp with rfl | h'
   · exact hq0
   · exact h.pos p h'
theorem join_ok {P w:List AP} {m g:Nat} (h:PathP P (8 * m+1) g) (hw:P.Perm w) (hs:SortA w) {f:Nat} {q:Rat} {ok:Bool} (hf:f < g) (hg:g < 1000000) (hq:SzQ q 8) (hq0:0 < q) (hl:P.length ≤ m) (hm:m < 8)
   (at0:Int) (b1:Bool) (b2 b3:List Int) :
   ∃ P',P'.Perm (along f q ok w)∧PathP P' (8 * (m+1)+1) g∧P'.length ≤ m+1 ∧
     pathshap_place_join at0 b1 b2 b3 (f:Int) (canQ q).1.1 (canQ q).1.2 (canQ q).2 ok (encK P (wtP P))=some (at0,b1,b2,b3,(f:Int),(canQ q).1.1,(canQ q).1.2,(canQ q).2,ok,encK P' (wtP P')):=by
 have c0:¬ (f:Int) < 0:=by omega
 rcases find_ix (P:=P) (f:=f) with hn | ⟨a,ha,he,hn⟩
 · have h1 := h.mono (show 8 * m + 1 ≤ 8 * (m + 1) + 1 by omega)
   have hq1:=hq.mono (show 8 ≤ 8 * (m+1)+1 by omega)
   refine ⟨P ++ [(f,q,ok)],?_,h1.snoc hn hq1 hq0 (by omega) hf,by rw [List.length_append];simp;omega,?_⟩
   · have hn2 : ∀ p ∈ w, p.1 ≠ f := fun p hp => hn p (hw.symm.mem_iff.1 hp)
     have:(P ++ [((f,q,ok):AP)]).Perm ((f,q,ok) :: P):=List.perm_append_comm.trans (List.Perm.refl _)
     exact (this.trans (List.Perm.cons _ hw)).trans (along_new hn2).symm
   · have he := Extend_ok h1 (f := f) (q := q) (ok := ok) hn hq1 hq0 (by omega) (by omega) (by omega)
     rw [pathshap_place_join,cnd' c0,Find_not hn (by omega),Option.bind_some]
     dsimp only
     rw [cnd' (by omega)]
     show (pathshap_Path_Extend (f:Int) (canQ q) ok (encK P (wtP P))).bind _=_
     rw [he];rfl
 · have ho := (h.out ha).mono (show 8 * m + 1 ≤ 8 * (m + 1) + 1 by omega)
   have hno:=h.notin ha
   rw [he] at hno
   have hz:SzQ P[a].2.1 (8 * m+1):=h.sz _ (List.getElem_mem ha)
   have hz0:0 < P[a].2.1:=h.pos _ (List.getElem_mem ha)
   have hq1:SzQ (q * P[a].2.1) (8 * (m+1)+1):=(hq.mul hz).mono (by omega)
   have hqz:0 < q * P[a].2.1:=Rat.mul_pos hq0 hz0
   have hol:=outP1_len ha
   have hm1:=ratio_Mul_ok (hq.sm (by omega)) (hz.sm (by omega))
   rw [rv_canQ,rv_canQ] at hm1
   have hm1:ratio_Mul (((canQ q).1.1,(canQ q).1.2),(canQ q).2) (canQ P[a].2.1)=some (canQ (q * P[a].2.1)):=hm1
   refine ⟨outP1 P a ++ [(f,q * P[a].2.1,P[a].2.2 && ok)],?_,ho.snoc hno hq1 hqz (by omega) hf,by rw [List.length_append];simp;omega,?_⟩
   · have hmem : (f, P[a].2.1, P[a].2.2) ∈ w := by
      have:(P[a]:AP)=(f,P[a].2.1,P[a].2.2):=by rw [← he]
      rw [← this]
      exact hw.mem_iff.1 (List.getElem_mem ha)
     obtain ⟨r,r1,r2⟩:=along_old (q:=q) (ok:=ok) hs hmem
     have e1:(P[a]:AP)=(f,P[a].2.1,P[a].2.2):=by rw [← he]
     have p1:((f,P[a].2.1,P[a].2.2) :: outP1 P a).Perm ((f,P[a].2.1,P[a].2.2) :: r):=by
      have:=outP1_perm ha
      rw [e1] at this
      exact (this.symm.trans hw).trans r1
     have p2:=List.Perm.cons_inv p1
     have p3:(outP1 P a ++ [((f,q * P[a].2.1,P[a].2.2 && ok):AP)]).Perm ((f,q * P[a].2.1,P[a].2.2 && ok) :: outP1 P a):=List.perm_append_comm.trans (List.Perm.refl _)
     refine (p3.trans ?_).trans r2.symm
     rw [Rat.mul_comm]
     exact List.Perm.cons _ p2
   · have hE := Extend_ok ho (f := f) (q := q * P[a].2.1) (ok := P[a].2.2 && ok) hno hq1 hqz (by omega) (by omega) (by omega)
     have hU:=Unwind_ok h (by omega) ha
     have c1:((a+1:Nat):Int) > 0:=by omega
     have i1:isub .i64 ((a+1:Nat):Int) 1=(a:Int):=by rw [isub_i (by omega) (by omega)];omega
     have d1:(0:Int) ≤ (a:Int):=by omega
     have d2:(a:Int) < ((encW P).length:Int):=by rw [encW_len];omega
     have g1:(encW P)[a]?=some (encP P[a]):=by simp [encW,ha]
     rw [pathshap_place_join,cnd' c0,Find_at ha he hn (by omega),Option.bind_some]
     dsimp only
     rw [cnd c1,Parts15_ok (by omega),Option.bind_some,i1]
     dsimp only
     rw [cnd2 d1 d2,Int.toNat_natCast,g1,Option.bind_some]
     show (ratio_Mul (((canQ q).1.1,(canQ q).1.2),(canQ q).2) (canQ P[a].2.1)).bind _=_
     rw [hm1,Option.bind_some]
     cases ok with
     | true =>
      rw [Bool.and_true] at hE ⊢
      rw [cond_true,hU,Option.bind_some]
      dsimp only
      show (pathshap_Path_Extend (f:Int) (canQ (q * P[a].2.1)) P[a].2.2 _).bind _=_
      rw [hE];rfl
     | false =>
      rw [Bool.and_false] at hE ⊢
      rw [cond_false,hU,Option.bind_some]
      dsimp only
      rw [hE];rfl
end Go.Proofs.YthcpiofmhkhbeaaGreatDoor.X
