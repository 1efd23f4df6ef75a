/- Own work: part of the proof; the first line of each part says what it tells. -/
import Derived.Test.YtaonkcmflkmncaaGreatDoorLd7


namespace Go.Proofs.YtaonkcmflkmncaaGreatDoor.X
open Go
set_option linter.unusedVariables false
set_option linter.unusedSimpArgs false
def kids (t : List NODE) (i : Nat) : List Nat :=
 match t[i]? with
 | some n => if nLeaf n then [] else [(nL n).toNat, (nR n).toNat]
 | none => []
theorem kids_leaf {t : List NODE} {i : Nat} (h : i < t.length) (hl : nLeaf t[i] = true) : kids t i = [] := by
 have hl' : t[i].1 = true := hl
 simp [kids, h, hl']
theorem kids_split {t : List NODE} {i : Nat} (h : i < t.length) (hl : nLeaf t[i] = false) : kids t i = [(nL t[i]).toNat, (nR t[i]).toNat] := by
 have hl' : t[i].1 = false := hl
 simp [kids, h, hl']
def cnt (t : List NODE) (i j : Nat) : Nat := ((List.range i).flatMap (kids t)).count j
theorem cnt_zero (t : List NODE) (j : Nat) : cnt t 0 j = 0 := by simp [cnt]
theorem cnt_succ (t : List NODE) (i j : Nat) : cnt t (i + 1) j = cnt t i j + (kids t i).count j := by
 simp [cnt, List.range_succ, List.flatMap_append]
theorem cnt_le (t : List NODE) (i j : Nat) : cnt t i j ≤ 2 * i := by
 induction i with
 | zero => simp [cnt_zero]
 | succ i ih =>
  rw [cnt_succ]
  have h1 : (kids t i).count j ≤ (kids t i).length := List.count_le_length
  have h2 : (kids t i).length ≤ 2 := by
   unfold kids
   split
   · split <;> simp
   · simp
  omega
def Ranked (t : List NODE) : Prop := ∃ rk : Nat → Nat, ∀ i, i < t.length → rk i ≤ t.length ∧ ∀ c ∈ kids t i, rk c < rk i
def ShapeP (t : List NODE) : Prop := (∀ j, 0 < j → j < t.length → cnt t t.length j = 1) ∧ Ranked t
theorem nodup_len : ∀ {n : Nat} {V : List Nat}, V.Nodup → (∀ x ∈ V, x < n) → V.length ≤ n
 | 0, V, _, h => by
  cases V with
  | nil => simp
  | cons x V => have := h x List.mem_cons_self; omega
 | n + 1, V, hnd, h => by
  by_cases hm : n ∈ V
  · have h1 : (V.erase n).Nodup := hnd.sublist List.erase_sublist
    have h2 : ∀ x ∈ V.erase n, x < n := by
     intro x hx
     have := (List.Nodup.mem_erase_iff hnd).1 hx
     have := h x this.2
     omega
    have h3 := nodup_len h1 h2
    have h4 := List.length_erase_of_mem hm
    omega
  · have := nodup_len hnd (n := n) (fun x hx => by
     have := h x hx
     have : x ≠ n := fun e => hm (e ▸ hx)
     omega)
    omega
section
variable {t : List NODE} {f : Int}
theorem kids_lt (hr : RangesP t f) {i c : Nat} (hi : i < t.length) (hc : c ∈ kids t i) : 0 < c ∧ c < t.length := by
 cases hl : nLeaf t[i] with
 | true => rw [kids_leaf hi hl] at hc; cases hc
 | false =>
  obtain ⟨_, _, h1, h2, h3, h4⟩ := hr i hi hl
  rw [kids_split hi hl] at hc
  simp at hc
  rcases hc with rfl | rfl <;> omega
theorem cnt_split (t : List NODE) (j : Nat) {a n : Nat} (ha : a < n) : (kids t a).count j ≤ cnt t n j := by
 induction n with
 | zero => omega
 | succ n ih =>
  rw [cnt_succ]
  by_cases e : a = n
  · subst e; omega
  · have := ih (by omega); omega
theorem cnt_two (t : List NODE) (j : Nat) {a b n : Nat} (hab : a < b) (hb : b < n) : (kids t a).count j + (kids t b).count j ≤ cnt t n j := by
 induction n with
 | zero => omega
 | succ n ih =>
  rw [cnt_succ]
  by_cases e : b = n
  · subst e
    have := cnt_split t j hab
    omega
  · have := ih (by omega); omega
theorem parent_one (hc : ∀ j, 0 < j → j < t.length → cnt t t.length j = 1) (hr : RangesP t f) {a b j : Nat} (ha : a < t.length) (hb : b < t.length) (h1 : j ∈ kids t a) (h2 : j ∈ kids t b) : a = b := by
 obtain ⟨j0, jl⟩ := kids_lt hr ha h1
 have c1 := List.count_pos_iff.2 h1
 have c2 := List.count_pos_iff.2 h2
 have := hc j j0 jl
 rcases Nat.lt_trichotomy a b with h | h | h
 · have := cnt_two t j h hb; omega
 · exact h
 · have := cnt_two t j h ha; omega
theorem kids_nodup (hc : ∀ j, 0 < j → j < t.length → cnt t t.length j = 1) (hr : RangesP t f) {a : Nat} (ha : a < t.length) : (kids t a).Nodup := by
 rw [List.nodup_iff_count]
 intro j
 by_cases hj : j ∈ kids t a
 · obtain ⟨j0, jl⟩ := kids_lt hr ha hj
   have h1 := cnt_split t j ha
   have h2 := hc j j0 jl
   exact Nat.le_trans h1 (Nat.le_of_eq h2)
 · rw [List.count_eq_zero_of_not_mem hj]; omega
theorem has_parent (hc : ∀ j, 0 < j → j < t.length → cnt t t.length j = 1) {j : Nat} (h0 : 0 < j) (hj : j < t.length) : ∃ p, p < t.length ∧ j ∈ kids t p := by
 have h1 := hc j h0 hj
 have h2 : j ∈ (List.range t.length).flatMap (kids t) := List.count_pos_iff.1 (by rw [← cnt, h1]; omega)
 obtain ⟨p, hp, hm⟩ := List.mem_flatMap.1 h2
 exact ⟨p, by simpa using hp, hm⟩
end
structure Srch (t : List NODE) (V S : List Nat) : Prop where
 nd : (V ++ S).Nodup
 lt : ∀ x ∈ V ++ S, x < t.length
 par : ∀ c ∈ V ++ S, c ≠ 0 → ∃ p ∈ V, c ∈ kids t p
 kid : ∀ p ∈ V, ∀ c ∈ kids t p, c ∈ V ++ S
 root : 0 ∈ V ++ S
 ord : V.Pairwise fun a b => a ∉ kids t b
 self : ∀ x ∈ V, x ∉ kids t x
theorem Srch.init {t : List NODE} (h : 0 < t.length) : Srch t [] [0] where
 nd := by simp
 lt := by simpa using h
 par := by simp
 kid := by simp
 root := by simp
 ord := List.Pairwise.nil
 self := by simp
theorem Srch.step {t : List NODE} {f : Int} (hc : ∀ j, 0 < j → j < t.length → cnt t t.length j = 1) (hr : RangesP t f) {V S : List Nat} {x : Nat} (h : Srch t V (S ++ [x])) : Srch t (V ++ [x]) (S ++ kids t x) := by
 have hxlt : x < t.length := h.lt x (by simp)
 have hnd := h.nd
 rw [← List.append_assoc, List.nodup_append] at hnd
 obtain ⟨n1, n2, n3⟩ := hnd
 have hxVS : x ∉ V ++ S := fun hx => n3 x hx x (by simp) rfl
 have hnew : ∀ c ∈ kids t x, c ∉ V ++ (S ++ [x]) := by
   intro c hcx hmem
   obtain ⟨c0, cl⟩ := kids_lt hr hxlt hcx
   obtain ⟨p, hp, hcp⟩ := h.par c hmem (by omega)
   have := parent_one hc hr (h.lt p (List.mem_append_left _ hp)) hxlt hcp hcx
   subst this
   exact hxVS (List.mem_append_left _ hp)
 have hperm : ((V ++ [x]) ++ (S ++ kids t x)).Perm ((V ++ (S ++ [x])) ++ kids t x) := by
   have e1 : (V ++ [x]) ++ (S ++ kids t x) = V ++ ([x] ++ S) ++ kids t x := by simp
   have e2 : (V ++ (S ++ [x])) ++ kids t x = V ++ (S ++ [x]) ++ kids t x := rfl
   rw [e1, e2]
   exact List.Perm.append_right _ (List.Perm.append_left _ List.perm_append_comm)
 have hmem : ∀ y, y ∈ (V ++ [x]) ++ (S ++ kids t x) ↔ y ∈ V ++ (S ++ [x]) ∨ y ∈ kids t x := by
   intro y; rw [hperm.mem_iff, List.mem_append]
 refine ⟨?_, ?_, ?_, ?_, ?_, ?_, ?_⟩
 · rw [hperm.nodup_iff, List.nodup_append]
   exact ⟨h.nd, kids_nodup hc hr hxlt, fun a ha b hb e => hnew b hb (e ▸ ha)⟩
 · intro y hy
   rcases (hmem y).1 hy with hy | hy
   · exact h.lt y hy
   · exact (kids_lt hr hxlt hy).2
 · intro c hcm hc0
   rcases (hmem c).1 hcm with hy | hy
   · obtain ⟨p, hp, hcp⟩ := h.par c hy hc0
     exact ⟨p, List.mem_append_left _ hp, hcp⟩
   · exact ⟨x, by simp, hy⟩
 · intro p hp c hcp
   rw [hmem]
   rcases List.mem_append.1 hp with hp | hp
   · exact .inl (h.kid p hp c hcp)
   · simp at hp; subst hp; exact .inr hcp
 · rw [hmem]; exact .inl h.root
 · rw [List.pairwise_append]
   refine ⟨h.ord, by simp, fun a ha b hb => ?_⟩
   simp at hb; subst hb
   intro hak
   exact hnew a hak (List.mem_append_left _ ha)
 · intro y hy
   rcases List.mem_append.1 hy with hy | hy
   · exact h.self y hy
   · simp at hy; subst hy
     intro hk
     exact hnew y hk (by simp)
theorem Srch.ranked {t : List NODE} {V : List Nat} (h : Srch t V []) (hall : ∀ i, i < t.length → i ∈ V) : Ranked t := by
 have hnd : V.Nodup := by simpa using h.nd
 have hlen : V.length ≤ t.length := nodup_len hnd (fun x hx => h.lt x (by simpa using hx))
 refine ⟨fun i => V.length - V.idxOf i, fun i hi => ⟨by show V.length - V.idxOf i ≤ t.length; omega, fun c hc => ?_⟩⟩
 have hiV := hall i hi
 have hcV : c ∈ V := by simpa using h.kid i hiV c hc
 have h1 : V.idxOf i < V.length := List.idxOf_lt_length_iff.2 hiV
 have h2 : V.idxOf c < V.length := List.idxOf_lt_length_iff.2 hcV
 have g1 : V[V.idxOf i] = i := List.getElem_idxOf h1
 have g2 : V[V.idxOf c] = c := List.getElem_idxOf h2
 have hne : ¬ V.idxOf c ≤ V.idxOf i := by
  intro hle
  by_cases e : V.idxOf c = V.idxOf i
  · have : c = i := by rw [← g1, ← g2]; simp [e]
    subst this
    exact h.self c hiV hc
  · have := List.pairwise_iff_getElem.1 h.ord _ _ h2 h1 (by omega)
    rw [g1, g2] at this
    exact this hc
 show V.length - V.idxOf c < V.length - V.idxOf i
 omega
theorem Srch.all {t : List NODE} {V : List Nat} (h : Srch t V []) (hc : ∀ j, 0 < j → j < t.length → cnt t t.length j = 1) (hrk : Ranked t) : ∀ i, i < t.length → i ∈ V := by
 obtain ⟨rk, hrk⟩ := hrk
 have key : ∀ (d i : Nat), i < t.length → t.length - rk i ≤ d → i ∈ V := by
  intro d
  induction d with
  | zero =>
   intro i hi hd
   by_cases h0 : i = 0
   · subst h0; simpa using h.root
   · obtain ⟨p, hp, hm⟩ := has_parent hc (by omega) hi
     have h1 := (hrk p hp).1
     have h2 := (hrk p hp).2 i hm
     omega
  | succ d ih =>
   intro i hi hd
   by_cases h0 : i = 0
   · subst h0; simpa using h.root
   · obtain ⟨p, hp, hm⟩ := has_parent hc (by omega) hi
     have h1 := (hrk p hp).1
     have h2 := (hrk p hp).2 i hm
     have := ih p hp (by omega)
     simpa using h.kid p this i hm
 exact fun i hi => key _ i hi (Nat.le_refl _)
def cntL (t : List NODE) (i : Nat) : List Int := (List.range t.length).map fun j => ((cnt t i j : Nat) : Int)
@[simp] theorem cntL_len (t : List NODE) (i : Nat) : (cntL t i).length = t.length := by simp [cntL]
theorem cntL_get {t : List NODE} {i j : Nat} (h : j < t.length) : (cntL t i)[j]? = some ((cnt t i j : Nat) : Int) := by simp [cntL, h]
theorem cntL_step {t : List NODE} {i a b : Nat} (ha : a < t.length) (hb : b < t.length) (hk : kids t i = [a, b]) :
   ((cntL t i).set a (((cnt t i a : Nat) : Int) + 1))[b]? = some ((cnt t i b + (if a = b then 1 else 0) : Nat) : Int) ∧
   ((cntL t i).set a (((cnt t i a : Nat) : Int) + 1)).set b (((cnt t i b + (if a = b then 1 else 0) : Nat) : Int) + 1) = cntL t (i + 1) := by
 constructor
 · rw [List.getElem?_set]
   by_cases e : a = b
   · subst e; simp [ha]
   · rw [if_neg e, cntL_get hb]; simp [e]
 · apply List.ext_getElem?
   intro j
   by_cases hj : j < t.length
   · rw [cntL_get hj, cnt_succ, hk, List.getElem?_set, List.getElem?_set]
     by_cases e1 : b = j
     · subst e1
       by_cases e2 : a = b
       · subst e2; simp [ha]; omega
       · simp [hb, e2, List.count_cons]
     · by_cases e2 : a = j
       · subst e2; simp [ha, e1, List.count_cons]
       · rw [if_neg e1, if_neg e2, cntL_get hj]; simp [List.count_cons, e1, e2]
   · rw [List.getElem?_eq_none (by simp; omega), List.getElem?_eq_none (by simp; omega)]
theorem shape_count {t : List NODE} {f : Int} (hl : t.length < 4294967296) (hr : RangesP t f) :
  lp valid_shape_s3 K0 ((t, List.replicate t.length 0, t, ((t.length : Nat) : Int), 0, ()), ()) = some ((t, cntL t t.length, ()), ()) := by
 have e0 : cntL t 0 = List.replicate t.length 0 := by simp [cntL, cnt_zero, List.map_const']
 have := lp_up (step := valid_shape_s3) (fun i => ((t, cntL t i, t, ((t.length : Nat) : Int), (i : Int), ()), ())) t.length (r := ((t, cntL t t.length, ()), ())) (by omega) (by
  intro g i hi
  have d0 : (i : Int) < ((t.length : Nat) : Int) := by omega
  have d1 : (0 : Int) ≤ (i : Int) := by omega
  cases hleaf : nLeaf t[i] with
  | true =>
   have : cntL t (i + 1) = cntL t i := by
    unfold cntL
    congr 1
    funext j
    rw [cnt_succ, kids_leaf hi hleaf]; simp
   rw [valid_shape_s3, cnd d0, cnd d1, Int.toNat_natCast, List.getElem?_eq_getElem hi, Option.bind_some, show t[i].1 = true from hleaf, iadd1 (by omega), this]
   rfl
  | false =>
   obtain ⟨r1, r2, r3, r4, r5, r6⟩ := hr i hi hleaf
   have hk := kids_split hi hleaf
   have l1 : (nL t[i]).toNat < t.length := by omega
   have l2 : (nR t[i]).toNat < t.length := by omega
   have c1 : (0 : Int) ≤ nL t[i] := by omega
   have c2 : (0 : Int) ≤ nR t[i] := by omega
   have c3 : nL t[i] < ((cntL t i).length : Int) := by rw [cntL_len]; omega
   obtain ⟨s1, s2⟩ := cntL_step l1 l2 hk
   have b1 := cnt_le t i (nL t[i]).toNat
   have b2 := cnt_le t i (nR t[i]).toNat
   have e1 : iadd .i64 ((cnt t i (nL t[i]).toNat : Nat) : Int) 1 = ((cnt t i (nL t[i]).toNat : Nat) : Int) + 1 := iadd1 (by omega)
   have e2 : iadd .i64 ((cnt t i (nR t[i]).toNat + (if (nL t[i]).toNat = (nR t[i]).toNat then 1 else 0) : Nat) : Int) 1 = ((cnt t i (nR t[i]).toNat + (if (nL t[i]).toNat = (nR t[i]).toNat then 1 else 0) : Nat) : Int) + 1 := iadd1 (by split <;> omega)
   have c4 : nR t[i] < (((cntL t i).set (nL t[i]).toNat (((cnt t i (nL t[i]).toNat : Nat) : Int) + 1)).length : Int) := by rw [List.length_set, cntL_len]; omega
   rw [valid_shape_s3, cnd d0, cnd d1, Int.toNat_natCast, List.getElem?_eq_getElem hi, Option.bind_some, show t[i].1 = false from hleaf, Bool.not_false, cond_true, cnd2 c1 c3, cntL_get l1, Option.bind_some, cnd2 c1 c3, Option.bind_some, e1, cnd2 c2 c4, s1, Option.bind_some, cnd2 c2 c4, Option.bind_some, e2, s2, iadd1 (by omega)]
   rfl) (by
  intro g
  rw [valid_shape_s3, cnd' (by omega)])
 rw [← e0]
 exact this
theorem shape_search {t : List NODE} {f : Int} (hl : t.length < 4294967296) (h0 : 0 < t.length) (hr : RangesP t f) (hc : ∀ j, 0 < j → j < t.length → cnt t t.length j = 1) :
  ∃ V, Srch t V [] ∧ lp valid_shape_s17 K0 ((t, List.replicate t.length false, [0], ()), ()) = some ((usedOf t.length V, ()), ()) := by
 obtain ⟨r, ⟨V, hV, rfl⟩, hlp⟩ := lp_wf (step := valid_shape_s17) (fun s => ∃ V S : List Nat, Srch t V S ∧ s = ((t, usedOf t.length V, ints S, ()), ())) (fun s => t.length + 1 - (s.1.2.1.filter id).length)
  (fun r => ∃ V, Srch t V [] ∧ r = ((usedOf t.length V, ()), ())) (v := ((t, List.replicate t.length false, [0], ()), ()))
  ⟨[], [0], Srch.init h0, by simp [usedOf, ints, List.map_const']⟩ (by simp; omega) (by
   rintro s ⟨V, S, hS, rfl⟩
   rcases List.eq_nil_or_concat S with rfl | ⟨S', x, hSx⟩
   · exact .inl ⟨_, ⟨V, hS, rfl⟩, fun g => by rw [valid_shape_s17, cnd' (by simp [ints])]⟩
   · rw [List.concat_eq_append] at hSx
     subst hSx
     have hnd := hS.nd
     have hVl : (V ++ (S' ++ [x])).length ≤ t.length := nodup_len hnd hS.lt
     have hSl : S'.length + 1 ≤ t.length := by simp at hVl; omega
     have hxlt : x < t.length := hS.lt x (by simp)
     have hst := Srch.step hc hr hS
     have hxV : x ∉ V := by
       intro hx
       rw [List.nodup_append] at hnd
       exact hnd.2.2 x hx x (by simp) rfl
     have hcount : ∀ U : List Nat, U.Nodup → (∀ y ∈ U, y < t.length) → ((usedOf t.length U).filter id).length = U.length := by
       intro U hU hlt
       have e1 : ((usedOf t.length U).filter id).length = ((List.range t.length).filter fun j => decide (j ∈ U)).length := by
         unfold usedOf
         rw [List.filter_map, List.length_map]; rfl
       rw [e1]
       refine List.Perm.length_eq ?_
       rw [List.perm_iff_count]
       intro a
       have n1 : ((List.range t.length).filter fun j => decide (j ∈ U)).Nodup := List.Nodup.sublist List.filter_sublist List.nodup_range
       have m1 : a ∈ ((List.range t.length).filter fun j => decide (j ∈ U)) ↔ a ∈ U := by
         simp; exact hlt a
       by_cases ha : a ∈ U
       · rw [List.Nodup.count hU, if_pos ha, List.Nodup.count n1, if_pos (m1.2 ha)]
       · rw [List.count_eq_zero_of_not_mem ha, List.count_eq_zero_of_not_mem (fun h => ha (m1.1 h))]
     have hVnd : V.Nodup := (List.nodup_append.1 hnd).1
     have hm1 := hcount V hVnd (fun y hy => hS.lt y (List.mem_append_left _ hy))
     have hVx : (V ++ [x]).Nodup := (List.nodup_append.1 hst.nd).1
     have hm2 := hcount (V ++ [x]) hVx (fun y hy => hst.lt y (List.mem_append_left _ hy))
     refine .inr ⟨_, ⟨V ++ [x], S' ++ kids t x, hst, rfl⟩, ?_, fun g => ?_⟩
     · show t.length + 1 - ((usedOf t.length (V ++ [x])).filter id).length < t.length + 1 - ((usedOf t.length V).filter id).length
       rw [hm1, hm2]
       simp at hVl ⊢; omega
     · have hlen : (ints (S' ++ [x])).length = S'.length + 1 := by simp
       have e1 : isub .i64 ((S'.length + 1 : Nat) : Int) 1 = ((S'.length : Nat) : Int) := by rw [isub_i] <;> omega
       have c0 : ((S'.length + 1 : Nat) : Int) > 0 := by omega
       have c1 : (0 : Int) ≤ ((S'.length : Nat) : Int) := by omega
       have c2 : ((S'.length : Nat) : Int) < ((S'.length + 1 : Nat) : Int) := by omega
       have g1 : (ints (S' ++ [x]))[S'.length]? = some ((x : Nat) : Int) := by simp [ints]
       have c3 : (decide ((0 : Int) ≤ ((S'.length : Nat) : Int)) && decide (((S'.length : Nat) : Int) ≤ ((S'.length : Nat) : Int)) && decide (((S'.length : Nat) : Int) ≤ ((S'.length + 1 : Nat) : Int))) = true := by
         rw [decide_eq_true c1, decide_eq_true (Int.le_refl _), decide_eq_true (Int.le_of_lt c2)]; rfl
       have c4 : (0 : Int) ≤ ((x : Nat) : Int) := by omega
       have c5 : ((x : Nat) : Int) < ((usedOf t.length V).length : Int) := by simp; omega
       have e2 : (((S'.length : Nat) : Int) - 0).toNat = S'.length := by omega
       have e3 : (ints (S' ++ [x])).take S'.length = ints S' := by simp [ints]
       rw [valid_shape_s17, hlen, cnd c0, e1, cnd2 c1 c2, Int.toNat_natCast, g1, Option.bind_some, c3, cond_true, cnd2 c4 c5, Int.toNat_natCast, usedOf_get hxlt, Option.bind_some, cnd c4, List.getElem?_eq_getElem hxlt, Option.bind_some, usedOf_set hxlt, e2, e3]
       cases hleaf : nLeaf t[x] with
       | true =>
         rw [show t[x].1 = true from hleaf, kids_leaf hxlt hleaf, List.append_nil]
         rfl
       | false =>
         obtain ⟨r1, r2, r3, r4, r5, r6⟩ := hr x hxlt hleaf
         have q1 : (((nL t[x]).toNat : Nat) : Int) = nL t[x] := by omega
         have q2 : (((nR t[x]).toNat : Nat) : Int) = nR t[x] := by omega
         have e4 : ints (S' ++ kids t x) = ints S' ++ [nL t[x], nR t[x]] := by
          rw [kids_split hxlt hleaf]
          simp only [ints, List.map_append, List.map_cons, List.map_nil, q1, q2]
         have hb8 : ((ints S').length + 2) * 8 ≤ 140737488355328 := by rw [ints_len]; omega
         rw [show t[x].1 = false from hleaf, blt hb8, cond_true, Bool.not_false, cond_true, e4])
 exact ⟨V, hV, hlp⟩
theorem shape_ok {t : List NODE} {f : Int} (hl : t.length < 4294967296) (h0 : 0 < t.length) (hr : RangesP t f) : ∃ a e, valid_shape t = some (a, e) ∧ (e = 0 ↔ ShapeP t) := by
 have hcount := shape_count hl hr
 have gd : (decide ((t.length : Int) = (t.length : Int)) && decide (0 ≤ (t.length : Int)) && decide (((8 : Nat) : Int) * (t.length : Int) ≤ 281474976710656) && decide ((t.length : Int) ≤ 9223372036854775807)) = true := by
   have h1 : (0 : Int) ≤ (t.length : Int) := by omega
   have h2 : ((8 : Nat) : Int) * (t.length : Int) ≤ 281474976710656 := by omega
   have h3 : (t.length : Int) ≤ 9223372036854775807 := by omega
   rw [decide_eq_true h1, decide_eq_true h2, decide_eq_true h3, decide_eq_true rfl]; rfl
 have gd1 : (decide ((t.length : Int) = (t.length : Int)) && decide (0 ≤ (t.length : Int)) && decide (((1 : Nat) : Int) * (t.length : Int) ≤ 281474976710656) && decide ((t.length : Int) ≤ 9223372036854775807)) = true := by
   have h1 : (0 : Int) ≤ (t.length : Int) := by omega
   have h2 : ((1 : Nat) : Int) * (t.length : Int) ≤ 281474976710656 := by omega
   have h3 : (t.length : Int) ≤ 9223372036854775807 := by omega
   rw [decide_eq_true h1, decide_eq_true h2, decide_eq_true h3, decide_eq_true rfl]; rfl
 rw [valid_shape, gd, cond_true, Int.toNat_natCast, hcount, Option.bind_some, cntL_len]
 rcases lp_all (step := valid_shape_s10) (fun i => ((t, cntL t t.length, ((t.length : Nat) : Int), (i : Int), ()), ())) t.length (fun i => i = 0 ∨ cnt t t.length i = 1) (fun i => .inr (((i : Int), 11, ()), ())) (.inl ((t, ()), ())) (by omega) (by
     intro i hi
     have d0 : (i : Int) < ((t.length : Nat) : Int) := by omega
     have d1 : (0 : Int) ≤ (i : Int) := by omega
     have d2 : (i : Int) < ((cntL t t.length).length : Int) := by rw [cntL_len]; omega
     by_cases hi0 : i = 0
     · refine .inl ⟨.inl hi0, fun g => ?_⟩
       rw [valid_shape_s10, cnd d0, cnd2 d1 d2, Int.toNat_natCast, cntL_get hi, Option.bind_some, cnd' (by omega), iadd1 (by omega)]
       rfl
     · by_cases h1 : cnt t t.length i = 1
       · refine .inl ⟨.inr h1, fun g => ?_⟩
         rw [valid_shape_s10, cnd d0, cnd2 d1 d2, Int.toNat_natCast, cntL_get hi, Option.bind_some, cnd (by omega), decide_eq_true (by omega), iadd1 (by omega)]
         rfl
       · refine .inr ⟨fun h => by rcases h with h | h <;> contradiction, fun g => ?_⟩
         rw [valid_shape_s10, cnd d0, cnd2 d1 d2, Int.toNat_natCast, cntL_get hi, Option.bind_some, cnd (by omega), decide_eq_false (by omega)]
         rfl) (by
     intro g
     rw [valid_shape_s10, cnd' (by omega)]) with ⟨h, hlp⟩ | ⟨i, hi, h, hlp⟩
 · have hlp : lp valid_shape_s10 K0 ((t, cntL t t.length, ((t.length : Nat) : Int), 0, ()), ()) = some (.inl ((t, ()), ())) := hlp
   have hc : ∀ j, 0 < j → j < t.length → cnt t t.length j = 1 := fun j h1 h2 => by
     rcases h j h2 with h3 | h3
     · omega
     · exact h3
   obtain ⟨V, hV, hlp2⟩ := shape_search hl h0 hr hc
   rw [hlp, Option.bind_some]
   dsimp only
   rw [gd1, cond_true, Int.toNat_natCast, hlp2, Option.bind_some]
   dsimp only
   rw [usedOf_len]
   rcases lp_all (step := valid_shape_s25) (fun i => ((usedOf t.length V, ((t.length : Nat) : Int), (i : Int), ()), ())) t.length (fun i => i ∈ V) (fun i => .inr (((i : Int), 11, ()), ())) (.inl ((), ())) (by omega) (by
       intro i hi
       have d0 : (i : Int) < ((t.length : Nat) : Int) := by omega
       have d1 : (0 : Int) ≤ (i : Int) := by omega
       have d2 : (i : Int) < ((usedOf t.length V).length : Int) := by rw [usedOf_len]; omega
       by_cases hiV : i ∈ V
       · refine .inl ⟨hiV, fun g => ?_⟩
         rw [valid_shape_s25, cnd d0, cnd2 d1 d2, Int.toNat_natCast, usedOf_get hi, Option.bind_some, decide_eq_true hiV, iadd1 (by omega)]
         rfl
       · refine .inr ⟨hiV, fun g => ?_⟩
         rw [valid_shape_s25, cnd d0, cnd2 d1 d2, Int.toNat_natCast, usedOf_get hi, Option.bind_some, decide_eq_false hiV]
         rfl) (by
       intro g
       rw [valid_shape_s25, cnd' (by omega)]) with ⟨h2, hlp3⟩ | ⟨i, hi, h2, hlp3⟩
   · have hlp3 : lp valid_shape_s25 K0 ((usedOf t.length V, ((t.length : Nat) : Int), 0, ()), ()) = some (.inl ((), ())) := hlp3
     rw [hlp3]
     exact ⟨0, 0, rfl, fun _ => ⟨hc, hV.ranked h2⟩, fun _ => rfl⟩
   · have hlp3 : lp valid_shape_s25 K0 ((usedOf t.length V, ((t.length : Nat) : Int), 0, ()), ()) = some (.inr (((i : Int), 11, ()), ())) := hlp3
     rw [hlp3]
     exact ⟨(i : Int), 11, rfl, fun e => (by cases e), fun hp => absurd (hV.all hc hp.2 i hi) h2⟩
 · have hlp : lp valid_shape_s10 K0 ((t, cntL t t.length, ((t.length : Nat) : Int), 0, ()), ()) = some (.inr (((i : Int), 11, ()), ())) := hlp
   rw [hlp]
   refine ⟨(i : Int), 11, rfl, fun e => (by cases e), fun hp => ?_⟩
   exfalso; apply h
   by_cases hi0 : i = 0
   · exact .inl hi0
   · exact .inr (hp.1 i (by omega) hi)
theorem lp_allh' {V T : Type} {step : (V → Option T) → V → Option T} (f : Nat → V) (n : Nat) (ok : Nat → Prop) (Q : T → Prop) (fin : T)
  (hs : ∀ i, i < n → (∀ j, j < i → ok j) → (ok i ∧ ∀ g, step g (f i) = g (f (i + 1))) ∨ (¬ ok i ∧ ∃ r, Q r ∧ ∀ g, step g (f i) = some r)) (he : ∀ g, step g (f n) = some fin) :
  ∀ (d i m : Nat), i + d = n → d < m → (∀ j, j < i → ok j) → ((∀ i, i < n → ok i) ∧ lp step m (f i) = some fin) ∨ (¬ (∀ i, i < n → ok i) ∧ ∃ r, Q r ∧ lp step m (f i) = some r) := by
 intro d
 induction d with
 | zero =>
  intro i m hi hm hok
  obtain ⟨m, rfl⟩ : ∃ k, m = k + 1 := ⟨m - 1, by omega⟩
  have : i = n := by omega
  subst this
  exact .inl ⟨hok, he _⟩
 | succ d ih =>
  intro i m hi hm hok
  obtain ⟨m, rfl⟩ : ∃ k, m = k + 1 := ⟨m - 1, by omega⟩
  rcases hs i (by omega) hok with ⟨h1, h2⟩ | ⟨h1, r, h2, h3⟩
  · have := ih (i + 1) m (by omega) (by omega) (fun j hj => by
     by_cases e : j = i
     · subst e; exact h1
     · exact hok j (by omega))
    have e : lp step (m + 1) (f i) = lp step m (f (i + 1)) := h2 _
    rw [e]; exact this
  · exact .inr ⟨fun h => h1 (h i (by omega)), r, h2, h3 _⟩
theorem lp_allh {V T : Type} {step : (V → Option T) → V → Option T} (f : Nat → V) (n : Nat) (ok : Nat → Prop) (Q : T → Prop) (fin : T) (hn : n < 18446744073709551616)
  (hs : ∀ i, i < n → (∀ j, j < i → ok j) → (ok i ∧ ∀ g, step g (f i) = g (f (i + 1))) ∨ (¬ ok i ∧ ∃ r, Q r ∧ ∀ g, step g (f i) = some r)) (he : ∀ g, step g (f n) = some fin) :
  ((∀ i, i < n → ok i) ∧ lp step K0 (f 0) = some fin) ∨ (¬ (∀ i, i < n → ok i) ∧ ∃ r, Q r ∧ lp step K0 (f 0) = some r) :=
 lp_allh' f n ok Q fin hs he n 0 K0 (by omega) hn (fun j h => by omega)
def NodeFits (n : NODE) : Prop := 0 ≤ nFeat n ∧ nFeat n ≤ 64 ∧ 0 ≤ nL n ∧ nL n ≤ 255 ∧ 0 ≤ nR n ∧ nR n ≤ 255
def TreeFits (t : List NODE) : Prop := 1 ≤ t.length ∧ t.length ≤ 255 ∧ ∀ i (h : i < t.length), NodeFits t[i]
def FitsP (m : MODEL) : Prop := 0 ≤ m.1 ∧ m.1 ≤ 64 ∧ m.2.length ≤ 64 ∧ ∀ i (h : i < m.2.length), TreeFits m.2[i]
theorem fits_inner (a : List (List NODE)) (b c : Int) {t : List NODE} (hl : t.length < 4294967296) :
   ((∀ i (h : i < t.length), NodeFits t[i]) ∧ lp model_Fits_s9 K0 ((a, b, c, t, ((t.length : Nat) : Int), 0, ()), ()) = some (.inl ((a, b, c, ()), ()))) ∨
   (¬ (∀ i (h : i < t.length), NodeFits t[i]) ∧ lp model_Fits_s9 K0 ((a, b, c, t, ((t.length : Nat) : Int), 0, ()), ()) = some (.inr ((false, ()), ()))) := by
 rcases lp_all (step := model_Fits_s9) (fun i => ((a, b, c, t, ((t.length : Nat) : Int), (i : Int), ()), ())) t.length (fun i => ∀ h : i < t.length, NodeFits t[i]) (fun i => .inr ((false, ()), ())) (.inl ((a, b, c, ()), ())) (by omega) (by
    intro i hi
    have d0 : (i : Int) < ((t.length : Nat) : Int) := by omega
    have d1 : (0 : Int) ≤ (i : Int) := by omega
    have head : ∀ g, model_Fits_s9 g ((a, b, c, t, ((t.length : Nat) : Int), (i : Int), ()), ()) = bif (decide (nFeat t[i] < 0)) then (some (.inr ((false, ()), ()))) else (bif (decide (nFeat t[i] > 64)) then (some (.inr ((false, ()), ()))) else (bif (decide (nL t[i] < 0)) then (some (.inr ((false, ()), ()))) else (bif (decide (nL t[i] > 255)) then (some (.inr ((false, ()), ()))) else (bif (decide (nR t[i] < 0)) then (some (.inr ((false, ()), ()))) else (bif (decide (nR t[i] > 255)) then (some (.inr ((false, ()), ()))) else (g ((a, b, c, t, ((t.length : Nat) : Int), ((i + 1 : Nat) : Int), ()), ()))))))) := by
      intro g
      rw [model_Fits_s9, cnd d0, cnd d1, Int.toNat_natCast, List.getElem?_eq_getElem hi, Option.bind_some, iadd1 (by omega)]
      rfl
    by_cases h : NodeFits t[i]
    · refine .inl ⟨fun _ => h, fun g => ?_⟩
      obtain ⟨h1, h2, h3, h4, h5, h6⟩ := h
      rw [head, cnd' (by omega), cnd' (by omega), cnd' (by omega), cnd' (by omega), cnd' (by omega), cnd' (by omega)]
    · refine .inr ⟨fun h' => h (h' hi), fun g => ?_⟩
      rw [head]
      by_cases h1 : nFeat t[i] < 0
      · rw [cnd h1]
      by_cases h2 : nFeat t[i] > 64
      · rw [cnd' h1, cnd h2]
      by_cases h3 : nL t[i] < 0
      · rw [cnd' h1, cnd' h2, cnd h3]
      by_cases h4 : nL t[i] > 255
      · rw [cnd' h1, cnd' h2, cnd' h3, cnd h4]
      by_cases h5 : nR t[i] < 0
      · rw [cnd' h1, cnd' h2, cnd' h3, cnd' h4, cnd h5]
      by_cases h6 : nR t[i] > 255
      · rw [cnd' h1, cnd' h2, cnd' h3, cnd' h4, cnd' h5, cnd h6]
      exfalso; apply h; unfold NodeFits; omega) (by
    intro g
    rw [model_Fits_s9, cnd' (by omega)]) with ⟨h, hlp⟩ | ⟨i, hi, h, hlp⟩
 · exact .inl ⟨fun i hi => h i hi hi, hlp⟩
 · exact .inr ⟨fun hh => h (fun hi => hh i hi), hlp⟩
theorem Fits_ok {m : MODEL} (hl : m.2.length < 4294967296) (ht : ∀ t ∈ m.2, t.length < 4294967296) : ∃ b, model_Fits m = some b ∧ (b = true ↔ FitsP m) := by
 unfold model_Fits
 by_cases h1 : m.1 < 0
 · exact ⟨false, by rw [cnd h1], fun h => (by cases h), fun h => by have := h.1; omega⟩
 by_cases h2 : m.1 > 64
 · exact ⟨false, by rw [cnd' h1, cnd h2], fun h => (by cases h), fun h => by have := h.2.1; omega⟩
 by_cases h3 : ((m.2.length : Nat) : Int) > 64
 · exact ⟨false, by rw [cnd' h1, cnd' h2, cnd h3], fun h => (by cases h), fun h => by have := h.2.2.1; omega⟩
 rw [cnd' h1, cnd' h2, cnd' h3]
 rcases lp_all (step := model_Fits_s4) (fun i => ((m.2, ((m.2.length : Nat) : Int), (i : Int), ()), ())) m.2.length (fun i => ∀ h : i < m.2.length, TreeFits m.2[i]) (fun i => .inr ((false, ()), ())) (.inl ((), ())) (by omega) (by
    intro i hi
    have d0 : (i : Int) < ((m.2.length : Nat) : Int) := by omega
    have d1 : (0 : Int) ≤ (i : Int) := by omega
    have hti := ht _ (List.getElem_mem hi)
    by_cases g1 : ((m.2[i].length : Nat) : Int) < 1
    · refine .inr ⟨fun h => by have := (h hi).1; omega, fun g => ?_⟩
      rw [model_Fits_s4, cnd d0, cnd d1, Int.toNat_natCast, List.getElem?_eq_getElem hi, Option.bind_some, cnd g1]
    by_cases g2 : ((m.2[i].length : Nat) : Int) > 255
    · refine .inr ⟨fun h => by have := (h hi).2.1; omega, fun g => ?_⟩
      rw [model_Fits_s4, cnd d0, cnd d1, Int.toNat_natCast, List.getElem?_eq_getElem hi, Option.bind_some, cnd' g1, cnd g2]
    rcases fits_inner m.2 ((m.2.length : Nat) : Int) (i : Int) hti with ⟨h, hlp⟩ | ⟨h, hlp⟩
    · refine .inl ⟨fun _ => ⟨by omega, by omega, h⟩, fun g => ?_⟩
      rw [model_Fits_s4, cnd d0, cnd d1, Int.toNat_natCast, List.getElem?_eq_getElem hi, Option.bind_some, cnd' g1, cnd' g2, hlp, Option.bind_some]
      dsimp only
      rw [iadd1 (by omega)]
      rfl
    · refine .inr ⟨fun hh => h (hh hi).2.2, fun g => ?_⟩
      rw [model_Fits_s4, cnd d0, cnd d1, Int.toNat_natCast, List.getElem?_eq_getElem hi, Option.bind_some, cnd' g1, cnd' g2, hlp, Option.bind_some]) (by
    intro g
    rw [model_Fits_s4, cnd' (by omega)]) with ⟨h, hlp⟩ | ⟨i, hi, h, hlp⟩
 · have hlp : lp model_Fits_s4 K0 ((m.2, ((m.2.length : Nat) : Int), 0, ()), ()) = some (.inl ((), ())) := hlp
   exact ⟨true, by rw [hlp]; rfl, fun _ => ⟨by omega, by omega, by omega, fun i hi => h i hi hi⟩, fun _ => rfl⟩
 · have hlp : lp model_Fits_s4 K0 ((m.2, ((m.2.length : Nat) : Int), 0, ()), ()) = some (.inr ((false, ()), ())) := hlp
   exact ⟨false, by rw [hlp]; rfl, fun h' => (by cases h'), fun hp => absurd (fun hh => hp.2.2.2 i hh) h⟩
def RuleP (f : Int) : Nat → List NODE → Prop
 | 0, t => RangesP t f
 | 1, t => ShapeP t
 | 2, t => CoversP t
 | _, t => SumsP t
def Good (m : MODEL) : Prop := FitsP m ∧ ∀ r, r < 4 → ∀ i (h : i < m.2.length), RuleP m.1 r m.2[i]
theorem Good.ranges {m : MODEL} (h : Good m) {i : Nat} (hi : i < m.2.length) : RangesP m.2[i] m.1 := h.2 0 (by decide) i hi
theorem Good.shape {m : MODEL} (h : Good m) {i : Nat} (hi : i < m.2.length) : ShapeP m.2[i] := h.2 1 (by decide) i hi
theorem Good.covers {m : MODEL} (h : Good m) {i : Nat} (hi : i < m.2.length) : CoversP m.2[i] := h.2 2 (by decide) i hi
def MSz (m : MODEL) (k : Nat) : Prop := ∀ t ∈ m.2, TSz t k
theorem check_inner {m : MODEL} {k : Nat} (hf : FitsP m) (hs : MSz m k) (hk : k < 500000000000) {r : Nat} (hr : r < 4) (hlow : ∀ r', r' < r → ∀ i (h : i < m.2.length), RuleP m.1 r' m.2[i]) (z : Int × Int × Int × Int) :
   ((∀ i (h : i < m.2.length), RuleP m.1 r m.2[i]) ∧ lp valid_Check_s7 K0 (((r : Int), (r : Int), m.2, ((m.2.length : Nat) : Int), 0, ()), ((m.1, m.2, ()), (z.1, z.2.1, z.2.2.1, z.2.2.2, ()), ())) = some (.inl (((r : Int), ()), ((m.1, m.2, ()), (z.1, z.2.1, z.2.2.1, z.2.2.2, ()), ())))) ∨
   (¬ (∀ i (h : i < m.2.length), RuleP m.1 r m.2[i]) ∧ ∃ e a b c, e ≠ 0 ∧ lp valid_Check_s7 K0 (((r : Int), (r : Int), m.2, ((m.2.length : Nat) : Int), 0, ()), ((m.1, m.2, ()), (z.1, z.2.1, z.2.2.1, z.2.2.2, ()), ())) = some (.inr ((), ((e, a, b, c, ()), ())))) := by
 have hlen := hf.2.2.1
 have ans : ∀ i (h : i < m.2.length), ∃ a e, (e = 0 ↔ RuleP m.1 r m.2[i]) ∧ ∀ g, valid_Check_s7 g (((r : Int), (r : Int), m.2, ((m.2.length : Nat) : Int), (i : Int), ()), ((m.1, m.2, ()), (z.1, z.2.1, z.2.2.1, z.2.2.2, ()), ())) =
     bif (!decide (e = 0)) then some (.inr ((), ((e, 0, (i : Int), a, ()), ()))) else g (((r : Int), (r : Int), m.2, ((m.2.length : Nat) : Int), ((i + 1 : Nat) : Int), ()), ((m.1, m.2, ()), (z.1, z.2.1, z.2.2.1, z.2.2.2, ()), ())) := by
   intro i hi
   have d0 : (i : Int) < ((m.2.length : Nat) : Int) := by omega
   have d1 : (0 : Int) ≤ (i : Int) := by omega
   have htf := hf.2.2.2 i hi
   have htl : m.2[i].length < 4294967296 := by have := htf.2.1; omega
   have ht0 : 0 < m.2[i].length := htf.1
   have hts := hs _ (List.getElem_mem hi)
   match r, hr with
   | 0, _ =>
     obtain ⟨a, e, h1, h2⟩ := ranges_ok (f := m.1) htl
     refine ⟨a, e, h2, fun g => ?_⟩
     rw [valid_Check_s7, cnd d0, cnd d1, Int.toNat_natCast, List.getElem?_eq_getElem hi, Option.bind_some, cnd (by rfl), h1, Option.bind_some, iadd1 (by omega)]
     rfl
   | 1, _ =>
     obtain ⟨a, e, h1, h2⟩ := shape_ok htl ht0 (hlow 0 (by decide) i hi)
     refine ⟨a, e, h2, fun g => ?_⟩
     rw [valid_Check_s7, cnd d0, cnd d1, Int.toNat_natCast, List.getElem?_eq_getElem hi, Option.bind_some, cnd' (by decide), cnd (by rfl), h1, Option.bind_some, iadd1 (by omega)]
     rfl
   | 2, _ =>
     obtain ⟨a, e, h1, h2⟩ := covers_ok htl hts (by omega)
     refine ⟨a, e, h2, fun g => ?_⟩
     rw [valid_Check_s7, cnd d0, cnd d1, Int.toNat_natCast, List.getElem?_eq_getElem hi, Option.bind_some, cnd' (by decide), cnd' (by decide), cnd (by rfl), h1, Option.bind_some, iadd1 (by omega)]
     rfl
   | 3, _ =>
     obtain ⟨a, e, h1, h2⟩ := sums_ok htl hts hk (hlow 0 (by decide) i hi)
     refine ⟨a, e, h2, fun g => ?_⟩
     rw [valid_Check_s7, cnd d0, cnd d1, Int.toNat_natCast, List.getElem?_eq_getElem hi, Option.bind_some, cnd' (by decide), cnd' (by decide), cnd' (by decide), cnd (by rfl), h1, Option.bind_some, iadd1 (by omega)]
     rfl
 have ans2 : ∀ i, ∃ a e, ∀ h : i < m.2.length, (e = 0 ↔ RuleP m.1 r m.2[i]) ∧ ∀ g, valid_Check_s7 g (((r : Int), (r : Int), m.2, ((m.2.length : Nat) : Int), (i : Int), ()), ((m.1, m.2, ()), (z.1, z.2.1, z.2.2.1, z.2.2.2, ()), ())) =
     bif (!decide (e = 0)) then some (.inr ((), ((e, 0, (i : Int), a, ()), ()))) else g (((r : Int), (r : Int), m.2, ((m.2.length : Nat) : Int), ((i + 1 : Nat) : Int), ()), ((m.1, m.2, ()), (z.1, z.2.1, z.2.2.1, z.2.2.2, ()), ())) := by
   intro i
   by_cases h : i < m.2.length
   · obtain ⟨a, e, h1, h2⟩ := ans i h
     exact ⟨a, e, fun _ => ⟨h1, h2⟩⟩
   · exact ⟨0, 0, fun h' => absurd h' h⟩
 have A := fun i => (ans2 i).choose
 let E : Nat → Int := fun i => (ans2 i).choose_spec.choose
 have hE : ∀ i (h : i < m.2.length), (E i = 0 ↔ RuleP m.1 r m.2[i]) ∧ ∀ g, valid_Check_s7 g (((r : Int), (r : Int), m.2, ((m.2.length : Nat) : Int), (i : Int), ()), ((m.1, m.2, ()), (z.1, z.2.1, z.2.2.1, z.2.2.2, ()), ())) =
     bif (!decide (E i = 0)) then some (.inr ((), ((E i, 0, (i : Int), (ans2 i).choose, ()), ()))) else g (((r : Int), (r : Int), m.2, ((m.2.length : Nat) : Int), ((i + 1 : Nat) : Int), ()), ((m.1, m.2, ()), (z.1, z.2.1, z.2.2.1, z.2.2.2, ()), ())) := fun i h => (ans2 i).choose_spec.choose_spec h
 rcases lp_all (step := valid_Check_s7) (fun i => (((r : Int), (r : Int), m.2, ((m.2.length : Nat) : Int), (i : Int), ()), ((m.1, m.2, ()), (z.1, z.2.1, z.2.2.1, z.2.2.2, ()), ()))) m.2.length (fun i => E i = 0) (fun i => .inr ((), ((E i, 0, (i : Int), (ans2 i).choose, ()), ()))) (.inl (((r : Int), ()), ((m.1, m.2, ()), (z.1, z.2.1, z.2.2.1, z.2.2.2, ()), ()))) (by omega) (by
     intro i hi
     obtain ⟨h1, h2⟩ := hE i hi
     by_cases h0 : E i = 0
     · exact .inl ⟨h0, fun g => by rw [h2, decide_eq_true h0]; rfl⟩
     · exact .inr ⟨h0, fun g => by rw [h2, decide_eq_false h0]; rfl⟩) (by
     intro g
     rw [valid_Check_s7, cnd' (by omega)]) with ⟨h, hlp⟩ | ⟨i, hi, h, hlp⟩
 · exact .inl ⟨fun i hi => (hE i hi).1.1 (h i hi), hlp⟩
 · exact .inr ⟨fun hh => h ((hE i hi).1.2 (hh i hi)), E i, 0, (i : Int), _, h, hlp⟩
theorem Ok_ok {m : MODEL} {k : Nat} (hl : m.2.length < 4294967296) (ht : ∀ t ∈ m.2, t.length < 4294967296) (hs : MSz m k) (hk : k < 500000000000) : ∃ b, valid_Ok m = some b ∧ (b = true ↔ Good m) := by
 obtain ⟨b, hb, hbf⟩ := Fits_ok hl ht
 cases b with
 | false =>
  have hnf : ¬ FitsP m := fun h => by have := hbf.2 h; cases this
  refine ⟨false, ?_, fun h => (by cases h), fun h => absurd h.1 hnf⟩
  rw [valid_Ok, valid_Check, hb, Option.bind_some]
  rfl
 | true =>
  have hf := hbf.1 rfl
  rcases lp_allh (step := valid_Check_s4) (fun r => (((r : Int), ()), ((m.1, m.2, ()), (0, 0, 0, 0, ()), ()))) 4 (fun r => ∀ i (h : i < m.2.length), RuleP m.1 r m.2[i]) (fun r => ∃ e a b c, e ≠ 0 ∧ r = .inr ((), ((e, a, b, c, ()), ()))) (.inl ((), ((0, 0, 0, 0, ()), ()))) (by omega) (by
     intro r hr hlow
     have d0 : (r : Int) < 4 := by omega
     rcases check_inner hf hs hk hr (fun r' hr' => hlow r' hr') (0, 0, 0, 0) with ⟨h1, h2⟩ | ⟨h1, e, a, b, c, h2, h3⟩
     · refine .inl ⟨h1, fun g => ?_⟩
       rw [valid_Check_s4, cnd d0, h2, Option.bind_some]
       dsimp only
       rw [iadd1 (by omega)]
       rfl
     · refine .inr ⟨h1, _, ⟨e, a, b, c, h2, rfl⟩, fun g => ?_⟩
       rw [valid_Check_s4, cnd d0, h3, Option.bind_some]) (by
     intro g
     rw [valid_Check_s4, cnd' (by decide)]) with ⟨h, hlp⟩ | ⟨h, r, ⟨e, a, b, c, he, rfl⟩, hlp⟩
  · have hlp : lp valid_Check_s4 K0 (((0 : Int), ()), ((m.1, m.2, ()), (0, 0, 0, 0, ()), ())) = _ := hlp
    refine ⟨true, ?_, fun _ => ⟨hf, h⟩, fun _ => rfl⟩
    rw [valid_Ok, valid_Check, hb, Option.bind_some, Bool.not_true, cond_false, hlp]
    rfl
  · have hlp : lp valid_Check_s4 K0 (((0 : Int), ()), ((m.1, m.2, ()), (0, 0, 0, 0, ()), ())) = _ := hlp
    refine ⟨false, ?_, fun h' => (by cases h'), fun hg => absurd hg.2 h⟩
    rw [valid_Ok, valid_Check, hb, Option.bind_some, Bool.not_true, cond_false, hlp, Option.bind_some]
    dsimp only
    rw [Option.bind_some, decide_eq_false he]
    rfl
theorem number07_ok (a : RAT) : dendronlaw07_number a = some (cutR 4 a) := by
 obtain ⟨⟨s, x⟩, y⟩ := a
 unfold dendronlaw07_number cutR
 by_cases h1 : 4 < x.length
 · have c1 : ((x.length : Nat) : Int) > 4 := by omega
   have c2 : (4 : Int) ≤ ((x.length : Nat) : Int) := by omega
   by_cases h2 : 4 < y.length
   · have c3 : ((y.length : Nat) : Int) > 4 := by omega
     have c4 : (4 : Int) ≤ ((y.length : Nat) : Int) := by omega
     rw [cnd c1, cnd c2, cnd c3, cnd c4]
   · have c3 : ¬ ((y.length : Nat) : Int) > 4 := by omega
     rw [cnd c1, cnd c2, cnd' c3, List.take_of_length_le (l := y) (by omega)]
 · have c1 : ¬ ((x.length : Nat) : Int) > 4 := by omega
   by_cases h2 : 4 < y.length
   · have c3 : ((y.length : Nat) : Int) > 4 := by omega
     have c4 : (4 : Int) ≤ ((y.length : Nat) : Int) := by omega
     rw [cnd' c1, cnd c3, cnd c4, List.take_of_length_le (l := x) (by omega)]
   · have c3 : ¬ ((y.length : Nat) : Int) > 4 := by omega
     rw [cnd' c1, cnd' c3, List.take_of_length_le (l := x) (by omega), List.take_of_length_le (l := y) (by omega)]
def cutNode (n : NODE) : NODE := (n.1, n.2.1, cutR 4 n.2.2.1, n.2.2.2.1, n.2.2.2.2.1, n.2.2.2.2.2.1, cutR 4 n.2.2.2.2.2.2.1, cutR 4 n.2.2.2.2.2.2.2)
def cutTree (t : List NODE) : List NODE := (t.take 15).map cutNode
def cutM (m : MODEL) : MODEL := (m.1, (m.2.take 6).map cutTree)
theorem cutNode_sz (n : NODE) : NSz (cutNode n) 4 := ⟨cutR_sz 4 _, cutR_sz 4 _, cutR_sz 4 _⟩
theorem cutTree_sz (t : List NODE) : TSz (cutTree t) 4 := by
 intro n hn
 obtain ⟨x, _, rfl⟩ := List.mem_map.1 hn
 exact cutNode_sz x
theorem cutTree_len (t : List NODE) : (cutTree t).length ≤ 15 := by simp [cutTree]; omega
theorem Few07_inner {m : MODEL} {i : Nat} (hi : i < m.2.length) (hl : m.2[i].length ≤ 9223372036854775807) (hi2 : i < 4611686018427387904) (z w : Int × List (List NODE)) :
  lp dendronlaw07_Few_s7 K0 (((i : Int), [], 0, ()), ((m.1, m.2, ()), (z.1, z.2, ()), (w.1, w.2, ()), ())) = some (((i : Int), cutTree m.2[i], ()), ((m.1, m.2, ()), (z.1, z.2, ()), (w.1, w.2, ()), ())) := by
 have hn : min m.2[i].length 15 ≤ m.2[i].length := Nat.min_le_left _ _
 exact lp_up (step := dendronlaw07_Few_s7) (fun k => (((i : Int), (m.2[i].take k).map cutNode, (k : Int), ()), ((m.1, m.2, ()), (z.1, z.2, ()), (w.1, w.2, ()), ()))) (min m.2[i].length 15) (by omega) (by
  intro g k hk
  have h1 : k < m.2[i].length := by omega
  have d0 : (0 : Int) ≤ (i : Int) := by omega
  have d1 : (k : Int) < ((m.2[i].length : Nat) : Int) := by omega
  have d2 : (k : Int) < 15 := by omega
  have d3 : (0 : Int) ≤ (k : Int) := by omega
  have d4 : (((m.2[i].take k).map cutNode).length + 1) * 208 ≤ 140737488355328 := by simp; omega
  rw [dendronlaw07_Few_s7, cnd d0, Int.toNat_natCast, List.getElem?_eq_getElem hi, Option.bind_some, cnd d1, cnd d2, cnd d0, Option.bind_some, cnd d3, Int.toNat_natCast, List.getElem?_eq_getElem h1, Option.bind_some, number07_ok, Option.bind_some, number07_ok, Option.bind_some, number07_ok, Option.bind_some, blt d4, cond_true, iadd1 (by omega), map_take_succ _ h1]
  rfl) (by
  intro g
  have d0 : (0 : Int) ≤ (i : Int) := by omega
  by_cases h : m.2[i].length ≤ 15
  · have c1 : ¬ ((min m.2[i].length 15 : Nat) : Int) < ((m.2[i].length : Nat) : Int) := by omega
    rw [dendronlaw07_Few_s7, cnd d0, Int.toNat_natCast, List.getElem?_eq_getElem hi, Option.bind_some, cnd' c1, Nat.min_eq_left h, List.take_of_length_le (Nat.le_refl _), cutTree, List.take_of_length_le h]
  · have c1 : ((min m.2[i].length 15 : Nat) : Int) < ((m.2[i].length : Nat) : Int) := by omega
    have c2 : ¬ ((min m.2[i].length 15 : Nat) : Int) < 15 := by omega
    rw [dendronlaw07_Few_s7, cnd d0, Int.toNat_natCast, List.getElem?_eq_getElem hi, Option.bind_some, cnd c1, cnd' c2, Nat.min_eq_right (by omega), cutTree])
theorem Few07_ok (m : MODEL) (hl : m.2.length ≤ 9223372036854775807) (ht : ∀ t ∈ m.2, t.length ≤ 9223372036854775807) : dendronlaw07_Few m = some (cutM m) := by
 have hn : min m.2.length 6 ≤ m.2.length := Nat.min_le_left _ _
 have key := lp_up (step := dendronlaw07_Few_s3) (fun i => (((i : Int), ()), ((m.1, m.2, ()), (0, [], ()), (m.1, (m.2.take i).map cutTree, ()), ()))) (min m.2.length 6) (r := ((), ((0, [], ()), (m.1, (m.2.take 6).map cutTree, ()), ()))) (by omega) (by
  intro g i hi
  have h1 : i < m.2.length := by omega
  have d0 : (i : Int) < ((m.2.length : Nat) : Int) := by omega
  have d1 : (i : Int) < 6 := by omega
  have hin := Few07_inner h1 (ht _ (List.getElem_mem h1)) (by omega) (0, []) (m.1, (m.2.take i).map cutTree)
  have d4 : (((m.2.take i).map cutTree).length + 1) * 24 ≤ 140737488355328 := by simp; omega
  rw [dendronlaw07_Few_s3, cnd d0, cnd d1, hin, Option.bind_some, blt d4, cond_true, iadd1 (by omega), map_take_succ _ h1]
  rfl) (by
  intro g
  by_cases h : m.2.length ≤ 6
  · have c1 : ¬ ((min m.2.length 6 : Nat) : Int) < ((m.2.length : Nat) : Int) := by omega
    rw [dendronlaw07_Few_s3, cnd' c1, Nat.min_eq_left h, List.take_of_length_le (Nat.le_refl _), List.take_of_length_le h]
  · have c1 : ((min m.2.length 6 : Nat) : Int) < ((m.2.length : Nat) : Int) := by omega
    have c2 : ¬ ((min m.2.length 6 : Nat) : Int) < 6 := by omega
    rw [dendronlaw07_Few_s3, cnd c1, cnd' c2, Nat.min_eq_right (by omega)])
 have key' : lp dendronlaw07_Few_s3 K0 ((0, ()), ((m.1, m.2, ()), (0, [], ()), (m.1, [], ()), ())) = _ := key
 rw [dendronlaw07_Few, key']
 rfl
inductive TR where
 | leaf (i : Nat)
 | split (i : Nat) (l r : TR)
def TR.top : TR → Nat
 | .leaf i => i
 | .split i _ _ => i
def TR.size : TR → Nat
 | .leaf _ => 1
 | .split _ l r => 1 + l.size + r.size
def TR.deep : TR → Nat
 | .leaf _ => 1
 | .split _ l r => 1 + max l.deep r.deep
def Is (t : List NODE) (f : Int) : TR → Prop
 | .leaf i => ∃ h : i < t.length, nLeaf t[i] = true
 | .split i l r => ∃ h : i < t.length, nLeaf t[i] = false ∧ 0 ≤ nFeat t[i] ∧ nFeat t[i] < f ∧ nL t[i] = (l.top : Int) ∧ nR t[i] = (r.top : Int) ∧ Is t f l ∧ Is t f r
theorem tree_at {t : List NODE} {f : Int} (hr : RangesP t f) (hrk : Ranked t) : ∀ i, i < t.length → ∃ T, Is t f T ∧ T.top = i ∧ T.deep ≤ t.length + 1 := by
 obtain ⟨rk, hrk⟩ := hrk
 have key : ∀ (d i : Nat), i < t.length → rk i ≤ d → ∃ T, Is t f T ∧ T.top = i ∧ T.deep ≤ rk i + 1 := by
  intro d
  induction d with
  | zero =>
   intro i hi hd
   cases hl : nLeaf t[i] with
   | true => exact ⟨.leaf i, ⟨hi, hl⟩, rfl, by simp [TR.deep]⟩
   | false =>
    have := (hrk i hi).2 (nL t[i]).toNat (by rw [kids_split hi hl]; simp)
    omega
  | succ d ih =>
   intro i hi hd
   cases hl : nLeaf t[i] with
   | true => exact ⟨.leaf i, ⟨hi, hl⟩, rfl, by simp [TR.deep]⟩
   | false =>
    obtain ⟨r1, r2, r3, r4, r5, r6⟩ := hr i hi hl
    have k1 := (hrk i hi).2 (nL t[i]).toNat (by rw [kids_split hi hl]; simp)
    have k2 := (hrk i hi).2 (nR t[i]).toNat (by rw [kids_split hi hl]; simp)
    obtain ⟨L, hL, hLt, hLd⟩ := ih (nL t[i]).toNat (by omega) (by omega)
    obtain ⟨R, hR, hRt, hRd⟩ := ih (nR t[i]).toNat (by omega) (by omega)
    refine ⟨.split i L R, ⟨hi, hl, r1, r2, by rw [hLt]; omega, by rw [hRt]; omega, hL, hR⟩, rfl, ?_⟩
    simp only [TR.deep]
    omega
 intro i hi
 obtain ⟨T, h1, h2, h3⟩ := key (rk i) i hi (Nat.le_refl _)
 have := (hrk i hi).1
 exact ⟨T, h1, h2, by omega⟩
theorem Good.tree {m : MODEL} (h : Good m) {i : Nat} (hi : i < m.2.length) : ∃ T, Is m.2[i] m.1 T ∧ T.top = 0 ∧ T.deep ≤ m.2[i].length + 1 :=
 tree_at (h.ranges hi) (h.shape hi).2 0 (h.1.2.2.2 i hi).1
abbrev zR : RAT := ((false, []), [])
abbrev zN : NODE := (false, 0, zR, 0, 0, false, zR, zR)
def nodeAt (t : List NODE) (i : Nat) : NODE := (t[i]?).getD zN
theorem nodeAt_get {t : List NODE} {i : Nat} (h : i < t.length) : nodeAt t i = t[i] := by simp [nodeAt, h]
def cellAt (row : List CELL) (i : Nat) : CELL := (row[i]?).getD (false, zR)
theorem cellAt_get {row : List CELL} {i : Nat} (h : i < row.length) : cellAt row i = row[i] := by simp [cellAt, h]
def goes (n : NODE) (c : CELL) : Bool := if c.1 then nMiss n else decide (rv c.2 < rv (nCut n))
def goL (t : List NODE) (row : List CELL) (i : Nat) : Bool := goes (nodeAt t i) (cellAt row (nFeat (nodeAt t i)).toNat)
def wayT (t : List NODE) (row : List CELL) : TR → List Nat
 | .leaf i => [i]
 | .split i l r => i :: if goL t row i then wayT t row l else wayT t row r
theorem Is.top_lt {t : List NODE} {f : Int} {T : TR} (h : Is t f T) : T.top < t.length := by
 cases T with
 | leaf i => exact h.1
 | split i l r => exact h.1
theorem TR.size_lt (T : TR) : T.size < 2 ^ T.deep := by
 induction T with
 | leaf i => simp [TR.size, TR.deep]
 | split i l r ihl ihr =>
  simp only [TR.size, TR.deep]
  have h1 : 2 ^ l.deep ≤ 2 ^ max l.deep r.deep := Nat.pow_le_pow_right (by decide) (Nat.le_max_left _ _)
  have h2 : 2 ^ r.deep ≤ 2 ^ max l.deep r.deep := Nat.pow_le_pow_right (by decide) (Nat.le_max_right _ _)
  rw [Nat.add_comm 1 (max l.deep r.deep), Nat.pow_succ]
  omega
theorem TR.size_le {T : TR} (h : T.deep ≤ 16) : T.size < 65536 := by
 have h1 := T.size_lt
 have h2 : 2 ^ T.deep ≤ 2 ^ 16 := Nat.pow_le_pow_right (by decide) h
 omega
theorem TR.deep_pos (T : TR) : 0 < T.deep := by cases T <;> simp [TR.deep] <;> omega
def expT (t : List NODE) (row : List CELL) (set : Nat) : TR → Rat
 | .leaf i => rv (nVal (nodeAt t i))
 | .split i l r => if set.testBit (nFeat (nodeAt t i)).toNat then (if goL t row i then expT t row set l else expT t row set r)
  else (cov t l.top * expT t row set l + cov t r.top * expT t row set r) / cov t i
theorem TSz.at {t : List NODE} {k : Nat} (h : TSz t k) {i : Nat} (hi : i < t.length) : NSz (nodeAt t i) k := by rw [nodeAt_get hi]; exact h _ (List.getElem_mem hi)
theorem cov_sz {t : List NODE} (hs : TSz t 4) {i : Nat} (hi : i < t.length) : SzQ (cov t i) 4 := (hs.at hi).2.2.szQ (by decide)
theorem expT_sz {t : List NODE} {f : Int} {row : List CELL} {set : Nat} {T : TR} (hs : TSz t 4) (h : Is t f T) : SzQ (expT t row set T) (16 * T.size) := by
 induction T with
 | leaf i => exact ((hs.at h.1).2.1.szQ (by decide)).mono (by simp [TR.size])
 | split i l r ihl ihr =>
  obtain ⟨h1, _, _, _, _, _, h2, h3⟩ := h
  have a := ihl h2
  have b := ihr h3
  simp only [expT, TR.size]
  split
  · split
    · exact a.mono (by omega)
    · exact b.mono (by omega)
  · have := (((cov_sz hs h2.top_lt).mul a).add ((cov_sz hs h3.top_lt).mul b)).div (cov_sz hs h1)
    exact this.mono (by omega)
def mkT (t : List NODE) : Nat → Nat → TR
 | 0, i => .leaf i
 | d + 1, i => if nLeaf (nodeAt t i) then .leaf i else .split i (mkT t d (nL (nodeAt t i)).toNat) (mkT t d (nR (nodeAt t i)).toNat)
theorem mkT_eq {t : List NODE} {f : Int} : ∀ (d : Nat) (T : TR), Is t f T → T.deep ≤ d → mkT t d T.top = T := by
 intro d
 induction d with
 | zero => intro T _ h; have := T.deep_pos; omega
 | succ d ih =>
  intro T h hd
  cases T with
  | leaf i =>
   obtain ⟨h1, h2⟩ := h
   simp only [TR.top, mkT, nodeAt_get h1, h2, if_true]
  | split i l r =>
   obtain ⟨h1, h2, _, _, h3, h4, h5, h6⟩ := h
   simp only [TR.deep] at hd
   show mkT t (d + 1) i = _
   rw [mkT, nodeAt_get h1, h2, h3, h4, Int.toNat_natCast, Int.toNat_natCast, ih l h5 (by omega), ih r h6 (by omega)]
   rfl
def treeOf (t : List NODE) : TR := mkT t (t.length + 1) 0
theorem Good.treeOf {m : MODEL} (h : Good m) {i : Nat} (hi : i < m.2.length) : Is m.2[i] m.1 (treeOf m.2[i]) ∧ (treeOf m.2[i]).top = 0 ∧ (treeOf m.2[i]).deep ≤ m.2[i].length + 1 := by
 obtain ⟨T, h1, h2, h3⟩ := h.tree hi
 have : X.treeOf m.2[i] = T := by rw [X.treeOf, ← h2]; exact mkT_eq _ T h1 h3
 rw [this]; exact ⟨h1, h2, h3⟩
def treeAt (m : MODEL) (i : Nat) : List NODE := (m.2[i]?).getD []
theorem treeAt_get {m : MODEL} {i : Nat} (h : i < m.2.length) : treeAt m i = m.2[i] := by simp [treeAt, h]
def sayM (m : MODEL) (row : List CELL) (set : Nat) : Rat := rsum (fun i => expT (treeAt m i) row set (treeOf (treeAt m i))) m.2.length
theorem MSz.at {m : MODEL} {k : Nat} (h : MSz m k) {i : Nat} (hi : i < m.2.length) : TSz (treeAt m i) k := by rw [treeAt_get hi]; exact h _ (List.getElem_mem hi)
theorem Good.isAt {m : MODEL} (h : Good m) {i : Nat} (hi : i < m.2.length) : Is (treeAt m i) m.1 (X.treeOf (treeAt m i)) := by rw [treeAt_get hi]; exact (h.treeOf hi).1
theorem deep16 {m : MODEL} (h : Good m) (hl : ∀ t ∈ m.2, t.length ≤ 15) {i : Nat} (hi : i < m.2.length) : (treeOf (treeAt m i)).deep ≤ 16 := by
 rw [treeAt_get hi]
 have := (h.treeOf hi).2.2
 have := hl _ (List.getElem_mem hi)
 omega
theorem expT_at {m : MODEL} {row : List CELL} {set : Nat} (h : Good m) (hs : MSz m 4) (hl : ∀ t ∈ m.2, t.length ≤ 15) {i : Nat} (hi : i < m.2.length) : SzQ (expT (treeAt m i) row set (treeOf (treeAt m i))) 1048576 := by
 have := TR.size_le (deep16 h hl hi)
 exact (expT_sz (hs.at hi) (h.isAt hi)).mono (by omega)
theorem sayM_sz {m : MODEL} {row : List CELL} {set : Nat} (h : Good m) (hs : MSz m 4) (hl : ∀ t ∈ m.2, t.length ≤ 15) {n : Nat} (hn : n ≤ m.2.length) : SzQ (rsum (fun i => expT (treeAt m i) row set (treeOf (treeAt m i))) n) (1 + n * 1048577) :=
 rsum_sz fun i hi => expT_at h hs hl (by omega)
def CSz (row : List CELL) (k : Nat) : Prop := ∀ c ∈ row, SzR c.2 k
theorem goes_ok {n : NODE} {c : CELL} {k j : Nat} (hn : SzR (nCut n) k) (hk : k < 1099511627776) (hc : SzR c.2 j) (hj : j < 1099511627776) : route_goes n c = some (goes n c) := by
 unfold route_goes goes
 cases h : c.1 with
 | true => rfl
 | false =>
  rw [cond_false, ratio_Cmp_ok (hc.sm hj) (hn.sm hk), Option.bind_some, if_neg (by decide)]
  congr 1
  by_cases h : rv c.2 < rv (nCut n)
  · rw [decide_eq_true (rcmp_neg.2 h), decide_eq_true h]
  · rw [decide_eq_false (fun e => h (rcmp_neg.1 e)), decide_eq_false h]
theorem Left_ok {n : NODE} {c : CELL} {k j : Nat} (hn : SzR (nCut n) k) (hk : k < 1099511627776) (hc : SzR c.2 j) (hj : j < 1099511627776) : route_Left n c = some (!nLeaf n && goes n c) := by
 unfold route_Left
 rw [goes_ok hn hk hc hj]
 show _ = some (!n.1 && goes n c)
 cases h : n.1 with
 | true => rfl
 | false => rfl
theorem goL_ok {t : List NODE} {f : Int} {row : List CELL} {i : Nat} (hs : TSz t 4) (hc : CSz row 9) (hi : i < t.length) (h0 : 0 ≤ nFeat t[i]) (h1 : nFeat t[i] < (row.length : Int)) :
  ∃ c, row[(nFeat t[i]).toNat]? = some c ∧ SzR c.2 9 ∧ goes t[i] c = goL t row i := by
 have hlt : (nFeat t[i]).toNat < row.length := by omega
 refine ⟨row[(nFeat t[i]).toNat], List.getElem?_eq_getElem hlt, hc _ (List.getElem_mem hlt), ?_⟩
 rw [goL, nodeAt_get hi, cellAt_get hlt]
theorem TreeV_ok {t : List NODE} {f : Int} (ht : t.length ≤ 15) (hs : TSz t 4) : ∃ b, valid_Tree t f = some b ∧ (b = true ↔ Good (f, [t])) := by
 obtain ⟨b, h1, h2⟩ := Ok_ok (m := (f, [t])) (k := 4) (by simp) (by intro u hu; simp at hu; subst hu; omega) (by intro u hu; simp at hu; subst hu; exact hs) (by decide)
 exact ⟨b, by rw [valid_Tree, h1]; rfl, h2⟩
theorem cutRow_sz (l : List CELL) : CSz (l.map cutCell) 9 := by
 intro c hc
 obtain ⟨x, _, rfl⟩ := List.mem_map.1 hc
 exact ⟨Nat.le_trans (cutR_sz 3 _).1 (by decide), Nat.le_trans (cutR_sz 3 _).2 (by decide)⟩
theorem fits_ok {m : MODEL} {row : List CELL} (hl : m.2.length < 4294967296) (ht : ∀ t ∈ m.2, t.length < 4294967296) (hs : MSz m 4) :
  ∃ e : Int, route_fits m row = some e ∧ route_Fits m row = some e ∧ dendronlaw10_Why m row = some e ∧ (e = 0 ↔ Good m ∧ (row.length : Int) = m.1) := by
 obtain ⟨b, h1, h2⟩ := Ok_ok hl ht hs (by decide)
 have key : ∃ e : Int, route_fits m row = some e ∧ (e = 0 ↔ Good m ∧ (row.length : Int) = m.1) := by
  cases b with
  | false => exact ⟨1, by rw [route_fits, h1]; rfl, by constructor; · intro h; exact absurd h (by decide)
                                                       · intro h; have := h2.2 h.1; simp at this⟩
  | true =>
   by_cases h : (row.length : Int) = m.1
   · exact ⟨0, by rw [route_fits, h1, Option.bind_some, Bool.not_true, cond_false, decide_eq_true h]; rfl, by simp [h2.1 rfl, h]⟩
   · exact ⟨14, by rw [route_fits, h1, Option.bind_some, Bool.not_true, cond_false, decide_eq_false h]; rfl, by simp [h]⟩
 obtain ⟨e, h3, h4⟩ := key
 have h5 : dendronlaw10_Why m row = route_fits m row := rfl
 exact ⟨e, h3, by rw [route_Fits, h3]; rfl, by rw [h5, h3], h4⟩
structure Askd (m : MODEL) (row : List CELL) : Prop where
 good : Good m
 len : (row.length : Int) = m.1
 ms : MSz m 4
 ml : m.2.length ≤ 6
 mt : ∀ t ∈ m.2, t.length ≤ 15
 cs : CSz row 9
theorem Askd.tree {m : MODEL} {row : List CELL} (h : Askd m row) {i : Nat} (hi : i < m.2.length) : TSz m.2[i] 4 ∧ Is m.2[i] (row.length : Int) (treeOf (treeAt m i)) ∧ (treeOf (treeAt m i)).top = 0 ∧ (treeOf (treeAt m i)).deep ≤ 16 ∧ treeAt m i = m.2[i] := by
 have h1 := h.good.treeOf hi
 have h2 := deep16 h.good h.mt hi
 rw [treeAt_get hi] at h2 ⊢
 exact ⟨h.ms _ (List.getElem_mem hi), by rw [h.len]; exact h1.1, h1.2.1, h2, rfl⟩
theorem sum_step {f : Nat → Rat} {n k : Nat} {q : RAT} (hs : SzQ (rsum f n) k) (hk : k < 1099511627776) (hq : Sm q) (e : rv q = f n) : ratio_Add (((canQ (rsum f n)).1.1, (canQ (rsum f n)).1.2), (canQ (rsum f n)).2) q = some (canQ (rsum f (n + 1))) := by
 have h1 := ratio_Add_ok (hs.sm hk) hq
 rw [rv_canQ, e] at h1
 exact h1
theorem testBit_div (n k : Nat) : (n / 2 ^ k) % 2 = 1 ↔ n.testBit k = true := by
 rw [Nat.testBit_eq_decide_div_mod_eq, decide_eq_true_iff]
theorem known_ok {set k : Nat} (hs : set < 18446744073709551616) (hk : k ≤ 64) : expect_known (set : Int) (k : Int) = some (set.testBit k) := by
 have h2 : (set / 2 ^ k : Nat) < 18446744073709551616 := Nat.lt_of_le_of_lt (Nat.div_le_self _ _) hs
 have h3 := iand_nat (x := set / 2 ^ k) (y := 1) h2 (by decide)
 rw [expect_known, cnd' (by omega), shr_nat set k hk]
 have h3 : iand .u64 ((set / 2 ^ k : Nat) : Int) 1 = ((set / 2 ^ k &&& 1 : Nat) : Int) := h3
 rw [h3, Nat.and_one_is_mod]
 congr 1
 by_cases h : set.testBit k = true
 · rw [h, decide_eq_true]
   have := (testBit_div set k).2 h
   omega
 · have h' : set.testBit k = false := by simpa using h
   rw [h', decide_eq_false]
   intro e
   exact h ((testBit_div set k).1 (by omega))
theorem over_ok {a b : RAT} (ha : Sm a) (hb : Sm b) (h : rv b ≠ 0) : expect_over a b = some (canQ (rv a / rv b)) := by
 rw [expect_over, ratio_Div_ok ha hb, if_neg h]; rfl
theorem mean_ok {t : List NODE} {i a b : Nat} {x y : RAT} {p q : Rat} {k : Nat} (hs : TSz t 4) (hcov : CoversP t) (hi : i < t.length) (ha : a < t.length) (hb : b < t.length) (hL : nL t[i] = (a : Int)) (hR : nR t[i] = (b : Int)) (hx : rv x = p) (hy : rv y = q) (hxs : Sm x) (hys : Sm y)
  (hp : SzQ p k) (hq : SzQ q k) (hk : k < 1000000000) : expect_mean t t[i] x y = some (canQ ((cov t a * p + cov t b * q) / cov t i)) := by
 have za := (hs _ (List.getElem_mem ha)).2.2
 have zb := (hs _ (List.getElem_mem hb)).2.2
 have zi := (hs _ (List.getElem_mem hi)).2.2
 have m1 := ratio_Mul_ok (za.sm (by decide)) hxs
 have m2 := ratio_Mul_ok (zb.sm (by decide)) hys
 rw [hx] at m1
 rw [hy] at m2
 have s1 : SzQ (rv (nCov t[a]) * p) (4 + k) := (za.szQ (by decide)).mul hp
 have s2 : SzQ (rv (nCov t[b]) * q) (4 + k) := (zb.szQ (by decide)).mul hq
 have s3 := s1.add s2
 have m3 := ratio_Add_ok (s1.sm (by omega)) (s2.sm (by omega))
 rw [rv_canQ, rv_canQ] at m3
 have hne : rv (nCov t[i]) ≠ 0 := by
  have := hcov i hi
  intro e
  rw [e] at this
  exact absurd this (by decide)
 have m4 := over_ok (s3.sm (by omega)) (zi.sm (by decide)) hne
 rw [rv_canQ] at m4
 rw [expect_mean, show t[i].2.2.2.1 = (a : Int) from hL, cnd (by omega), Int.toNat_natCast, List.getElem?_eq_getElem ha, Option.bind_some, m1, Option.bind_some, show t[i].2.2.2.2.1 = (b : Int) from hR, cnd (by omega), Int.toNat_natCast, List.getElem?_eq_getElem hb, Option.bind_some, m2, Option.bind_some, m3, Option.bind_some, m4, Option.bind_some, cov_get ha, cov_get hb, cov_get hi]
theorem expect_value_ok {t : List NODE} {row : List CELL} {set : Nat} (hs : TSz t 4) (hc : CSz row 9) (hcov : CoversP t) (hset : set < 18446744073709551616) (hf64 : row.length ≤ 64) : ∀ (n : Nat) (T : TR), Is t (row.length : Int) T → T.deep ≤ n → T.size ≤ 1000000 →
  expect_value n t (T.top : Int) row (set : Int) = some (canQ (expT t row set T)) := by
 intro n
 induction n with
 | zero => intro T _ hd; have := T.deep_pos; omega
 | succ n ih =>
  intro T h hd hz
  show expect_value_b (expect_value n) t T.top row set = _
  cases T with
  | leaf i =>
   obtain ⟨h1, h2⟩ := h
   have d0 : (0 : Int) ≤ (i : Int) := by omega
   have z := hs _ (List.getElem_mem h1)
   rw [expect_value_b, show ((TR.leaf i).top : Int) = (i : Int) from rfl, cnd d0, Int.toNat_natCast, List.getElem?_eq_getElem h1, Option.bind_some, show t[i].1 = true from h2, cond_true, ratio_Clean_ok (z.2.1.sm (by decide)), Option.bind_some, expT, nodeAt_get h1]
  | split i l r =>
   have h0 := h
   obtain ⟨h1, h2, f0, f1, h3, h4, h5, h6⟩ := h
   have d0 : (0 : Int) ≤ (i : Int) := by omega
   simp only [TR.deep] at hd
   simp only [TR.size] at hz
   obtain ⟨c, g1, g2, g3⟩ := goL_ok (f := 0) hs hc h1 f0 f1
   have z := hs _ (List.getElem_mem h1)
   have el : expect_value n t t[i].2.2.2.1 row set = some (canQ (expT t row set l)) := by rw [show t[i].2.2.2.1 = _ from h3]; exact ih l h5 (by omega) (by omega)
   have er : expect_value n t t[i].2.2.2.2.1 row set = some (canQ (expT t row set r)) := by rw [show t[i].2.2.2.2.1 = _ from h4]; exact ih r h6 (by omega) (by omega)
   have hft : ((nFeat t[i]).toNat : Int) = nFeat t[i] := by omega
   have hkn := known_ok (k := (nFeat t[i]).toNat) hset (by omega)
   rw [hft] at hkn
   rw [expect_value_b, show ((TR.split i l r).top : Int) = (i : Int) from rfl, cnd d0, Int.toNat_natCast, List.getElem?_eq_getElem h1, Option.bind_some, show t[i].1 = false from h2, cond_false, hkn, Option.bind_some, expT, nodeAt_get h1]
   cases hb : set.testBit (nFeat t[i]).toNat with
   | false =>
    have sl := expT_sz (row := row) (set := set) hs h5
    have sr := expT_sz (row := row) (set := set) hs h6
    have sl' := sl.mono (m := 16000000) (by omega)
    have sr' := sr.mono (m := 16000000) (by omega)
    rw [Bool.not_false, cond_true, el, Option.bind_some, er, Option.bind_some, mean_ok hs hcov h1 h5.top_lt h6.top_lt h3 h4 (rv_canQ _) (rv_canQ _) (sl'.sm (by decide)) (sr'.sm (by decide)) sl' sr' (by decide), Option.bind_some, if_neg (by decide)]
   | true =>
    rw [Bool.not_true, cond_false, cnd f0, g1, Option.bind_some, Left_ok z.1 (by decide) g2 (by decide), Option.bind_some, g3, show (!nLeaf t[i]) = true by rw [h2]; rfl, Bool.true_and, if_pos rfl]
    cases goL t row i with
    | true => rw [cond_true, el, Option.bind_some, if_pos rfl]
    | false => rw [cond_false, er, Option.bind_some, if_neg (by decide)]
theorem Askd.cov {m : MODEL} {row : List CELL} (h : Askd m row) {i : Nat} (hi : i < m.2.length) : CoversP m.2[i] := h.good.covers hi
theorem Askd.f64 {m : MODEL} {row : List CELL} (h : Askd m row) : row.length ≤ 64 := by
 have := h.good.1.2.1
 have := h.len
 omega
theorem eValue_ok {m : MODEL} {row : List CELL} (h : Askd m row) {set : Nat} (hset : set < 18446744073709551616) : expect_Value m row (set : Int) = some (canQ (sayM m row set), 0) := by
 obtain ⟨e, _, h1, _, h2⟩ := fits_ok (row := row) (by have := h.ml; omega) (fun t ht => by have := h.mt t ht; omega) h.ms
 have e0 : e = 0 := h2.2 ⟨h.good, h.len⟩
 subst e0
 have ml := h.ml
 obtain ⟨F, eF⟩ : ∃ F : Nat → Rat, F = fun i => expT (treeAt m i) row set (treeOf (treeAt m i)) := ⟨_, rfl⟩
 have hF : ∀ n, n ≤ m.2.length → SzQ (rsum F n) (1 + n * 1048577) := fun n hn => by rw [eF]; exact sayM_sz h.good h.ms h.mt hn
 have key := lp_up (step := expect_Value_s6) (fun i => ((row, (set : Int), m.2, ((m.2.length : Nat) : Int), (i : Int), ()), ((false, [], [], ()), ((canQ (rsum F i)).1.1, (canQ (rsum F i)).1.2, (canQ (rsum F i)).2, ()), ()))) m.2.length (by omega) (by
  intro g i hi
  have d0 : (i : Int) < ((m.2.length : Nat) : Int) := by omega
  have d1 : (0 : Int) ≤ (i : Int) := by omega
  obtain ⟨t1, t2, t3, t4, t5⟩ := h.tree hi
  have hz := TR.size_le t4
  have hv := expect_value_ok t1 h.cs (h.cov hi) hset h.f64 R0 _ t2 (by unfold R0; omega) (by omega)
  rw [t3] at hv
  have hv : expect_value R0 m.2[i] 0 row set = some (canQ (expT m.2[i] row set (treeOf (treeAt m i)))) := hv
  have hq : SzQ (expT m.2[i] row set (treeOf (treeAt m i))) 1048576 := (expT_sz t1 t2).mono (by omega)
  have ha := sum_step (hF i (by omega)) (by omega) (hq.sm (by decide)) (by rw [rv_canQ, eF]; show _ = expT (treeAt m i) row set _; rw [t5])
  rw [expect_Value_s6, cnd d0, cnd d1, Int.toNat_natCast, List.getElem?_eq_getElem hi, Option.bind_some, hv, Option.bind_some, ha, Option.bind_some, iadd1 (by omega)]
  rfl) (by
  intro g
  rw [expect_Value_s6, cnd' (by omega)])
 rw [expect_Value, h1, Option.bind_some, show (!decide ((0 : Int) = 0)) = false by decide, cond_false, ratio_Zero_ok, Option.bind_some]
 have key' : lp expect_Value_s6 K0 ((row, (set : Int), m.2, ((m.2.length : Nat) : Int), 0, ()), ((false, [], [], ()), ((canQ 0).1.1, (canQ 0).1.2, (canQ 0).2, ()), ())) = _ := key
 rw [key']
 rw [sayM, ← eF]
 rfl
theorem expT_none (t : List NODE) (row row' : List CELL) (T : TR) : expT t row 0 T = expT t row' 0 T := by
 induction T with
 | leaf i => rfl
 | split i l r ihl ihr => simp only [expT, Nat.zero_testBit]; rw [ihl, ihr, if_neg (by decide), if_neg (by decide)]
theorem sayM_none (m : MODEL) (row row' : List CELL) : sayM m row 0 = sayM m row' 0 := rsum_congr fun i hi => expT_none _ _ _ _
theorem Base_ok {m : MODEL} (hg : Good m) (ms : MSz m 4) (ml : m.2.length ≤ 6) (mt : ∀ t ∈ m.2, t.length ≤ 15) (row : List CELL) : expect_Base m = some (canQ (sayM m row 0), 0) := by
 have f0 := hg.1.1
 have f1 := hg.1.2.1
 obtain ⟨b, h1, h2⟩ := Ok_ok (m := m) (k := 4) (by omega) (fun t ht => by have := mt t ht; omega) ms (by decide)
 have hb : b = true := h2.2 hg
 subst hb
 obtain ⟨z, ez⟩ : ∃ z, z = List.replicate m.1.toNat ((false, ((false, []), [])) : CELL) := ⟨_, rfl⟩
 have ha : Askd m z := ⟨hg, by rw [ez]; simp; omega, ms, ml, mt, by
  intro c hc
  rw [ez] at hc
  have := (List.mem_replicate.1 hc).2
  subst this
  exact ⟨Nat.zero_le _, Nat.zero_le _⟩⟩
 have hv := eValue_ok ha (set := 0) (by decide)
 have hv : expect_Value m z 0 = _ := hv
 have c1 : (decide (m.1 = m.1) && decide (0 ≤ m.1) && decide (((64 : Nat) : Int) * m.1 ≤ 281474976710656) && decide (m.1 ≤ 9223372036854775807)) = true := by
  rw [decide_eq_true rfl, decide_eq_true f0, decide_eq_true (by omega), decide_eq_true (by omega)]; rfl
 rw [expect_Base, h1, Option.bind_some, Bool.not_true, cond_false, c1, cond_true, ← ez, hv, Option.bind_some, sayM_none m z row]
def rprod (f : Nat → Rat) : Nat → Rat
 | 0 => 1
 | n + 1 => rprod f n * f n
theorem rprod_sz {f : Nat → Rat} {k n : Nat} (h : ∀ i, i < n → SzQ (f i) k) : SzQ (rprod f n) (1 + n * k) := by
 induction n with
 | zero => simpa [rprod] using SzQ.one
 | succ n ih =>
  have := (ih fun i hi => h i (by omega)).mul (h n (by omega))
  simp only [rprod]
  exact this.mono (by rw [Nat.add_mul]; omega)
def qcan (qs : List Rat) : List RAT := qs.map canQ
@[simp] theorem qcan_len (qs : List Rat) : (qcan qs).length = qs.length := by simp [qcan]
theorem over_set {α : Type} (l : List α) (x : α) {k : Nat} (hk : k ≤ l.length) :
  (over (l ++ [x]) (k + 1) (((l ++ [x]).drop k).take ((l ++ [x]).drop (k + 1)).length)).set k x = l.take k ++ x :: l.drop k := by
 have e1 : ((l ++ [x]).drop k).take ((l ++ [x]).drop (k + 1)).length = l.drop k := by
  rw [List.length_drop, List.length_append, List.length_singleton, List.drop_append_of_le_length hk, List.take_append_of_le_length (by rw [List.length_drop]; omega), List.take_of_length_le (by rw [List.length_drop]; omega)]
 rw [e1, over]
 have e2 : (l ++ [x]).drop (k + 1 + (l.drop k).length) = [] := by
  apply List.drop_of_length_le
  rw [List.length_append, List.length_drop, List.length_singleton]; omega
 rw [e2, List.append_nil]
 have e3 : (l ++ [x]).take (k + 1) = (l ++ [x]).take k ++ [(l ++ [x])[k]'(by simp; omega)] := List.take_succ_eq_append_getElem (by simp; omega)
 rw [e3, List.take_append_of_le_length hk, List.append_assoc, List.set_append, if_neg (by rw [List.length_take]; omega), List.length_take, Nat.min_eq_left hk, Nat.sub_self]
 rfl
def leavesT : TR → List Nat
 | .leaf i => [i]
 | .split _ l r => leavesT l ++ leavesT r
theorem leavesT_len (T : TR) : (leavesT T).length ≤ T.size := by
 induction T with
 | leaf i => simp [leavesT, TR.size]
 | split i l r ihl ihr => simp only [leavesT, TR.size, List.length_append]; omega
def lsum : List Rat → Rat
 | [] => 0
 | x :: r => x + lsum r
theorem lsum_append (a b : List Rat) : lsum (a ++ b) = lsum a + lsum b := by
 induction a with
 | nil => simp [lsum, Rat.zero_add]
 | cons x a ih => simp only [List.cons_append, lsum, ih, Rat.add_assoc]
theorem lsum_take_succ {l : List Rat} {i : Nat} (h : i < l.length) : lsum (l.take (i + 1)) = lsum (l.take i) + l[i] := by
 rw [List.take_succ_eq_append_getElem h, lsum_append]; simp [lsum, Rat.add_zero]
theorem lsum_sz {l : List Rat} {k : Nat} (h : ∀ x ∈ l, SzQ x k) : SzQ (lsum l) (1 + l.length * (k + 1)) := by
 induction l with
 | nil => simpa [lsum] using SzQ.zero
 | cons x l ih =>
  have h1 := h x List.mem_cons_self
  have h2 := ih fun y hy => h y (List.mem_cons_of_mem _ hy)
  exact (h1.add h2).mono (by simp only [List.length_cons, Nat.add_mul]; omega)
theorem CoversP.ne {t : List NODE} (h : CoversP t) : ∀ i, i < t.length → cov t i ≠ 0 := by
 intro i hi e
 have := h i hi
 rw [cov_get hi] at e
 rw [e] at this
 exact absurd this (by decide)
theorem over_set' {α : Type} (l : List α) (x y : α) {k : Nat} (hk : k ≤ l.length) :
  (over (l ++ [x]) (k + 1) (((l ++ [x]).drop k).take ((l ++ [x]).drop (k + 1)).length)).set k y = l.take k ++ y :: l.drop k := by
 have h := over_set l x hk
 obtain ⟨o, eo⟩ : ∃ o, o = over (l ++ [x]) (k + 1) (((l ++ [x]).drop k).take ((l ++ [x]).drop (k + 1)).length) := ⟨_, rfl⟩
 rw [← eo] at h ⊢
 have e : o.set k y = (o.set k x).set k y := by rw [List.set_set]
 rw [e, h, List.set_append, if_neg (by rw [List.length_take]; omega), List.length_take, Nat.min_eq_left hk, Nat.sub_self]
 rfl
theorem over_shift_len' {α : Type} (l : List α) (x : α) {k : Nat} (hk : k ≤ l.length) :
  (over (l ++ [x]) (k + 1) (((l ++ [x]).drop k).take ((l ++ [x]).drop (k + 1)).length)).length = l.length + 1 := by
 have h := congrArg List.length (over_set l x hk)
 rw [List.length_set] at h
 rw [h]; simp; omega
abbrev AP := Nat × Rat × Bool
def encP (p : AP) : PART := ((p.1 : Int), canQ p.2.1, p.2.2)
def encW (w : List AP) : List PART := w.map encP
theorem encW_len (w : List AP) : (encW w).length = w.length := by simp [encW]
theorem encW_get {w : List AP} {i : Nat} (h : i < w.length) : (encW w)[i]? = some (encP w[i]) := by simp [encW, h]
def along (f : Nat) (q : Rat) (ok : Bool) : List AP → List AP
 | [] => [(f, q, ok)]
 | p :: w => if p.1 < f then p :: along f q ok w else if p.1 = f then (f, p.2.1 * q, p.2.2 && ok) :: w else (f, q, ok) :: p :: w
def spot (f : Nat) : List AP → Nat
 | [] => 0
 | p :: w => if p.1 < f then spot f w + 1 else 0
theorem spot_le (f : Nat) (w : List AP) : spot f w ≤ w.length := by
 induction w with
 | nil => simp [spot]
 | cons p w ih => simp only [spot, List.length_cons]; split <;> omega
theorem spot_lt {f : Nat} {w : List AP} {i : Nat} (h : i < spot f w) : ∃ hi : i < w.length, w[i].1 < f := by
 induction w generalizing i with
 | nil => simp [spot] at h
 | cons p w ih =>
  simp only [spot] at h
  split at h
  · rename_i hp
    cases i with
    | zero => exact ⟨by simp, hp⟩
    | succ i => obtain ⟨hi, h2⟩ := ih (i := i) (by omega); exact ⟨by simp; omega, by simpa using h2⟩
  · omega
theorem spot_at {f : Nat} {w : List AP} (h : spot f w < w.length) : ¬ w[spot f w].1 < f := by
 induction w with
 | nil => simp at h
 | cons p w ih =>
  by_cases hp : p.1 < f
  · have e : spot f (p :: w) = spot f w + 1 := by simp only [spot, if_pos hp]
    have h' : spot f w < w.length := by rw [e] at h; simpa using h
    simp only [e, List.getElem_cons_succ]
    exact ih h'
  · have e : spot f (p :: w) = 0 := by simp only [spot, if_neg hp]
    simp only [e, List.getElem_cons_zero]
    exact hp
theorem along_hit {f : Nat} {q : Rat} {ok : Bool} {w : List AP} (h : spot f w < w.length) (e : w[spot f w].1 = f) : along f q ok w = w.set (spot f w) (f, w[spot f w].2.1 * q, w[spot f w].2.2 && ok) := by
 induction w with
 | nil => simp at h
 | cons p w ih =>
  by_cases hp : p.1 < f
  · have es : spot f (p :: w) = spot f w + 1 := by simp only [spot, if_pos hp]
    have h' : spot f w < w.length := by rw [es] at h; simpa using h
    simp only [es, List.getElem_cons_succ] at e ⊢
    rw [along, if_pos hp, ih h' e, List.set_cons_succ]
  · have es : spot f (p :: w) = 0 := by simp only [spot, if_neg hp]
    simp only [es, List.getElem_cons_zero] at e ⊢
    rw [along, if_neg hp, if_pos e, List.set_cons_zero]
theorem along_miss {f : Nat} {q : Rat} {ok : Bool} {w : List AP} (h : ∀ h : spot f w < w.length, w[spot f w].1 ≠ f) : along f q ok w = w.take (spot f w) ++ (f, q, ok) :: w.drop (spot f w) := by
 induction w with
 | nil => simp [along, spot]
 | cons p w ih =>
  by_cases hp : p.1 < f
  · have es : spot f (p :: w) = spot f w + 1 := by simp only [spot, if_pos hp]
    rw [along, if_pos hp, es, List.take_succ_cons, List.drop_succ_cons, List.cons_append, ← ih (fun h' => by
     have := h (by rw [es]; simpa using h')
     simpa only [es, List.getElem_cons_succ] using this)]
  · have es : spot f (p :: w) = 0 := by simp only [spot, if_neg hp]
    have hne : p.1 ≠ f := by
     have := h (by rw [es]; simp)
     simpa only [es, List.getElem_cons_zero] using this
    rw [along, if_neg hp, if_neg hne, es]
    rfl
theorem along_len (f : Nat) (q : Rat) (ok : Bool) (w : List AP) : (along f q ok w).length ≤ w.length + 1 := by
 induction w with
 | nil => simp [along]
 | cons p w ih => simp only [along]; split
                  · simp only [List.length_cons]; omega
                  · split <;> simp
def ASz (w : List AP) (k : Nat) : Prop := ∀ p ∈ w, SzQ p.2.1 k
theorem along_sz {f : Nat} {q : Rat} {ok : Bool} {w : List AP} {k j : Nat} (h : ASz w k) (hq : SzQ q j) : ASz (along f q ok w) (k + j) := by
 induction w with
 | nil => intro p hp; simp [along] at hp; subst hp; exact hq.mono (by omega)
 | cons p w ih =>
  have h1 : SzQ p.2.1 k := h p List.mem_cons_self
  have h2 : ASz w k := fun x hx => h x (List.mem_cons_of_mem _ hx)
  intro x hx
  simp only [along] at hx
  split at hx
  · rcases List.mem_cons.1 hx with rfl | hx
    · exact h1.mono (by omega)
    · exact ih h2 x hx
  · split at hx
    · rcases List.mem_cons.1 hx with rfl | hx
      · exact h1.mul hq
      · exact (h2 x hx).mono (by omega)
    · rcases List.mem_cons.1 hx with rfl | hx
      · exact hq.mono (by omega)
      · exact (h x hx).mono (by omega)
theorem along_ok {w : List AP} {f : Nat} {q : Rat} {ok : Bool} {k j : Nat} (hw : ASz w k) (hq : SzQ q j) (hk : k < 1000000000) (hj : j < 1000000000) (hl : w.length ≤ 1000000) (hf : f < 1000000) :
   expect_along (encW w) (f : Int) (canQ q) ok = some (encW (along f q ok w)) := by
 have el := encW_len w
 have hs := spot_le f w
 obtain ⟨s, es⟩ : ∃ s, s = spot f w := ⟨_, rfl⟩
 have key := lp_up (step := expect_along_s3) (fun i => (((f : Int), ok, encW w, (i : Int), ()), (((canQ q).1.1, (canQ q).1.2, (canQ q).2, ()), ()))) s (r := (((f : Int), ok, encW w, (s : Int), ()), (((canQ q).1.1, (canQ q).1.2, (canQ q).2, ()), ()))) (by omega) (by
   intro g i hi
   obtain ⟨h1, h2⟩ := spot_lt (f := f) (w := w) (i := i) (by omega)
   have d0 : (i : Int) < ((encW w).length : Int) := by omega
   have d1 : (0 : Int) ≤ (i : Int) := by omega
   have d2 : (encP w[i]).1 < (f : Int) := by show ((w[i].1 : Nat) : Int) < _; omega
   rw [expect_along_s3, cnd d0, cnd2 d1 d0, Int.toNat_natCast, encW_get h1, Option.bind_some, cnd d2, iadd1 (by omega)]
   rfl) (by
   intro g
   by_cases h : s < w.length
   · have d0 : (s : Int) < ((encW w).length : Int) := by omega
     have d1 : (0 : Int) ≤ (s : Int) := by omega
     have h3 := spot_at (f := f) (w := w) (by omega)
     have d2 : ¬ (encP w[s]).1 < (f : Int) := by subst es; show ¬ ((w[spot f w].1 : Nat) : Int) < _; omega
     rw [expect_along_s3, cnd d0, cnd2 d1 d0, Int.toNat_natCast, encW_get h, Option.bind_some, cnd' d2]
   · rw [expect_along_s3, cnd' (by omega)])
 have key : lp expect_along_s3 K0 (((f : Int), ok, ([] : List PART) ++ encW w, 0, ()), (((canQ q).1.1, (canQ q).1.2, (canQ q).2, ()), ())) = _ := key
 have c0 : (Nat.ble ((([] : List PART).length + (encW w).length) * 72) 140737488355328 && !false) = true := blt (by simp; omega)
 have miss : (∀ h : spot f w < w.length, w[spot f w].1 ≠ f) → (over (encW w ++ [(0, (((false, []), []), false))]) (s + 1) (((encW w ++ [(0, (((false, []), []), false))]).drop s).take ((encW w ++ [(0, (((false, []), []), false))]).drop (s + 1)).length)).set s ((f : Int), canQ q, ok) = encW (along f q ok w) := by
   intro h
   have e := over_set' (encW w) (0, (((false, []), []), false)) ((f : Int), canQ q, ok) (k := s) (by omega)
   rw [e, along_miss h, ← es]
   simp [encW, encP]
 have ol := over_shift_len' (encW w) (0, (((false, []), []), false)) (k := s) (by omega)
 have i1 : iadd .i64 (s : Int) 1 = ((s + 1 : Nat) : Int) := iadd1 (by omega)
 have d1 : (0 : Int) ≤ (s : Int) := by omega
 have al : (encW w ++ [((0, (((false, []), []), false)) : PART)]).length = w.length + 1 := by simp [encW]
 rw [expect_along, c0, cond_true, key, Option.bind_some]
 dsimp only
 by_cases h : s < w.length
 · have d0 : (s : Int) < ((encW w).length : Int) := by omega
   rw [cnd d0, cnd2 d1 d0, Int.toNat_natCast, encW_get h, Option.bind_some]
   by_cases e : w[s].1 = f
   · have d2 : (encP w[s]).1 = (f : Int) := by show ((w[s].1 : Nat) : Int) = _; omega
     have hsz := hw _ (List.getElem_mem h)
     have hm := ratio_Mul_ok (hsz.sm (by omega)) (hq.sm (by omega))
     rw [rv_canQ, rv_canQ] at hm
     have hm : ratio_Mul (encP w[s]).2.1 (canQ q) = some (canQ (w[s].2.1 * q)) := hm
     obtain ⟨x, ex⟩ : ∃ x : PART, x = ((encP w[s]).1, canQ (w[s].2.1 * q), (encP w[s]).2.2) := ⟨_, rfl⟩
     have ls : ((encW w).set s x).length = w.length := by simp [encW]
     have gx : ((encW w).set s x)[s]? = some x := by rw [List.getElem?_set, if_pos rfl, if_pos (by omega)]
     have d3 : (s : Int) < (((encW w).set s x).length : Int) := by omega
     have fin : (encW w).set s ((f : Int), canQ (w[s].2.1 * q), w[s].2.2 && ok) = encW (along f q ok w) := by
      rw [along_hit (by omega) (by subst es; exact e)]
      subst es
      simp [encW, encP]
     rw [cnd d2, cnd2 d1 d0, Option.bind_some]
     show (ratio_Mul (encP w[s]).2.1 (canQ q)).bind _ = _
     rw [hm, Option.bind_some, cnd2 d1 d0, Option.bind_some, ← ex, cnd2 d1 d3, gx, Option.bind_some, show x.2.2 = w[s].2.2 by rw [ex]; rfl]
     rw [← fin]
     cases hok : w[s].2.2 with
     | true =>
      rw [cond_true, cnd2 d1 d3, Option.bind_some, List.set_set, ex, Bool.true_and]
      simp only
      rw [d2]
     | false =>
      rw [cond_false, cnd2 d1 d3, Option.bind_some, List.set_set, ex, Bool.false_and]
      simp only
      rw [d2]
   · have d2 : ¬ (encP w[s]).1 = (f : Int) := by show ¬ ((w[s].1 : Nat) : Int) = _; omega
     rw [cnd' d2, blt (by omega), cond_true, i1, cnd2 (by omega) (by rw [al]; omega), cnd2 d1 (by rw [al]; omega), Int.toNat_natCast, cnd2 d1 (by rw [ol]; omega), List.getElem?_eq_getElem (by rw [ol]; omega), Option.bind_some]
     show some _ = _
     rw [← miss (fun h' => by subst es; exact e)]
 · rw [cnd' (by omega), blt (by omega), cond_true, i1, cnd2 (by omega) (by rw [al]; omega), cnd2 d1 (by rw [al]; omega), Int.toNat_natCast, Int.toNat_natCast, cnd2 d1 (by rw [ol]; omega), List.getElem?_eq_getElem (by rw [ol]; omega), Option.bind_some]
   show some _ = _
   rw [← miss (fun h' => absurd h' (by omega))]
abbrev AL := Nat × Rat × List AP
def encL (x : AL) : LEG := ((x.1 : Int), canQ x.2.1, encW x.2.2)
def featT (t : List NODE) (i : Nat) : Nat := (nFeat (nodeAt t i)).toNat
def legsT (t : List NODE) (row : List CELL) : TR → List AP → List AL
 | .leaf i, w => [(i, rv (nVal (nodeAt t i)), w)]
 | .split i l r, w => legsT t row l (along (featT t i) (cov t l.top / cov t i) (goL t row i) w) ++ legsT t row r (along (featT t i) (cov t r.top / cov t i) (!goL t row i) w)
theorem legsT_len (t : List NODE) (row : List CELL) (T : TR) (w : List AP) : (legsT t row T w).length = (leavesT T).length := by
 induction T generalizing w with
 | leaf i => rfl
 | split i l r ihl ihr => simp only [legsT, leavesT, List.length_append, ihl, ihr]
def WSz (w : List AP) (m : Nat) (f : Nat) : Prop := ASz w (8 * m + 1) ∧ w.length ≤ m ∧ ∀ p ∈ w, p.1 < f
theorem along_mem {f : Nat} {q : Rat} {ok : Bool} {w : List AP} : ∀ p ∈ along f q ok w, p.1 = f ∨ ∃ p' ∈ w, p'.1 = p.1 := by
 induction w with
 | nil => intro p hp; simp [along] at hp; subst hp; exact .inl rfl
 | cons a w ih =>
  intro p hp
  simp only [along] at hp
  split at hp
  · rcases List.mem_cons.1 hp with rfl | hp
    · exact .inr ⟨p, List.mem_cons_self, rfl⟩
    · rcases ih p hp with h | ⟨p', h1, h2⟩
      · exact .inl h
      · exact .inr ⟨p', List.mem_cons_of_mem _ h1, h2⟩
  · split at hp
    · rcases List.mem_cons.1 hp with rfl | hp
      · exact .inl rfl
      · exact .inr ⟨p, List.mem_cons_of_mem _ hp, rfl⟩
    · rcases List.mem_cons.1 hp with rfl | hp
      · exact .inl rfl
      · exact .inr ⟨p, hp, rfl⟩
theorem WSz.along {w : List AP} {m f g : Nat} {q : Rat} {ok : Bool} (h : WSz w m g) (hq : SzQ q 8) (hf : f < g) : WSz (X.along f q ok w) (m + 1) g := by
 refine ⟨fun p hp => (along_sz h.1 hq p hp).mono (by omega), Nat.le_trans (along_len _ _ _ _) (by have := h.2.1; omega), fun p hp => ?_⟩
 rcases along_mem p hp with e | ⟨p', h1, h2⟩
 · omega
 · have := h.2.2 p' h1; omega
theorem share_sz {t : List NODE} (hs : TSz t 4) {a i : Nat} (ha : a < t.length) (hi : i < t.length) : SzQ (cov t a / cov t i) 8 := (cov_sz hs ha).div (cov_sz hs hi)
theorem legsT_sz {t : List NODE} {row : List CELL} {T : TR} {g : Nat} (hs : TSz t 4) (h : Is t (g : Int) T) : ∀ {w : List AP} {m : Nat}, WSz w m g → ∀ x ∈ legsT t row T w, WSz x.2.2 (m + T.deep) g ∧ SzQ x.2.1 4 := by
 induction T with
 | leaf i =>
  intro w m hw x hx
  simp only [legsT, List.mem_singleton] at hx
  subst hx
  refine ⟨⟨fun p hp => (hw.1 p hp).mono (by simp only [TR.deep]; omega), by have := hw.2.1; simp only [TR.deep]; omega, hw.2.2⟩, (hs.at h.1).2.1.szQ (by decide)⟩
 | split i l r ihl ihr =>
  intro w m hw x hx
  obtain ⟨h1, h2, f0, f1, h3, h4, h5, h6⟩ := h
  have hf : featT t i < g := by rw [featT, nodeAt_get h1]; omega
  simp only [legsT, List.mem_append] at hx
  rcases hx with hx | hx
  · have := ihl h5 (hw.along (ok := goL t row i) (share_sz hs h5.top_lt h1) hf) x hx
    refine ⟨⟨fun p hp => (this.1.1 p hp).mono (by simp only [TR.deep]; omega), by have := this.1.2.1; simp only [TR.deep]; omega, this.1.2.2⟩, this.2⟩
  · have := ihr h6 (hw.along (ok := !goL t row i) (share_sz hs h6.top_lt h1) hf) x hx
    refine ⟨⟨fun p hp => (this.1.1 p hp).mono (by simp only [TR.deep]; omega), by have := this.1.2.1; simp only [TR.deep]; omega, this.1.2.2⟩, this.2⟩
theorem legs_ok {t : List NODE} {row : List CELL} (hs : TSz t 4) (hc : CSz row 9) (hcov : CoversP t) (hrl : row.length ≤ 64) : ∀ (n : Nat) (T : TR) (w : List AP) (m : Nat), Is t (row.length : Int) T → T.deep ≤ n → T.size ≤ 1000000 → WSz w m row.length → m + T.deep ≤ 10000 →
  expect_legs n t row (T.top : Int) (encW w) = some ((legsT t row T w).map encL) := by
 intro n
 induction n with
 | zero => intro T w m _ hd; have := T.deep_pos; omega
 | succ n ih =>
  intro T w m h hd hz hw hm
  show expect_legs_b (expect_legs n) t row T.top (encW w) = _
  have hwl := hw.2.1
  cases T with
  | leaf i =>
   obtain ⟨h1, h2⟩ := h
   have z := hs _ (List.getElem_mem h1)
   rw [expect_legs_b, show ((TR.leaf i).top : Int) = (i : Int) from rfl, cnd (by omega), Int.toNat_natCast, List.getElem?_eq_getElem h1, Option.bind_some, show t[i].1 = true from h2, cond_true, ratio_Clean_ok (z.2.1.sm (by decide)), Option.bind_some, blt (by simp [encW]; omega), cond_true]
   simp only [legsT, List.map_cons, List.map_nil, encL, nodeAt_get h1, List.nil_append]
  | split i l r =>
   obtain ⟨h1, h2, f0, f1, h3, h4, h5, h6⟩ := h
   simp only [TR.deep] at hd hm
   simp only [TR.size] at hz
   have d0 : (0 : Int) ≤ (i : Int) := by omega
   obtain ⟨c, g1, g2, g3⟩ := goL_ok (f := 0) hs hc h1 f0 f1
   have z := hs _ (List.getElem_mem h1)
   have tl := h5.top_lt
   have tr := h6.top_lt
   have zl := hs _ (List.getElem_mem tl)
   have zr := hs _ (List.getElem_mem tr)
   have hne : rv (nCov t[i]) ≠ 0 := by have := hcov.ne i h1; rwa [cov_get h1] at this
   have o1 := over_ok (zl.2.2.sm (by decide)) (z.2.2.sm (by decide)) hne
   have o2 := over_ok (zr.2.2.sm (by decide)) (z.2.2.sm (by decide)) hne
   rw [← cov_get tl, ← cov_get h1] at o1
   rw [← cov_get tr, ← cov_get h1] at o2
   have hft : ((featT t i : Nat) : Int) = nFeat t[i] := by rw [featT, nodeAt_get h1]; omega
   have hf : featT t i < row.length := by omega
   have a1 := along_ok (f := featT t i) (ok := goL t row i) hw.1 (share_sz hs tl h1) (by omega) (by decide) (by omega) (by omega)
   have a2 := along_ok (f := featT t i) (ok := !goL t row i) hw.1 (share_sz hs tr h1) (by omega) (by decide) (by omega) (by omega)
   rw [hft] at a1 a2
   have el := ih l _ (m + 1) h5 (by omega) (by omega) (hw.along (ok := goL t row i) (share_sz hs tl h1) hf) (by omega)
   have er := ih r _ (m + 1) h6 (by omega) (by omega) (hw.along (ok := !goL t row i) (share_sz hs tr h1) hf) (by omega)
   have ll := legsT_len t row l (along (featT t i) (cov t l.top / cov t i) (goL t row i) w)
   have lr := legsT_len t row r (along (featT t i) (cov t r.top / cov t i) (!goL t row i) w)
   have bl := leavesT_len l
   have br := leavesT_len r
   rw [expect_legs_b, show ((TR.split i l r).top : Int) = (i : Int) from rfl, cnd d0, Int.toNat_natCast, List.getElem?_eq_getElem h1, Option.bind_some, show t[i].1 = false from h2, cond_false, show t[i].2.1 = nFeat t[i] from rfl, cnd f0, g1, Option.bind_some, Left_ok z.1 (by decide) g2 (by decide), Option.bind_some, g3, show (!nLeaf t[i]) = true by rw [h2]; rfl, Bool.true_and, show t[i].2.2.2.1 = _ from h3, cnd (by omega), Int.toNat_natCast, List.getElem?_eq_getElem tl, Option.bind_some, o1, Option.bind_some, a1, Option.bind_some, el, Option.bind_some, show t[i].2.2.2.2.1 = _ from h4, cnd (by omega), Int.toNat_natCast, List.getElem?_eq_getElem tr, Option.bind_some, o2, Option.bind_some, a2, Option.bind_some, er, Option.bind_some, blt (by simp only [List.length_map, ll, lr]; omega), cond_true]
   simp only [legsT, List.map_append]
def lprod : List Rat → Rat
 | [] => 1
 | x :: r => x * lprod r
def facP (set : Nat) (p : AP) : Rat := if set.testBit p.1 then (if p.2.2 then 1 else 0) else p.2.1
def reachA (set : Nat) (w : List AP) : Rat := lprod (w.map (facP set))
theorem reachA_along (set f : Nat) (q : Rat) (ok : Bool) (w : List AP) : reachA set (along f q ok w) = reachA set w * facP set (f, q, ok) := by
 induction w with
 | nil => simp [reachA, along, lprod, Rat.mul_one, Rat.one_mul]
 | cons p w ih =>
  simp only [reachA] at ih
  simp only [along]
  split
  · simp only [reachA, List.map_cons, lprod, ih]; grind
  · split
    · rename_i e
      simp only [reachA, List.map_cons, lprod]
      have : facP set (f, p.2.1 * q, p.2.2 && ok) = facP set p * facP set (f, q, ok) := by
       simp only [facP, e]
       cases set.testBit f <;> cases p.2.2 <;> cases ok <;> simp <;> grind
      rw [this]; grind
    · simp only [reachA, List.map_cons, lprod]; grind
theorem facP_sz {set : Nat} {p : AP} {k : Nat} (h : SzQ p.2.1 k) (hk : 0 < k) : SzQ (facP set p) k := by
 unfold facP
 split
 · split
   · exact SzQ.one.mono hk
   · exact SzQ.zero.mono hk
 · exact h
theorem reachA_sz {set : Nat} {w : List AP} {k : Nat} (h : ASz w k) (hk : 0 < k) : SzQ (reachA set w) (1 + w.length * k) := by
 induction w with
 | nil => simpa [reachA, lprod] using SzQ.one
 | cons p w ih =>
  have h1 := facP_sz (set := set) (h p List.mem_cons_self) hk
  have h2 := ih fun x hx => h x (List.mem_cons_of_mem _ hx)
  exact (h1.mul h2).mono (by simp only [List.length_cons, Nat.add_mul]; omega)
def legV (set : Nat) (x : AL) : Rat := reachA set x.2.2 * x.2.1
theorem legs_say {t : List NODE} {f : Int} {row : List CELL} {set : Nat} {T : TR} (hc : ∀ i, i < t.length → cov t i ≠ 0) (h : Is t f T) : ∀ w, lsum ((legsT t row T w).map (legV set)) = reachA set w * expT t row set T := by
 induction T with
 | leaf i => intro w; simp only [legsT, List.map_cons, List.map_nil, lsum, legV, expT, Rat.add_zero]
 | split i l r ihl ihr =>
  intro w
  obtain ⟨h1, h2, f0, f1, h3, h4, h5, h6⟩ := h
  have c := hc i h1
  simp only [legsT, List.map_append, lsum_append, ihl h5, ihr h6, reachA_along, expT]
  have e : (nFeat (nodeAt t i)).toNat = featT t i := rfl
  rw [e]
  simp only [facP]
  obtain ⟨a, ea⟩ : ∃ a, a = expT t row set l := ⟨_, rfl⟩
  obtain ⟨b, eb⟩ : ∃ b, b = expT t row set r := ⟨_, rfl⟩
  obtain ⟨p, ep⟩ : ∃ p, p = cov t l.top := ⟨_, rfl⟩
  obtain ⟨q, eq⟩ : ∃ q, q = cov t r.top := ⟨_, rfl⟩
  obtain ⟨d, ed⟩ : ∃ d, d = cov t i := ⟨_, rfl⟩
  obtain ⟨z, ez⟩ : ∃ z, z = reachA set w := ⟨_, rfl⟩
  rw [← ea, ← eb, ← ep, ← eq, ← ed, ← ez]
  cases set.testBit (featT t i) <;> cases goL t row i <;> simp <;> grind
theorem WSz.nil (f : Nat) : WSz [] 0 f := ⟨fun p hp => absurd hp (by simp), Nat.le_refl _, fun p hp => absurd hp (by simp)⟩
theorem Legs_bad {t : List NODE} {row : List CELL} (h : valid_Tree t (row.length : Int) = some false) : expect_Legs t row = some ([], 1) := by rw [expect_Legs, h]; rfl
theorem Legs_ok {t : List NODE} {row : List CELL} (ht : t.length ≤ 15) (hs : TSz t 4) (hc : CSz row 9) (hg : Good ((row.length : Int), [t])) (hrl : row.length ≤ 64) :
  expect_Legs t row = some ((legsT t row (treeOf t) []).map encL, 0) ∧ (∀ x ∈ legsT t row (treeOf t) [], WSz x.2.2 16 row.length ∧ SzQ x.2.1 4) ∧ (legsT t row (treeOf t) []).length ≤ 65536 := by
 obtain ⟨b, h1, h2⟩ := TreeV_ok (f := (row.length : Int)) ht hs
 have hb : b = true := h2.2 hg
 subst hb
 obtain ⟨g1, g2, g3⟩ := hg.treeOf (i := 0) (by simp)
 have g1 : Is t (row.length : Int) (treeOf t) := g1
 have g2 : (treeOf t).top = 0 := g2
 have g3 : (treeOf t).deep ≤ t.length + 1 := g3
 have hz := TR.size_le (T := treeOf t) (by omega)
 have hcov : CoversP t := hg.covers (i := 0) (by simp)
 have hl := legs_ok hs hc hcov hrl R0 (treeOf t) [] 0 g1 (by unfold R0; omega) (by omega) (WSz.nil _) (by omega)
 rw [g2] at hl
 have hl : expect_legs R0 t row 0 [] = _ := hl
 have hn := legsT_len t row (treeOf t) []
 have hn2 := leavesT_len (treeOf t)
 refine ⟨by rw [expect_Legs, h1, Option.bind_some, Bool.not_true, cond_false, hl, Option.bind_some], fun x hx => ?_, by omega⟩
 have hw := legsT_sz hs g1 (WSz.nil _) x hx
 refine ⟨⟨fun p hp => (hw.1.1 p hp).mono (by omega), by have := hw.1.2.1; omega, hw.1.2.2⟩, hw.2⟩
theorem reach16 {w : List AP} {f set : Nat} (h : WSz w 16 f) : SzQ (reachA set w) 3000 := by
 have := reachA_sz (set := set) h.1 (by omega)
 exact this.mono (by have := Nat.mul_le_mul_right (8 * 16 + 1) h.2.1; omega)
theorem legV_sz {x : AL} {f set : Nat} (h : WSz x.2.2 16 f) (hv : SzQ x.2.1 4) : SzQ (legV set x) 3004 := ((reach16 h).mul hv).mono (by decide)
def flo (n : Nat) (o : Nat → Rat) : List RAT := (List.range n).map fun f => canQ (o f)
theorem flo_len (n : Nat) (o : Nat → Rat) : (flo n o).length = n := by simp [flo]
theorem flo_get {n f : Nat} (o : Nat → Rat) (h : f < n) : (flo n o)[f]? = some (canQ (o f)) := by simp [flo, h]
theorem flo_congr {n : Nat} {o p : Nat → Rat} (h : ∀ f, f < n → o f = p f) : flo n o = flo n p := by
 rw [flo, flo]
 exact List.map_congr_left fun f hf => by rw [h f (List.mem_range.1 hf)]
theorem flo_set {n i : Nat} {o p : Nat → Rat} {x : Rat} (hx : p i = x) (hp : ∀ f, f ≠ i → p f = o f) : (flo n o).set i (canQ x) = flo n p := by
 apply List.ext_getElem?
 intro f
 rw [List.getElem?_set]
 by_cases hf : f < n
 · rw [flo_get _ hf, flo_get _ hf, flo_len]
   by_cases e : i = f
   · rw [if_pos e, if_pos (by omega), ← e, hx]
   · rw [if_neg e, hp f (fun h => e h.symm)]
 · have h1 : (flo n o)[f]? = none := List.getElem?_eq_none (by rw [flo_len]; omega)
   have h2 : (flo n p)[f]? = none := List.getElem?_eq_none (by rw [flo_len]; omega)
   rw [h1, h2]
   split
   · rw [if_neg (by rw [flo_len]; omega)]
   · rfl
abbrev PP := AP × AP
theorem rsum_zeros {f : Nat → Rat} {n : Nat} (h : ∀ i, i < n → f i = 0) : rsum f n = 0 := by
 induction n with
 | zero => rfl
 | succ n ih => rw [rsum, ih fun i hi => h i (by omega), h n (by omega), Rat.add_zero]
theorem bit_add {S f : Nat} (h : S.testBit f = false) : ∀ j, (S + 2 ^ f).testBit j = (decide (j = f) || S.testBit j) := by
 induction f generalizing S with
 | zero =>
  intro j
  have h0 : S % 2 = 0 := by rw [Nat.testBit_zero] at h; simpa using h
  cases j with
  | zero => rw [Nat.testBit_zero]; simp; omega
  | succ j =>
   rw [Nat.testBit_succ, Nat.testBit_succ, show (S + 2 ^ 0) / 2 = S / 2 by omega]
   simp
 | succ f ih =>
  intro j
  rw [Nat.testBit_succ] at h
  have e1 : (S + 2 ^ (f + 1)) / 2 = S / 2 + 2 ^ f := by rw [Nat.pow_succ]; omega
  have e2 : (S + 2 ^ (f + 1)) % 2 = S % 2 := by rw [Nat.pow_succ]; omega
  cases j with
  | zero => rw [Nat.testBit_zero, Nat.testBit_zero, e2]; simp
  | succ j =>
   rw [Nat.testBit_succ, Nat.testBit_succ, e1, ih h]
   simp
def popc : Nat → Nat → Nat
 | 0, _ => 0
 | n + 1, S => popc n S + (if S.testBit n then 1 else 0)
theorem popc_le (n S : Nat) : popc n S ≤ n := by
 induction n with
 | zero => exact Nat.le_refl _
 | succ n ih => rw [popc]; split <;> omega
theorem popc_congr {n S S' : Nat} (h : ∀ j, j < n → S.testBit j = S'.testBit j) : popc n S = popc n S' := by
 induction n with
 | zero => rfl
 | succ n ih => rw [popc, popc, ih fun j hj => h j (by omega), h n (by omega)]
theorem rsum_split (f : Nat → Rat) (a b : Nat) : rsum f (a + b) = rsum f a + rsum (fun i => f (i + a)) b := by
 induction b with
 | zero => simp [rsum, Rat.add_zero]
 | succ b ih => rw [← Nat.add_assoc, rsum, ih, rsum, Rat.add_assoc, Nat.add_comm a b]
theorem rprod_congr {f g : Nat → Rat} {n : Nat} (h : ∀ i, i < n → f i = g i) : rprod f n = rprod g n := by
 induction n with
 | zero => rfl
 | succ n ih => rw [rprod, rprod, ih fun i hi => h i (by omega), h n (by omega)]
abbrev BA := Rat × Rat
def pick (x : BA) (b : Bool) : Rat := if b then x.2 else x.1
def EE : List BA → (Nat → Rat) → Rat
 | [], c => c 0
 | x :: L, c => x.1 * EE L c + x.2 * EE L fun k => c (k + 1)
theorem EE_congr {L : List BA} : ∀ {c d : Nat → Rat}, (∀ k, k ≤ L.length → c k = d k) → EE L c = EE L d := by
 induction L with
 | nil => intro c d h; exact h 0 (Nat.le_refl _)
 | cons x L ih =>
  intro c d h
  rw [EE, EE, ih fun k hk => h k (by simp only [List.length_cons]; omega), ih fun k hk => h (k + 1) (by simp only [List.length_cons]; omega)]
theorem EE_mul {L : List BA} : ∀ {c : Nat → Rat} {q : Rat}, EE L (fun k => q * c k) = q * EE L c := by
 induction L with
 | nil => intro c q; rfl
 | cons x L ih => intro c q; rw [EE, EE, ih, ih]; grind
theorem EE_perm {L M : List BA} (h : L.Perm M) : ∀ c, EE L c = EE M c := by
 induction h with
 | nil => intro c; rfl
 | cons x _ ih => intro c; rw [EE, EE, ih, ih]
 | swap x y L => intro c; simp only [EE]; grind
 | trans _ _ ih1 ih2 => intro c; rw [ih1, ih2]
theorem EE_out {L : List BA} {x : BA} : ∀ c, EE (x :: L) c = EE (L ++ [x]) c := fun c => EE_perm (by
 have := (List.perm_append_comm (l₁ := [x]) (l₂ := L)); simpa using this) c
theorem sets_sum (g : Nat → BA) (n : Nat) : ∀ c : Nat → Rat, rsum (fun S => c (popc n S) * rprod (fun j => pick (g j) (S.testBit j)) n) (2 ^ n) = EE ((List.range n).map g) c := by
 induction n with
 | zero => intro c; simp [rsum, popc, rprod, EE, Rat.mul_one, Rat.zero_add]
 | succ n ih =>
  intro c
  have hb : ∀ S, S < 2 ^ n → S.testBit n = false := fun S hS => Nat.testBit_lt_two_pow hS
  have e1 : rsum (fun S => c (popc (n + 1) S) * rprod (fun j => pick (g j) (S.testBit j)) (n + 1)) (2 ^ n) = (g n).1 * rsum (fun S => c (popc n S) * rprod (fun j => pick (g j) (S.testBit j)) n) (2 ^ n) := by
   rw [Rat.mul_comm (g n).1, ← rsum_mul]
   refine rsum_congr fun S hS => ?_
   rw [popc, rprod, hb S hS, if_neg (by decide), Nat.add_zero, pick, if_neg (by decide)]; grind
  have e2 : rsum (fun S => c (popc (n + 1) (S + 2 ^ n)) * rprod (fun j => pick (g j) ((S + 2 ^ n).testBit j)) (n + 1)) (2 ^ n) = (g n).2 * rsum (fun S => c (popc n S + 1) * rprod (fun j => pick (g j) (S.testBit j)) n) (2 ^ n) := by
   rw [Rat.mul_comm (g n).2, ← rsum_mul]
   refine rsum_congr fun S hS => ?_
   have hj := bit_add (hb S hS)
   have hp : popc n (S + 2 ^ n) = popc n S := popc_congr fun j hj' => by rw [hj j, decide_eq_false (by omega), Bool.false_or]
   have hr : rprod (fun j => pick (g j) ((S + 2 ^ n).testBit j)) n = rprod (fun j => pick (g j) (S.testBit j)) n := rprod_congr fun j hj' => by rw [hj j, decide_eq_false (by omega), Bool.false_or]
   rw [popc, rprod, hp, hr, hj n, decide_eq_true rfl, Bool.true_or, if_pos rfl, pick, if_pos rfl]; grind
  rw [Nat.pow_succ, Nat.mul_two, rsum_split, e1, e2, ih c, ih fun k => c (k + 1), List.range_succ, List.map_append]
  show _ = EE (_ ++ [g n]) c
  rw [← EE_out, EE]
abbrev FP := Nat × BA
theorem lprod_perm {a b : List Rat} (h : a.Perm b) : lprod a = lprod b := by
 induction h with
 | nil => rfl
 | cons x _ ih => rw [lprod, lprod, ih]
 | swap x y l => simp only [lprod]; grind
 | trans _ _ h1 h2 => rw [h1, h2]
def flx (n : Nat) (g : Nat → RAT) : List RAT := (List.range n).map g
theorem flx_len (n : Nat) (g : Nat → RAT) : (flx n g).length = n := by simp [flx]
theorem flx_get {n f : Nat} (g : Nat → RAT) (h : f < n) : (flx n g)[f]? = some (g f) := by simp [flx, h]
theorem flx_set {n i : Nat} {o p : Nat → RAT} {x : RAT} (hx : p i = x) (hp : ∀ f, f ≠ i → p f = o f) : (flx n o).set i x = flx n p := by
 apply List.ext_getElem?
 intro f
 rw [List.getElem?_set]
 by_cases hf : f < n
 · rw [flx_get _ hf, flx_get _ hf, flx_len]
   by_cases e : i = f
   · rw [if_pos e, if_pos (by omega), ← e, hx]
   · rw [if_neg e, hp f (fun h => e h.symm)]
 · have h1 : (flx n o)[f]? = none := List.getElem?_eq_none (by rw [flx_len]; omega)
   have h2 : (flx n p)[f]? = none := List.getElem?_eq_none (by rw [flx_len]; omega)
   rw [h1, h2]
   split
   · rw [if_neg (by rw [flx_len]; omega)]
   · rfl
theorem flx_congr {n : Nat} {o p : Nat → RAT} (h : ∀ f, f < n → o f = p f) : flx n o = flx n p := List.map_congr_left fun f hf => h f (List.mem_range.1 hf)
def raw0 : RAT := ((false, []), [])
theorem rv_raw0 : rv raw0 = 0 := by decide +kernel
def one0 (b : Bool) : Rat := if b then 1 else 0
def zF (x : PP) : FP := (x.1.1, (one0 x.2.2.2, one0 x.1.2.2))
def topN (c : Nat → Rat) : Nat → Nat
 | 0 => 0
 | n + 1 => if c n = 0 then topN c n else n + 1
theorem topN_le (c : Nat → Rat) (n : Nat) : topN c n ≤ n := by
 induction n with
 | zero => exact Nat.le_refl _
 | succ n ih => rw [topN]; split <;> omega
theorem topN_zero {c : Nat → Rat} {n k : Nat} (h1 : topN c n ≤ k) (h2 : k < n) : c k = 0 := by
 induction n with
 | zero => omega
 | succ n ih =>
  rw [topN] at h1
  split at h1
  · rename_i e
    by_cases hk : k = n
    · rw [hk]; exact e
    · exact ih h1 (by omega)
  · omega
theorem topN_last {c : Nat → Rat} {n : Nat} (h : topN c n ≠ 0) : c (topN c n - 1) ≠ 0 := by
 induction n with
 | zero => exact absurd rfl h
 | succ n ih =>
  rw [topN] at h ⊢
  split
  · rename_i e; rw [if_pos e] at h; exact ih h
  · assumption
theorem topN_none {c : Nat → Rat} {n : Nat} (h : ∀ k, k < n → c k = 0) : topN c n = 0 := by
 induction n with
 | zero => rfl
 | succ n ih => rw [topN, if_pos (h n (by omega)), ih fun k hk => h k (by omega)]
theorem topN_full {c : Nat → Rat} {n : Nat} (h : c n ≠ 0) : topN c (n + 1) = n + 1 := by rw [topN, if_neg h]
theorem topN_ext {c : Nat → Rat} {n m : Nat} (h : ∀ k, n ≤ k → c k = 0) (hm : n ≤ m) : topN c m = topN c n := by
 induction m with
 | zero => have : n = 0 := by omega
           subst this; rfl
 | succ m ih =>
  by_cases e : n = m + 1
  · rw [e]
  · rw [topN, if_pos (h m (by omega)), ih (by omega)]
def polL (n : Nat) (c : Nat → Rat) : List RAT := flo (topN c n) c
theorem polL_len (n : Nat) (c : Nat → Rat) : (polL n c).length = topN c n := flo_len _ _
theorem polL_ext {n m : Nat} {c : Nat → Rat} (h : ∀ k, n ≤ k → c k = 0) (hm : n ≤ m) : polL m c = polL n c := by rw [polL, polL, topN_ext h hm]
theorem vals_flo {n k : Nat} (c : Nat → Rat) : vals (flo n c) k = if k < n then c k else 0 := by
 unfold vals
 split
 · rename_i h; rw [flo_get c h]; exact rv_canQ _
 · rename_i h
   rw [List.getElem?_eq_none (by rw [flo_len]; omega)]
   exact rv_raw0
theorem vals_polL {n k : Nat} (c : Nat → Rat) : vals (polL n c) k = if k < n then c k else 0 := by
 rw [polL, vals_flo]
 by_cases h : k < topN c n
 · rw [if_pos h, if_pos (by have := topN_le c n; omega)]
 · rw [if_neg h]
   split
   · rename_i h2; exact (topN_zero (c := c) (n := n) (k := k) (by omega) h2).symm
   · rfl
theorem vals_out {l : List RAT} {k : Nat} (h : l.length ≤ k) : vals l k = 0 := by
 unfold vals
 rw [List.getElem?_eq_none h]
 exact rv_raw0
theorem vals_polL_out {n k : Nat} {c : Nat → Rat} (h : ∀ k, n ≤ k → c k = 0) : vals (polL n c) k = c k := by
 rw [vals_polL]
 split
 · rfl
 · rw [h k (by omega)]
theorem ptrim_ok {n : Nat} {c : Nat → Rat} (hn : n ≤ 1000000) (hc : ∀ k, k < n → SzQ (c k) 1000000000) : poly_trim (flo n c) = some (polL n c) := by
 obtain ⟨r, ⟨d, hd, hd2⟩, e⟩ := lp_wf (step := poly_trim_s2)
  (fun v => ∃ m : Nat, v = ((flo n c, (m : Int), ()), ()) ∧ m ≤ n ∧ topN c n = topN c m) (fun v => v.1.2.1.toNat)
  (fun r => ∃ m : Nat, r = ((flo n c, (m : Int), ()), ()) ∧ m = topN c n)
  (v := ((flo n c, ((flo n c).length : Int), ()), ())) ⟨n, by rw [flo_len], Nat.le_refl _, rfl⟩ (by show ((flo n c).length : Int).toNat < _; rw [flo_len]; omega) (by
  rintro v ⟨m, rfl, hm, ht⟩
  cases m with
  | zero =>
   left
   refine ⟨_, ⟨0, rfl, by rw [ht]; rfl⟩, fun g => ?_⟩
   rw [poly_trim_s2, cnd' (by omega)]
  | succ m =>
   have e1 : isub .i64 ((m + 1 : Nat) : Int) 1 = (m : Int) := by rw [isub_i (by omega) (by omega)]; omega
   have st : ∀ g, poly_trim_s2 g ((flo n c, ((m + 1 : Nat) : Int), ()), ()) = bif decide (rcmp (c m) 0 = 0) then g ((flo n c, (m : Int), ()), ()) else some ((flo n c, ((m + 1 : Nat) : Int), ()), ()) := by
     intro g
     rw [poly_trim_s2, cnd (by omega), e1, cnd2 (by omega) (by rw [flo_len]; omega), Int.toNat_natCast, flo_get c (by omega), Option.bind_some, ratio_Sign_ok ((hc m (by omega)).sm (by decide)), Option.bind_some, rv_canQ]
   by_cases h0 : c m = 0
   · right
     refine ⟨_, ⟨m, rfl, by omega, by rw [ht, topN, if_pos h0]⟩, ?_, fun g => ?_⟩
     · show ((m : Nat) : Int).toNat < ((m + 1 : Nat) : Int).toNat; omega
     · rw [st g, h0, show rcmp 0 0 = 0 by decide, cnd rfl]
   · left
     refine ⟨_, ⟨m + 1, rfl, by rw [ht, topN, if_neg h0]⟩, fun g => ?_⟩
     have : ¬ rcmp (c m) 0 = 0 := by
       unfold rcmp
       intro e
       split at e
       · exact absurd e (by decide)
       · split at e
         · exact absurd e (by decide)
         · rename_i h1 h2
           exact h0 (by grind)
     rw [st g, cnd' this])
 rw [poly_trim, e, hd, Option.bind_some]
 dsimp only
 subst hd2
 have hle := topN_le c n
 rw [decide_eq_true (by omega), decide_eq_true (by omega), decide_eq_true (by rw [flo_len]; omega)]
 show some _ = _
 rw [Int.sub_zero, Int.toNat_natCast, polL]
 congr 1
 unfold flo
 rw [← List.map_take, List.take_range, Nat.min_eq_left hle]
theorem at4_ok {l : List RAT} {k : Nat} : ∃ x, poly_at l (k : Int) = some x ∧ rv x = vals l k ∧ (k < l.length → l[k]? = some x) ∧ (l.length ≤ k → x = canQ 0) := by
 by_cases h : k < l.length
 · refine ⟨l[k], ?_, by rw [vals_get h], fun _ => List.getElem?_eq_getElem h, fun h' => by omega⟩
   rw [poly_at, cnd (by omega), cnd (by omega), Int.toNat_natCast, List.getElem?_eq_getElem h, Option.bind_some]
 · refine ⟨canQ 0, ?_, by rw [rv_canQ, vals_out (by omega)], fun h' => absurd h' h, fun _ => rfl⟩
   rw [poly_at, cnd' (by omega), ratio_Zero_ok]; rfl
def LSz (l : List RAT) (k : Nat) : Prop := l.length ≤ 1000 ∧ ∀ x ∈ l, SzR x k
theorem LSz.vals {l : List RAT} {k i : Nat} (h : LSz l k) (hk : 0 < k) : SzQ (vals l i) k := by
 by_cases hi : i < l.length
 · exact vals_sz h.2 hk hi
 · rw [vals_out (by omega)]; exact SzQ.zero.mono hk
theorem LSz.polL {n k : Nat} {c : Nat → Rat} (hn : n ≤ 1000) (h : ∀ i, i < n → SzQ (c i) k) : LSz (polL n c) k := by
 refine ⟨by rw [polL_len]; have := topN_le c n; omega, fun x hx => ?_⟩
 obtain ⟨i, hi, rfl⟩ := List.mem_map.1 hx
 have := List.mem_range.1 hi
 exact (h i (by have := topN_le c n; omega)).szR
theorem poly_Add_ok {a b : List RAT} {j k : Nat} (ha : LSz a j) (hb : LSz b k) (hj : 0 < j) (hk : 0 < k) (hjk : j + k < 1000000000) : poly_Add a b = some (polL (max a.length b.length) fun i => vals a i + vals b i) := by
 obtain ⟨n, hn⟩ : ∃ n, n = max a.length b.length := ⟨_, rfl⟩
 have n1 : n ≤ 1000 := by have := ha.1; have := hb.1; omega
 have hmx : mx (a.length : Int) (b.length : Int) = (n : Int) := by unfold mx; split <;> omega
 obtain ⟨c, hc⟩ : ∃ c : Nat → Rat, c = fun i => vals a i + vals b i := ⟨_, rfl⟩
 have key := lp_up (step := poly_Add_s3) (fun i => ((a, b, flo i c, (n : Int), (i : Int), ()), ())) n (r := ((flo n c, ()), ())) (by omega) (by
  intro g i hi
  have d0 : (i : Int) < (n : Int) := by omega
  obtain ⟨x, x1, x2, x3, x4⟩ := at4_ok (l := a) (k := i)
  obtain ⟨y, y1, y2, y3, y4⟩ := at4_ok (l := b) (k := i)
  have sx : Sm x := by
   by_cases h : i < a.length
   · exact (ha.2 x (List.mem_of_getElem? (x3 h))).sm (by omega)
   · rw [x4 (by omega)]; exact SzQ.zero.sm (by decide)
  have sy : Sm y := by
   by_cases h : i < b.length
   · exact (hb.2 y (List.mem_of_getElem? (y3 h))).sm (by omega)
   · rw [y4 (by omega)]; exact SzQ.zero.sm (by decide)
  rw [poly_Add_s3, cnd d0, x1, Option.bind_some, y1, Option.bind_some, ratio_Add_ok sx sy, Option.bind_some, x2, y2, blt (by rw [flo_len]; omega), cond_true, iadd1 (by omega)]
  have : flo (i + 1) c = flo i c ++ [canQ (vals a i + vals b i)] := by rw [hc]; simp [flo, List.range_succ]
  rw [this]; rfl) (by
  intro g
  rw [poly_Add_s3, cnd' (by omega)])
 have key : lp poly_Add_s3 K0 ((a, b, [], (n : Int), 0, ()), ()) = _ := key
 rw [poly_Add, hmx, key, Option.bind_some]
 dsimp only
 rw [ptrim_ok (by omega) (fun i _ => by rw [hc]; exact ((ha.vals hj).add (hb.vals hk)).mono (by omega)), Option.bind_some, ← hn, hc]
theorem poly_Scale_ok {a : List RAT} {q : RAT} {j k : Nat} (ha : LSz a j) (hq : SzR q k) (hj : 0 < j) (hk : 0 < k) (hjk : j + k < 1000000000) : poly_Scale a q = some (polL a.length fun i => vals a i * rv q) := by
 obtain ⟨n, hn⟩ : ∃ n, n = a.length := ⟨_, rfl⟩
 have n1 : n ≤ 1000 := by have := ha.1; omega
 have hqz : SzQ (rv q) k := hq.szQ hk
 obtain ⟨c, hc⟩ : ∃ c : Nat → Rat, c = fun i => vals a i * rv q := ⟨_, rfl⟩
 have key := lp_up (step := poly_Scale_s3) (fun i => ((flo i c, a, (a.length : Int), (i : Int), ()), ((q.1.1, q.1.2, q.2, ()), ()))) n (r := ((flo n c, ()), ())) (by omega) (by
  intro g i hi
  have d0 : (i : Int) < (a.length : Int) := by omega
  have hi' : i < a.length := by omega
  have hm := ratio_Mul_ok ((ha.2 _ (List.getElem_mem hi')).sm (by omega)) (hq.sm (by omega))
  rw [poly_Scale_s3, cnd d0, cnd (by omega), Int.toNat_natCast, List.getElem?_eq_getElem hi', Option.bind_some]
  show (ratio_Mul a[i] q).bind _ = _
  rw [hm, Option.bind_some, blt (by rw [flo_len]; omega), cond_true, iadd1 (by omega)]
  have : flo (i + 1) c = flo i c ++ [canQ (rv a[i] * rv q)] := by rw [hc]; simp [flo, List.range_succ, vals_get hi']
  rw [this]; rfl) (by
  intro g
  rw [poly_Scale_s3, cnd' (by omega)])
 have key : lp poly_Scale_s3 K0 (([], a, (a.length : Int), 0, ()), ((q.1.1, q.1.2, q.2, ()), ())) = _ := key
 rw [poly_Scale, key, Option.bind_some]
 dsimp only
 rw [ptrim_ok (by omega) (fun i _ => by rw [hc]; exact ((ha.vals hj).mul hqz).mono (by omega)), Option.bind_some, hn, hc]
theorem poly_Sub_ok {a b : List RAT} {j k : Nat} (ha : LSz a j) (hb : LSz b k) (hj : 0 < j) (hk : 0 < k) (hjk : j + k < 900000000) : poly_Sub a b = some (polL (max a.length b.length) fun i => vals a i - vals b i) := by
 have hof := ratio_Of_ok (n := -1) (by decide) (by decide)
 have s1 : SzQ (((-1 : Int)) : Rat) 2 := (SzQ.int (z := -1) (by decide)).mono (by decide)
 have hs := poly_Scale_ok hb s1.szR hk (by decide) (by omega)
 rw [rv_canQ] at hs
 have hz : ∀ i, SzQ (vals b i * (((-1 : Int)) : Rat)) (k + 2) := fun i => (hb.vals hk).mul s1
 have hl : LSz (polL b.length fun i => vals b i * (((-1 : Int)) : Rat)) (k + 2) := LSz.polL hb.1 fun i _ => hz i
 have hA := poly_Add_ok ha hl hj (by omega) (by omega)
 rw [poly_Sub, hof, Option.bind_some, hs, Option.bind_some, hA, Option.bind_some]
 congr 1
 have hv : ∀ i, vals (polL b.length fun i => vals b i * (((-1 : Int)) : Rat)) i = -vals b i := fun i => by
   rw [vals_polL_out (fun k hk => by rw [vals_out hk, Rat.zero_mul])]
   have : (((-1 : Int)) : Rat) = -1 := rfl
   rw [this]; grind
 have hc : (fun i => vals a i + vals (polL b.length fun i => vals b i * (((-1 : Int)) : Rat)) i) = fun i => vals a i - vals b i := by
   funext i; rw [hv, Rat.sub_eq_add_neg]
 rw [hc]
 have hle : (polL b.length fun i => vals b i * (((-1 : Int)) : Rat)).length ≤ b.length := by rw [polL_len]; exact topN_le _ _
 symm
 apply polL_ext
 · intro i hi
   have h1 : vals a i = 0 := vals_out (by omega)
   have h2 : vals b i = 0 := by
    have := hv i
    rw [vals_out (by omega)] at this
    grind
   rw [h1, h2, Rat.sub_self]
 · omega
theorem poly_Same_ok {a b : List RAT} {j k : Nat} (ha : LSz a j) (hb : LSz b k) (hj : 0 < j) (hk : 0 < k) (hjk : j + k < 900000000) (h : ∀ i, vals a i = vals b i) : poly_Same a b = some true := by
 rw [poly_Same, poly_Sub_ok ha hb hj hk hjk, Option.bind_some, polL_len, topN_none (fun i _ => by rw [h i, Rat.sub_self])]
 rfl
theorem poly_Clean_ok {a : List RAT} {j : Nat} (ha : LSz a j) (hj : 0 < j) (hj2 : j < 1000000000) : poly_Clean a = some (polL a.length (vals a)) := by
 obtain ⟨n, hn⟩ : ∃ n, n = a.length := ⟨_, rfl⟩
 have n1 : n ≤ 1000 := by have := ha.1; omega
 obtain ⟨G, hG⟩ : ∃ G : Nat → Nat → RAT, G = fun i f => if f < i then canQ (vals a f) else raw0 := ⟨_, rfl⟩
 have key := lp_up (step := poly_Clean_s3) (fun i => ((flx n (G i), a, (a.length : Int), (i : Int), ()), ())) n (r := ((flo n (vals a), ()), ())) (by omega) (by
  intro g i hi
  have d0 : (i : Int) < (a.length : Int) := by omega
  have hi' : i < a.length := by omega
  have hm := ratio_Clean_ok ((ha.2 _ (List.getElem_mem hi')).sm (by omega))
  rw [poly_Clean_s3, cnd d0, cnd (by omega), Int.toNat_natCast, List.getElem?_eq_getElem hi', Option.bind_some, hm, Option.bind_some, cnd2 (by omega) (by rw [flx_len]; omega), flx_get _ hi, Option.bind_some, iadd1 (by omega)]
  rw [flx_set (p := G (i + 1)) (by rw [hG]; show (if i < i + 1 then _ else _) = _; rw [if_pos (by omega), vals_get hi']) (fun f hf => by
   rw [hG]
   show (if f < i + 1 then _ else _) = if f < i then _ else _
   by_cases h : f < i
   · rw [if_pos (by omega), if_pos h]
   · rw [if_neg (by omega), if_neg h])]
  rfl) (by
  intro g
  rw [poly_Clean_s3, cnd' (by omega), flx_congr (o := G n) (p := fun f => canQ (vals a f)) (fun f hf => by rw [hG]; exact if_pos hf)]; rfl)
 have e0 : flx n (G 0) = List.replicate n raw0 := by
  have : G 0 = fun _ => raw0 := by funext f; rw [hG]; exact if_neg (by omega)
  rw [this, flx, List.map_const', List.length_range]
 rw [e0, hn] at key
 have key : lp poly_Clean_s3 K0 ((List.replicate a.length (((false, []), []) : RAT), a, (a.length : Int), 0, ()), ()) = _ := key
 have c1 : (decide ((a.length : Int) = (a.length : Int)) && decide (0 ≤ (a.length : Int)) && decide (((56 : Nat) : Int) * (a.length : Int) ≤ 281474976710656) && decide ((a.length : Int) ≤ 9223372036854775807)) = true := by
  have := ha.1
  rw [decide_eq_true rfl, decide_eq_true (by omega), decide_eq_true (by omega), decide_eq_true (by omega)]; rfl
 rw [poly_Clean, c1, cond_true, Int.toNat_natCast, key, Option.bind_some]
 dsimp only
 rw [ptrim_ok (by omega) (fun i _ => (ha.vals hj).mono (by omega)), Option.bind_some]
def PS (A B : Nat → Rat) (i t : Nat) : Rat := rsum (fun i' => if i' ≤ t then A i' * B (t - i') else 0) i
theorem PS_succ (A B : Nat → Rat) (i t : Nat) : PS A B (i + 1) t = PS A B i t + (if i ≤ t then A i * B (t - i) else 0) := rfl
theorem poly_Mul_ok {a b : List RAT} {j k s : Nat} (ha : LSz a j) (hb : LSz b k) (hj : 0 < j) (hk : 0 < k) (hj2 : j < 100000000) (hk2 : k < 100000000) (hs : s < 1000000000)
   (hS : ∀ i t, SzQ (PS (vals a) (vals b) i t) s) :
   poly_Mul a b = some (polL (topN (vals a) a.length + topN (vals b) b.length - 1) (PS (vals a) (vals b) (topN (vals a) a.length))) := by
 obtain ⟨A, eA⟩ : ∃ A, A = vals a := ⟨_, rfl⟩
 obtain ⟨B, eB⟩ : ∃ B, B = vals b := ⟨_, rfl⟩
 have hA : ∀ i, SzQ (A i) j := fun i => eA ▸ ha.vals hj
 have hB : ∀ i, SzQ (B i) k := fun i => eB ▸ hb.vals hk
 have ca := poly_Clean_ok ha hj (by omega)
 have cb := poly_Clean_ok hb hk (by omega)
 rw [← eA, ← eB] at hS ⊢
 rw [← eA] at ca
 rw [← eB] at cb
 have tla := topN_le A a.length
 have tlb := topN_le B b.length
 have hal := ha.1
 have hbl := hb.1
 have zb : ∀ t, topN B b.length ≤ t → B t = 0 := fun t ht => by
   by_cases h : t < b.length
   · exact topN_zero ht h
   · rw [eB]; exact vals_out (by omega)
 obtain ⟨la, ela⟩ : ∃ la, la = topN A a.length := ⟨_, rfl⟩
 obtain ⟨lb, elb⟩ : ∃ lb, lb = topN B b.length := ⟨_, rfl⟩
 have pa : polL a.length A = flo la A := by rw [polL, ela]
 have pb : polL b.length B = flo lb B := by rw [polL, elb]
 rw [pa] at ca
 rw [pb] at cb
 rw [← ela, ← elb]
 rw [← elb] at zb
 rw [poly_Mul, ca, Option.bind_some, cb, Option.bind_some, flo_len, flo_len]
 by_cases h1 : la = 0
 · rw [cnd (by omega), h1, polL, topN_none (c := PS A B 0) (fun t _ => rfl)]; rfl
 · by_cases h2 : lb = 0
   · rw [cnd' (by omega), cnd (by omega), h2, polL, topN_none (c := PS A B la) (fun t _ => rsum_zeros fun i _ => by
      rw [zb _ (by omega), Rat.mul_zero, ite_self])]; rfl
   · obtain ⟨N, eN⟩ : ∃ N, N = la + lb - 1 := ⟨_, rfl⟩
     have i1 : iadd .i64 (la : Int) (lb : Int) = ((la + lb : Nat) : Int) := by rw [iadd_i (by omega) (by omega)]; omega
     have i2 : isub .i64 ((la + lb : Nat) : Int) 1 = (N : Int) := by rw [isub_i (by omega) (by omega)]; omega
     have c1 : (decide ((N : Int) = (N : Int)) && decide (0 ≤ (N : Int)) && decide (((56 : Nat) : Int) * (N : Int) ≤ 281474976710656) && decide ((N : Int) ≤ 9223372036854775807)) = true := by
      rw [decide_eq_true rfl, decide_eq_true (by omega), decide_eq_true (by omega), decide_eq_true (by omega)]; rfl
     obtain ⟨G, hG⟩ : ∃ G : Nat → Nat → RAT, G = fun i f => if f < i then canQ 0 else raw0 := ⟨_, rfl⟩
     have k1 := lp_up (step := poly_Mul_s6) (fun i => ((flo la A, flo lb B, flx N (G i), (N : Int), (i : Int), ()), ())) N (r := ((flo la A, flo lb B, flo N (fun _ => 0), ()), ())) (by omega) (by
      intro g i hi
      have d0 : (i : Int) < (N : Int) := by omega
      rw [poly_Mul_s6, cnd d0, ratio_Zero_ok, Option.bind_some, cnd2 (by omega) (by rw [flx_len]; omega), Int.toNat_natCast, flx_get _ hi, Option.bind_some, iadd1 (by omega)]
      rw [flx_set (p := G (i + 1)) (by rw [hG]; show (if i < i + 1 then _ else _) = _; rw [if_pos (by omega)]) (fun f hf => by
       rw [hG]
       show (if f < i + 1 then _ else _) = if f < i then _ else _
       by_cases h : f < i
       · rw [if_pos (by omega), if_pos h]
       · rw [if_neg (by omega), if_neg h])]
      rfl) (by
      intro g
      rw [poly_Mul_s6, cnd' (by omega), flx_congr (o := G N) (p := fun f => canQ 0) (fun f hf => by rw [hG]; exact if_pos hf)]; rfl)
     have e0 : flx N (G 0) = List.replicate N raw0 := by
      have : G 0 = fun _ => raw0 := by funext f; rw [hG]; exact if_neg (by omega)
      rw [this, flx, List.map_const', List.length_range]
     rw [e0] at k1
     have k1 : lp poly_Mul_s6 K0 ((flo la A, flo lb B, List.replicate N (((false, []), []) : RAT), (N : Int), 0, ()), ()) = _ := k1
     have k2 := lp_up (step := poly_Mul_s11) (fun i => ((flo lb B, flo N (PS A B i), flo la A, (la : Int), (i : Int), ()), ())) la (r := ((flo N (PS A B la), ()), ())) (by omega) (by
      intro g i hi
      have d0 : (i : Int) < (la : Int) := by omega
      have d1 : (i : Int) < ((flo la A).length : Int) := by rw [flo_len]; omega
      obtain ⟨O, hO⟩ : ∃ O : Nat → Nat → Rat, O = fun j t => if i ≤ t ∧ t < i + j then PS A B (i + 1) t else PS A B i t := ⟨_, rfl⟩
      have k3 := lp_up (step := poly_Mul_s14) (fun j => ((flo lb B, flo N (O j), (i : Int), flo la A, (la : Int), (i : Int), flo lb B, ((flo lb B).length : Int), (j : Int), ()), (((canQ (A i)).1.1, (canQ (A i)).1.2, (canQ (A i)).2, ()), ()))) lb (r := ((flo lb B, flo N (PS A B (i + 1)), flo la A, (la : Int), (i : Int), ()), ())) (by omega) (by
       intro g t ht
       have e0 : (t : Int) < ((flo lb B).length : Int) := by rw [flo_len]; omega
       have ix : iadd .i64 (i : Int) (t : Int) = ((i + t : Nat) : Int) := by rw [iadd_i (by omega) (by omega)]; omega
       have hit : i + t < N := by omega
       have o1 : O t (i + t) = PS A B i (i + t) := by rw [hO]; exact if_neg (by omega)
       have m1 := ratio_Mul_ok ((hA i).sm (by omega)) ((hB t).sm (by omega))
       rw [rv_canQ, rv_canQ] at m1
       have m2 := ratio_Add_ok ((hS i (i + t)).sm (by omega)) (((hA i).mul (hB t)).sm (by omega))
       rw [rv_canQ, rv_canQ] at m2
       have e1 : PS A B i (i + t) + A i * B t = PS A B (i + 1) (i + t) := by rw [PS_succ, if_pos (by omega), show i + t - i = t by omega]
       rw [poly_Mul_s14, cnd e0, cnd (by omega), Int.toNat_natCast, flo_get _ ht, Option.bind_some, ix, cnd2 (by omega) (by rw [flo_len]; omega), Int.toNat_natCast, flo_get _ hit, Option.bind_some, o1]
       show (ratio_Mul (canQ (A i)) (canQ (B t))).bind _ = _
       rw [m1, Option.bind_some, m2, Option.bind_some, cnd2 (by omega) (by rw [flo_len]; omega), Option.bind_some, iadd1 (by omega), e1]
       rw [flo_set (p := O (t + 1)) (by rw [hO]; exact if_pos (by omega)) (fun f hf => by
         rw [hO]
         show (if i ≤ f ∧ f < i + (t + 1) then _ else _) = if i ≤ f ∧ f < i + t then _ else _
         by_cases h : i ≤ f ∧ f < i + t
         · rw [if_pos (by omega), if_pos h]
         · rw [if_neg (by omega), if_neg h])]
       rfl) (by
       intro g
       rw [poly_Mul_s14, cnd' (by rw [flo_len]; omega)]
       rw [flo_congr (o := O lb) (p := PS A B (i + 1)) (fun f hf => by
         rw [hO]
         show (if i ≤ f ∧ f < i + lb then _ else _) = _
         by_cases h : i ≤ f ∧ f < i + lb
         · rw [if_pos h]
         · rw [if_neg h, PS_succ]
           split
           · rw [zb _ (by omega), Rat.mul_zero, Rat.add_zero]
           · rw [Rat.add_zero])])
      have e3 : flo N (O 0) = flo N (PS A B i) := flo_congr fun f _ => by rw [hO]; exact if_neg (by omega)
      rw [e3] at k3
      have k3 : lp poly_Mul_s14 K0 ((flo lb B, flo N (PS A B i), (i : Int), flo la A, (la : Int), (i : Int), flo lb B, ((flo lb B).length : Int), 0, ()), (((canQ (A i)).1.1, (canQ (A i)).1.2, (canQ (A i)).2, ()), ())) = _ := k3
      rw [poly_Mul_s11, cnd d0, cnd2 (by omega) d1, Int.toNat_natCast, flo_get _ hi, Option.bind_some, k3, Option.bind_some]
      dsimp only
      rw [iadd1 (by omega)]
      rfl) (by
      intro g
      rw [poly_Mul_s11, cnd' (by omega)])
     have k2 : lp poly_Mul_s11 K0 ((flo lb B, flo N (fun _ => 0), flo la A, (la : Int), 0, ()), ()) = _ := k2
     rw [cnd' (by omega), cnd' (by omega), i1, i2, c1, cond_true, Int.toNat_natCast, List.length_replicate, k1, Option.bind_some]
     dsimp only
     rw [flo_len, k2, Option.bind_some]
     dsimp only
     rw [ptrim_ok (by omega) (fun t _ => (hS la t).mono (by omega)), Option.bind_some, eN]
def mulF (x : BA) (P : Nat → Rat) (k : Nat) : Rat := x.1 * P k + (if k = 0 then 0 else x.2 * P (k - 1))
theorem PS_lin {A B : Nat → Rat} (hB : ∀ t, 2 ≤ t → B t = 0) (i t : Nat) : PS A B i t = (if t < i then A t * B 0 else 0) + (if 1 ≤ t ∧ t - 1 < i then A (t - 1) * B 1 else 0) := by
 induction i with
 | zero => rw [if_neg (by omega), if_neg (by omega), Rat.add_zero]; rfl
 | succ i ih =>
  rw [PS_succ, ih]
  by_cases h1 : t = i
  · subst h1
    rw [if_neg (show ¬ t < t by omega), if_pos (show t ≤ t by omega), if_pos (show t < t + 1 by omega), Nat.sub_self]
    by_cases h2 : 1 ≤ t
    · rw [if_pos (show 1 ≤ t ∧ t - 1 < t by omega), if_pos (show 1 ≤ t ∧ t - 1 < t + 1 by omega)]; grind
    · rw [if_neg (show ¬ (1 ≤ t ∧ t - 1 < t) by omega), if_neg (show ¬ (1 ≤ t ∧ t - 1 < t + 1) by omega), Rat.add_zero, Rat.zero_add, Rat.add_zero]
  · by_cases h2 : t = i + 1
    · subst h2
      rw [if_neg (show ¬ i + 1 < i by omega), if_neg (show ¬ (1 ≤ i + 1 ∧ i + 1 - 1 < i) by omega), if_pos (show i ≤ i + 1 by omega), if_neg (show ¬ i + 1 < i + 1 by omega), if_pos (show 1 ≤ i + 1 ∧ i + 1 - 1 < i + 1 by omega), show i + 1 - i = 1 by omega, show i + 1 - 1 = i by omega, Rat.add_zero]
    · by_cases h3 : t < i
      · rw [if_pos h3, if_neg (show ¬ i ≤ t by omega), if_pos (show t < i + 1 by omega), Rat.add_zero]
        by_cases h4 : 1 ≤ t
        · rw [if_pos (show 1 ≤ t ∧ t - 1 < i by omega), if_pos (show 1 ≤ t ∧ t - 1 < i + 1 by omega)]
        · rw [if_neg (show ¬ (1 ≤ t ∧ t - 1 < i) by omega), if_neg (show ¬ (1 ≤ t ∧ t - 1 < i + 1) by omega)]
      · rw [if_neg h3, if_neg (show ¬ (1 ≤ t ∧ t - 1 < i) by omega), if_pos (show i ≤ t by omega), if_neg (show ¬ t < i + 1 by omega), if_neg (show ¬ (1 ≤ t ∧ t - 1 < i + 1) by omega), hB _ (show 2 ≤ t - i by omega), Rat.mul_zero, Rat.add_zero]
theorem mul_lin {n j k : Nat} {P : Nat → Rat} {b : List RAT} {x : BA} (hn : n ≤ 900) (hP : ∀ i, SzQ (P i) j) (h0 : ∀ i, n ≤ i → P i = 0) (hb : LSz b k) (hj : 0 < j) (hk : 0 < k) (hj2 : j < 100000000) (hk2 : k < 100000000)
   (b0 : vals b 0 = x.1) (b1 : vals b 1 = x.2) (b2 : b.length ≤ 2) :
   poly_Mul (polL n P) b = some (polL (n + 1) (mulF x P)) ∧ (∀ i, SzQ (mulF x P i) (2 * j + 2 * k + 1)) ∧ ∀ i, n + 1 ≤ i → mulF x P i = 0 := by
 have hv : vals (polL n P) = P := by funext i; exact vals_polL_out h0
 have hB : ∀ t, 2 ≤ t → vals b t = 0 := fun t ht => vals_out (by omega)
 have hbz : ∀ t, SzQ (vals b t) k := fun t => hb.vals hk
 have z0 : ∀ m, SzQ 0 (m + k) := fun m => SzQ.zero.mono (by omega)
 have hS : ∀ i t, SzQ (PS P (vals b) i t) (2 * j + 2 * k + 1) := fun i t => by
   rw [PS_lin hB]
   have s1 : SzQ (if t < i then P t * vals b 0 else 0) (j + k) := by
     split
     · exact (hP t).mul (hbz 0)
     · exact z0 j
   have s2 : SzQ (if 1 ≤ t ∧ t - 1 < i then P (t - 1) * vals b 1 else 0) (j + k) := by
     split
     · exact (hP (t - 1)).mul (hbz 1)
     · exact z0 j
   exact (s1.add s2).mono (by omega)
 have hM := poly_Mul_ok (a := polL n P) (b := b) (LSz.polL (by omega) fun i _ => hP i) hb hj hk hj2 hk2 (s := 2 * j + 2 * k + 1) (by omega) (by rw [hv]; exact hS)
 rw [hv] at hM
 obtain ⟨la, ela⟩ : ∃ la, la = topN P (polL n P).length := ⟨_, rfl⟩
 obtain ⟨lb, elb⟩ : ∃ lb, lb = topN (vals b) b.length := ⟨_, rfl⟩
 have hla : la ≤ n := by rw [ela]; exact Nat.le_trans (topN_le _ _) (by rw [polL_len]; exact topN_le _ _)
 have zA : ∀ t, la ≤ t → P t = 0 := fun t ht => by
   by_cases h : t < (polL n P).length
   · exact topN_zero (by omega) h
   · rw [← hv]; exact vals_out (by omega)
 have zB : ∀ t, lb ≤ t → vals b t = 0 := fun t ht => by
   by_cases h : t < b.length
   · exact topN_zero (by omega) h
   · exact vals_out (by omega)
 have hlb : lb ≤ 2 := by rw [elb]; exact Nat.le_trans (topN_le _ _) b2
 have hPS : ∀ t, PS P (vals b) la t = mulF x P t := fun t => by
   rw [PS_lin hB, mulF, b0, b1]
   congr 1
   · split
     · rw [Rat.mul_comm]
     · rw [zA t (by omega), Rat.mul_zero]
   · by_cases h : t = 0
     · rw [if_neg (by omega), if_pos h]
     · rw [if_neg h]
       by_cases h2 : t - 1 < la
       · rw [if_pos (by omega), Rat.mul_comm]
       · rw [if_neg (by omega), zA _ (by omega), Rat.mul_zero]
 have hz : ∀ i, n + 1 ≤ i → mulF x P i = 0 := fun i hi => by
   rw [mulF, h0 i (by omega), if_neg (by omega), h0 (i - 1) (by omega), Rat.mul_zero, Rat.mul_zero, Rat.add_zero]
 refine ⟨?_, fun i => by rw [← hPS]; exact hS la i, hz⟩
 rw [hM, ← ela, ← elb]
 congr 1
 have e1 : PS P (vals b) la = mulF x P := by funext t; exact hPS t
 rw [e1]
 symm
 have hz2 : ∀ i, la + lb - 1 ≤ i → mulF x P i = 0 := fun i hi => by
   by_cases hlb0 : lb = 0
   · rw [mulF, ← b0, ← b1, zB 0 (by omega), zB 1 (by omega)]
     split <;> simp [Rat.zero_mul, Rat.add_zero]
   · by_cases hlb1 : lb = 1
     · rw [mulF, ← b1, zB 1 (by omega), zA i (by omega)]
       split <;> simp [Rat.zero_mul, Rat.mul_zero, Rat.add_zero]
     · rw [mulF, zA i (by omega)]
       split
       · simp [Rat.mul_zero, Rat.add_zero]
       · rw [zA (i - 1) (by omega), Rat.mul_zero, Rat.mul_zero, Rat.add_zero]
 by_cases hle : la + lb - 1 ≤ n + 1
 · exact polL_ext hz2 hle
 · exact (polL_ext hz (by omega)).symm
def polF : List BA → Nat → Rat
 | [] => fun k => if k = 0 then 1 else 0
 | x :: L => mulF x (polF L)
theorem polF_EE (L : List BA) : ∀ k, polF L k = EE L fun j => if j = k then 1 else 0 := by
 induction L with
 | nil => intro k; show (if k = 0 then (1 : Rat) else 0) = if 0 = k then 1 else 0
          by_cases h : k = 0
          · subst h; rfl
          · rw [if_neg h, if_neg (fun e => h e.symm)]
 | cons x L ih =>
  intro k
  show mulF x (polF L) k = _
  rw [mulF, EE, ih]
  congr 1
  by_cases h : k = 0
  · subst h
    rw [if_pos rfl]
    have : EE L (fun j => if j + 1 = 0 then (1 : Rat) else 0) = EE L fun j => 0 * 0 := EE_congr fun j _ => by rw [if_neg (by omega), Rat.mul_zero]
    rw [this, EE_mul, Rat.zero_mul, Rat.mul_zero]
  · rw [if_neg h, ih]
    congr 1
    refine EE_congr fun j _ => ?_
    by_cases e : j = k - 1
    · rw [if_pos e, if_pos (by omega)]
    · rw [if_neg e, if_neg (by omega)]
theorem polF_out (L : List BA) : ∀ k, L.length + 1 ≤ k → polF L k = 0 := by
 induction L with
 | nil => intro k h; exact if_neg (by simp at h; omega)
 | cons x L ih =>
  intro k h
  simp only [List.length_cons] at h
  show mulF x (polF L) k = 0
  rw [mulF, ih k (by omega), if_neg (by omega), ih (k - 1) (by omega), Rat.mul_zero, Rat.mul_zero, Rat.add_zero]
def baP (p : PART) : BA := (rv p.2.1, one0 p.2.2)
def PaSz (l : List PART) (k : Nat) : Prop := l.length ≤ 16 ∧ ∀ p ∈ l, SzR p.2.1 k
theorem factor_ok {p : PART} {k : Nat} (h : SzR p.2.1 k) (hk : 0 < k) : ∃ b, linear_factor p = some b ∧ LSz b k ∧ b.length ≤ 2 ∧ vals b 0 = (baP p).1 ∧ vals b 1 = (baP p).2 ∧ b = (if p.2.2 then [p.2.1, canQ 1] else [p.2.1]) := by
 unfold linear_factor baP
 cases hb : p.2.2 with
 | true =>
  refine ⟨[p.2.1, canQ 1], by rw [cond_true, ratio_One_ok]; rfl, ⟨by simp, fun x hx => ?_⟩, by simp, rfl, ?_, rfl⟩
  · simp only [List.mem_cons, List.not_mem_nil, or_false] at hx
    rcases hx with rfl | rfl
    · exact h
    · exact (SzQ.one.mono hk).szR
  · show rv (canQ 1) = one0 true
    rw [rv_canQ]; rfl
 | false =>
  refine ⟨[p.2.1], rfl, ⟨by simp, fun x hx => ?_⟩, by simp, rfl, rv_raw0, rfl⟩
  simp only [List.mem_cons, List.not_mem_nil, or_false] at hx
  subst hx; exact h
def lfac (l : List PART) : List BA := (l.map baP).reverse
theorem lfac_step {l : List PART} {i : Nat} (h : i < l.length) : lfac (l.take (i + 1)) = baP l[i] :: lfac (l.take i) := by
 rw [lfac, List.take_succ_eq_append_getElem h, List.map_append, List.reverse_append]; rfl
theorem lfac_len (l : List PART) : (lfac l).length = l.length := by simp [lfac]
theorem Leaf_ok {l : LEG} {k : Nat} (h : PaSz l.2.2 k) (hk : 0 < k) (hk2 : k ≤ 200) : linear_Leaf l = some (polL (l.2.2.length + 1) (polF (lfac l.2.2))) ∧ ∀ t, SzQ (polF (lfac l.2.2) t) (65536 * (2 * k + 2)) := by
 obtain ⟨ps, eps⟩ : ∃ ps, ps = l.2.2 := ⟨_, rfl⟩
 rw [← eps] at h ⊢
 have h16 := h.1
 obtain ⟨s, hs⟩ : ∃ s : Nat → Nat, s = fun i => 2 ^ i * (2 * k + 2) - (2 * k + 1) := ⟨_, rfl⟩
 have hs0 : s 0 = 1 := by rw [hs]; show 2 ^ 0 * (2 * k + 2) - (2 * k + 1) = 1; omega
 have hs1 : ∀ i, s (i + 1) = 2 * s i + 2 * k + 1 := fun i => by
   rw [hs]
   show 2 ^ (i + 1) * (2 * k + 2) - (2 * k + 1) = 2 * (2 ^ i * (2 * k + 2) - (2 * k + 1)) + 2 * k + 1
   have hp : 1 ≤ 2 ^ i := Nat.one_le_two_pow
   obtain ⟨x, hx⟩ : ∃ x, x = 2 ^ i * (2 * k + 2) := ⟨_, rfl⟩
   have hx2 : 2 ^ (i + 1) * (2 * k + 2) = 2 * x := by rw [hx, Nat.pow_succ, Nat.mul_comm (2 ^ i) 2, Nat.mul_assoc]
   have hx3 : 2 * k + 2 ≤ x := by have := Nat.mul_le_mul_right (2 * k + 2) hp; omega
   rw [hx2, ← hx]; omega
 have hsl : ∀ i, i ≤ 16 → s i ≤ 65536 * (2 * k + 2) := fun i hi => by
   have hp : 2 ^ i ≤ 65536 := Nat.pow_le_pow_right (n := 2) (by decide) hi
   have := Nat.mul_le_mul_right (2 * k + 2) hp
   rw [hs]
   show 2 ^ i * (2 * k + 2) - (2 * k + 1) ≤ _
   omega
 have main : ∀ i, i ≤ ps.length → ∀ t, SzQ (polF (lfac (ps.take i)) t) (s i) := by
   intro i
   induction i with
   | zero =>
    intro _ t
    rw [hs0]
    show SzQ (if t = 0 then 1 else 0) 1
    split
    · exact SzQ.one
    · exact SzQ.zero
   | succ i ih =>
    intro hi
    obtain ⟨b, _, b2, b3, b4, b5, _⟩ := factor_ok (h.2 _ (List.getElem_mem (show i < ps.length by omega))) hk
    have := (mul_lin (n := i + 1) (P := polF (lfac (ps.take i))) (b := b) (x := baP ps[i]) (by omega) (ih (by omega)) (fun t ht => polF_out _ _ (by rw [lfac_len, List.length_take]; omega)) b2 (by
      have : 1 ≤ s i := by
       cases i with
       | zero => omega
       | succ i => have := hs1 i; omega
      omega) hk (by have := hsl i (by omega); omega) (by omega) b4 b5 b3).2.1
    intro t
    rw [lfac_step (by omega), hs1]
    exact this t
 have key := lp_up (step := linear_Leaf_s3) (fun i => ((polL (i + 1) (polF (lfac (ps.take i))), ps, (ps.length : Int), (i : Int), ()), ())) ps.length (r := ((polL (ps.length + 1) (polF (lfac ps)), ()), ())) (by omega) (by
   intro g i hi
   have d0 : (i : Int) < (ps.length : Int) := by omega
   obtain ⟨b, b1, b2, b3, b4, b5, _⟩ := factor_ok (h.2 _ (List.getElem_mem hi)) hk
   have hm := (mul_lin (n := i + 1) (P := polF (lfac (ps.take i))) (b := b) (x := baP ps[i]) (by omega) (main i (by omega)) (fun t ht => polF_out _ _ (by rw [lfac_len, List.length_take]; omega)) b2 (by
      have : 1 ≤ s i := by
       cases i with
       | zero => omega
       | succ i => have := hs1 i; omega
      omega) hk (by have := hsl i (by omega); omega) (by omega) b4 b5 b3).1
   rw [linear_Leaf_s3, cnd d0, cnd (by omega), Int.toNat_natCast, List.getElem?_eq_getElem hi, Option.bind_some, b1, Option.bind_some, hm, Option.bind_some, iadd1 (by omega), lfac_step hi]
   rfl) (by
   intro g
   rw [linear_Leaf_s3, cnd' (by omega), List.take_of_length_le (Nat.le_refl _)])
 have e0 : polL (0 + 1) (polF (lfac (ps.take 0))) = [canQ 1] := by
   have : topN (polF (lfac (ps.take 0))) 1 = 1 := topN_full (n := 0) (by show (if 0 = 0 then (1 : Rat) else 0) ≠ 0; decide)
   rw [polL, this]; rfl
 rw [e0] at key
 have key : lp linear_Leaf_s3 K0 (([canQ 1], ps, (ps.length : Int), 0, ()), ()) = _ := key
 refine ⟨?_, fun t => ?_⟩
 · rw [linear_Leaf, ratio_One_ok, Option.bind_some, ← eps, key]; rfl
 · have := main ps.length (Nat.le_refl _) t
   rw [List.take_of_length_le (Nat.le_refl _)] at this
   exact this.mono (hsl _ h16)
theorem in16_ok {S f : Nat} (hS : S < 9223372036854775808) (hf : f ≤ 1000000) : dendronlaw16_in (S : Int) (f : Int) = some (S.testBit f) := by
 have key := lp_up (step := dendronlaw16_in_s2) (fun i => ((((S / 2 ^ i : Nat) : Int), (f : Int), (i : Int), ()), ())) f (r := ((((S / 2 ^ f : Nat) : Int), ()), ())) (by omega) (by
  intro g i hi
  have d0 : (i : Int) < (f : Int) := by omega
  have hd : (S / 2 ^ i : Nat) < 9223372036854775808 := Nat.lt_of_le_of_lt (Nat.div_le_self _ _) hS
  have hq : iquo .i64 ((S / 2 ^ i : Nat) : Int) 2 = ((S / 2 ^ (i + 1) : Nat) : Int) := by
   obtain ⟨x, hx⟩ : ∃ x, x = S / 2 ^ i := ⟨_, rfl⟩
   rw [Nat.pow_succ, ← Nat.div_div_eq_div_mul, ← hx]
   rw [← hx] at hd
   rw [iquo_i (by omega) (by omega) (by omega)]; omega
  rw [dendronlaw16_in_s2, cnd d0, hq, iadd1 (by omega)]
  rfl) (by
  intro g
  rw [dendronlaw16_in_s2, cnd' (by omega)])
 have e0 : ((S / 2 ^ 0 : Nat) : Int) = (S : Int) := by simp
 rw [e0] at key
 have key : lp dendronlaw16_in_s2 K0 (((S : Int), (f : Int), 0, ()), ()) = _ := key
 rw [dendronlaw16_in, key, Option.bind_some]
 dsimp only
 congr 1
 have := testBit_div S f
 obtain ⟨x, hx⟩ : ∃ x, x = S / 2 ^ f := ⟨_, rfl⟩
 rw [← hx] at this ⊢
 rw [irem_n (by omega)]
 cases hb : S.testBit f with
 | true => rw [hb] at this; have := this.2 rfl; exact decide_eq_true (by omega)
 | false => rw [hb] at this; exact decide_eq_false (fun e => by have := this.1 (by omega); exact absurd this (by decide))
def thro (ps : List PART) (S : Nat) (n : Nat) : Rat := rprod (fun j => pick (baP ((ps[j]?).getD (0, raw0, false))) (S.testBit j)) n
theorem thro_sz {ps : List PART} {k S n : Nat} (h : PaSz ps k) (hk : 0 < k) (hn : n ≤ ps.length) : SzQ (thro ps S n) (1 + n * k) := by
 refine rprod_sz fun j hj => ?_
 have hj' : j < ps.length := by omega
 rw [List.getElem?_eq_getElem hj', Option.getD_some]
 unfold pick baP
 split
 · show SzQ (one0 _) k
   unfold one0
   split
   · exact SzQ.one.mono hk
   · exact SzQ.zero.mono (by omega)
 · exact (h.2 _ (List.getElem_mem hj')).szQ hk
theorem sums16_ok {ps : List PART} {k : Nat} (h : PaSz ps k) (hk : 0 < k) (hk2 : k ≤ 200) (h6 : ps.length ≤ 6) :
   ∃ L, dendronlaw16_sums ps = some L ∧ LSz L 1000000 ∧ ∀ t, vals L t = polF (lfac ps) t := by
 obtain ⟨n, hn⟩ : ∃ n, n = ps.length := ⟨_, rfl⟩
 have hp6 : 2 ^ n ≤ 2 ^ 6 := Nat.pow_le_pow_right (by decide) (by omega)
 have hp6 : 2 ^ n ≤ 64 := hp6
 have k1 := lp_up (step := dendronlaw16_sums_s4) (fun i => ((ps, (n : Int), ((2 ^ i : Nat) : Int), (i : Int), ()), ())) n (r := ((ps, (n : Int), ((2 ^ n : Nat) : Int), ()), ())) (by omega) (by
   intro g i hi
   have d0 : (i : Int) < (n : Int) := by omega
   have hpi : 2 ^ i ≤ 2 ^ 6 := Nat.pow_le_pow_right (by decide) (by omega)
   have em : imul .i64 2 ((2 ^ i : Nat) : Int) = ((2 ^ (i + 1) : Nat) : Int) := by
     obtain ⟨x, hx⟩ : ∃ x, x = 2 ^ i := ⟨_, rfl⟩
     have : 2 ^ (i + 1) = 2 * x := by rw [hx, Nat.pow_succ]; omega
     rw [← hx] at hpi
     rw [this, ← hx, imul_i] <;> omega
   rw [dendronlaw16_sums_s4, cnd d0, em, iadd1 (by omega)]
   rfl) (by
   intro g
   rw [dendronlaw16_sums_s4, cnd' (by omega)])
 have k1 : lp dendronlaw16_sums_s4 K0 ((ps, (n : Int), 1, 0, ()), ()) = _ := k1
 obtain ⟨N, hN⟩ : ∃ N, N = 2 ^ n := ⟨_, rfl⟩
 rw [← hN] at k1 hp6
 have tz : ∀ S m, m ≤ n → SzQ (thro ps S m) 1201 := fun S m hm => (thro_sz h hk (by omega)).mono (by
   have := Nat.mul_le_mul (show m ≤ 6 by omega) hk2; omega)
 obtain ⟨W, hW⟩ : ∃ W : Nat → Nat → Rat, W = fun S t => rsum (fun S => (if popc n S = t then 1 else 0) * thro ps S n) S := ⟨_, rfl⟩
 have wz : ∀ S t, S ≤ N → SzQ (W S t) 100000 := fun S t hS => by
   have := rsum_sz (f := fun S => (if popc n S = t then (1 : Rat) else 0) * thro ps S n) (k := 1202) (n := S) (fun j _ => by
     have : SzQ (if popc n j = t then (1 : Rat) else 0) 1 := by
       split
       · exact SzQ.one
       · exact SzQ.zero
     exact (this.mul (tz j n (Nat.le_refl _))).mono (by decide))
   rw [hW]
   exact this.mono (by have := Nat.mul_le_mul_right 1203 (show S ≤ 64 by omega); omega)
 obtain ⟨r, ⟨L, hr, l1, l2, l3⟩, e⟩ := lp_inv (step := dendronlaw16_sums_s9)
   (fun S v => ∃ L : List RAT, v = ((ps, (n : Int), (N : Int), L, (S : Int), ()), ()) ∧ L.length = n + 1 ∧ LSz L 100000 ∧ ∀ t, t ≤ n → vals L t = W S t)
   (fun r => ∃ L : List RAT, r = ((L, ()), ()) ∧ L.length = n + 1 ∧ LSz L 100000 ∧ ∀ t, t ≤ n → vals L t = W N t) N
   (v := ((ps, (n : Int), (N : Int), List.replicate (n + 1) (((false, []), []) : RAT), 0, ()), ()))
   ⟨List.replicate (n + 1) raw0, rfl, by simp, ⟨by simp; omega, fun x hx => by rw [List.mem_replicate] at hx; rw [hx.2]; exact ⟨by decide, by decide⟩⟩, fun t ht => by
     rw [vals_get (by simp; omega), List.getElem_replicate, rv_raw0, hW]; rfl⟩ (by omega) (by
   rintro S v hS ⟨L, rfl, l1, l2, l3⟩
   have d0 : (S : Int) < (N : Int) := by omega
   have k3 := lp_up (step := dendronlaw16_sums_s14) (fun i => ((ps, (n : Int), (N : Int), L, (S : Int), ((popc i S : Nat) : Int), (i : Int), ()), (((canQ (thro ps S i)).1.1, (canQ (thro ps S i)).1.2, (canQ (thro ps S i)).2, ()), ()))) n (r := ((ps, (n : Int), (N : Int), L, (S : Int), ((popc n S : Nat) : Int), ()), (((canQ (thro ps S n)).1.1, (canQ (thro ps S n)).1.2, (canQ (thro ps S n)).2, ()), ()))) (by omega) (by
     intro g i hi
     have e0 : (i : Int) < (n : Int) := by omega
     have hi' : i < ps.length := by omega
     have hp := popc_le i S
     have i1 : iadd .i64 (i : Int) 1 = (i : Int) + 1 := iadd1 (by omega)
     have i2 : iadd .i64 ((popc i S : Nat) : Int) 1 = ((popc i S : Nat) : Int) + 1 := iadd1 (by omega)
     have et : thro ps S (i + 1) = thro ps S i * pick (baP ps[i]) (S.testBit i) := by
       show _ * pick (baP ((ps[i]?).getD (0, raw0, false))) (S.testBit i) = _
       rw [List.getElem?_eq_getElem hi', Option.getD_some]; rfl
     have hz := h.2 _ (List.getElem_mem hi')
     rw [dendronlaw16_sums_s14, cnd e0, in16_ok (by omega) (by omega), Option.bind_some, i1, i2]
     cases hb : S.testBit i with
     | false =>
       have hm := ratio_Mul_ok ((tz S i (by omega)).sm (by decide)) (hz.sm (by omega))
       rw [rv_canQ] at hm
       rw [hb] at et
       have et : thro ps S (i + 1) = thro ps S i * rv ps[i].2.1 := et
       have ep : popc (i + 1) S = popc i S := by rw [popc, hb, if_neg (by decide)]; rfl
       rw [Bool.not_false, cond_true, cnd (by omega), Int.toNat_natCast, List.getElem?_eq_getElem hi', Option.bind_some]
       show (ratio_Mul (canQ (thro ps S i)) ps[i].2.1).bind _ = _
       rw [hm, Option.bind_some, et, ep]
       rfl
     | true =>
       rw [hb] at et
       have et : thro ps S (i + 1) = thro ps S i * one0 ps[i].2.2 := et
       have ep : popc (i + 1) S = popc i S + 1 := by rw [popc, hb, if_pos rfl]
       rw [Bool.not_true, cond_false, cnd (by omega), Int.toNat_natCast, List.getElem?_eq_getElem hi', Option.bind_some, ep, et]
       cases hk : ps[i].2.2 with
       | false =>
         have : thro ps S i * one0 false = 0 := Rat.mul_zero _
         rw [Bool.not_false, cond_true, ratio_Zero_ok, Option.bind_some, this]; rfl
       | true =>
         have : thro ps S i * one0 true = thro ps S i := Rat.mul_one _
         rw [Bool.not_true, cond_false, this]; rfl) (by
     intro g
     rw [dendronlaw16_sums_s14, cnd' (by omega)])
   have k3 : lp dendronlaw16_sums_s14 K0 ((ps, (n : Int), (N : Int), L, (S : Int), 0, 0, ()), (((canQ 1).1.1, (canQ 1).1.2, (canQ 1).2, ()), ())) = _ := k3
   have hpn := popc_le n S
   obtain ⟨p, hp⟩ : ∃ p, p = popc n S := ⟨_, rfl⟩
   rw [← hp] at k3 hpn
   have hpl : p < L.length := by omega
   have hx := l2.2 _ (List.getElem_mem hpl)
   have ha := ratio_Add_ok (hx.sm (by decide)) ((tz S n (Nat.le_refl _)).sm (by decide))
   rw [rv_canQ] at ha
   have hv : rv L[p] = W S p := by rw [← vals_get hpl, l3 p hpn]
   rw [hv] at ha
   have hWs : ∀ t, W (S + 1) t = W S t + (if p = t then 1 else 0) * thro ps S n := fun t => by rw [hW, hp]; rfl
   refine ⟨_, ⟨L.set p (canQ (W S p + thro ps S n)), rfl, by rw [List.length_set]; exact l1, ⟨by rw [List.length_set]; omega, fun x hx => ?_⟩, fun t ht => ?_⟩, fun g => ?_⟩
   · rcases List.mem_or_eq_of_mem_set hx with hx | rfl
     · exact l2.2 x hx
     · have := wz (S + 1) p (by omega)
       rw [hWs, if_pos rfl, Rat.one_mul] at this
       exact this.szR
   · rw [hWs]
     unfold vals
     rw [List.getElem?_set]
     by_cases e : p = t
     · subst e
       rw [if_pos rfl, if_pos hpl, Option.getD_some, rv_canQ, if_pos rfl, Rat.one_mul]
     · rw [if_neg e, if_neg e, Rat.zero_mul, Rat.add_zero]
       exact l3 t ht
   · rw [dendronlaw16_sums_s9, cnd d0, ratio_One_ok, Option.bind_some, k3, Option.bind_some]
     dsimp only
     rw [cnd2 (by omega) (by omega), Int.toNat_natCast, List.getElem?_eq_getElem hpl, Option.bind_some]
     show (ratio_Add L[p] (canQ (thro ps S n))).bind _ = _
     rw [ha, Option.bind_some, cnd2 (by omega) (by omega), Option.bind_some, iadd1 (by omega)]
     rfl) (by
   rintro v ⟨L, rfl, l1, l2, l3⟩
   refine ⟨_, ⟨L, rfl, l1, l2, l3⟩, fun g => ?_⟩
   rw [dendronlaw16_sums_s9, cnd' (by omega)])
 have i1 : iadd .i64 (n : Int) 1 = ((n + 1 : Nat) : Int) := iadd1 (by omega)
 have c1 : (decide (((n + 1 : Nat) : Int) = ((n + 1 : Nat) : Int)) && decide (0 ≤ ((n + 1 : Nat) : Int)) && decide (((56 : Nat) : Int) * ((n + 1 : Nat) : Int) ≤ 281474976710656) && decide (((n + 1 : Nat) : Int) ≤ 9223372036854775807)) = true := by
   rw [decide_eq_true rfl, decide_eq_true (by omega), decide_eq_true (by omega), decide_eq_true (by omega)]; rfl
 refine ⟨L, ?_, ⟨l2.1, fun x hx => ⟨Nat.le_trans (l2.2 x hx).1 (by decide), Nat.le_trans (l2.2 x hx).2 (by decide)⟩⟩, fun t => ?_⟩
 · rw [dendronlaw16_sums, ← hn, k1, Option.bind_some]
   dsimp only
   rw [i1, c1, cond_true, Int.toNat_natCast, e, hr]; rfl
 · by_cases ht : t ≤ n
   · rw [l3 t ht, hW]
     have hss := sets_sum (fun j => baP ((ps[j]?).getD (0, raw0, false))) n fun j => if j = t then 1 else 0
     have e1 : (List.range n).map (fun j => baP ((ps[j]?).getD (0, raw0, false))) = ps.map baP := by
       apply List.ext_getElem?
       intro j
       by_cases hj : j < n
       · have hj' : j < ps.length := by omega
         simp [hj, hj']
       · rw [List.getElem?_eq_none (by simp; omega), List.getElem?_eq_none (by simp; omega)]
     rw [e1] at hss
     rw [polF_EE, lfac, EE_perm (List.reverse_perm _), ← hss, hN]; rfl
   · rw [vals_out (by omega), polF_out _ _ (by rw [lfac_len]; omega)]
def cut16P (p : PART) : PART := (p.1, (cutR 3 p.2.1, p.2.2))
theorem leg16_ok (l : LEG) (hl : l.2.2.length ≤ 9223372036854775807) : dendronlaw16_leg l = some (l.1, (((false, []), []), (l.2.2.take 6).map cut16P)) := by
 obtain ⟨ps, eps⟩ : ∃ ps, ps = l.2.2 := ⟨_, rfl⟩
 rw [← eps] at hl ⊢
 have key := lp_up (step := dendronlaw16_leg_s3) (fun i => (((ps.take i).map cut16P, (i : Int), ()), ((l.1, l.2.1.1.1, l.2.1.1.2, l.2.1.2, ps, ()), (0, false, [], [], [], ()), ()))) (min ps.length 6) (r := (((ps.take 6).map cut16P, ()), ((l.1, l.2.1.1.1, l.2.1.1.2, l.2.1.2, ps, ()), (0, false, [], [], [], ()), ()))) (by omega) (by
  intro g i hi
  have hi1 : i < ps.length := by omega
  have hF := Few09_ok [(false, ps[i].2.1)] 1 (by simp) (by decide)
  have hF : dendronlaw09_Few ([(false, ps[i].2.1)] : List CELL) 1 = some [(false, cutR 3 ps[i].2.1)] := hF
  rw [dendronlaw16_leg_s3, cnd (by omega), cnd (by omega), cnd (by omega), Int.toNat_natCast, List.getElem?_eq_getElem hi1, Option.bind_some, hF, Option.bind_some, cnd (by simp)]
  show (bif _ then _ else none) = _
  rw [blt (by simp; omega), cond_true, iadd1 (by omega), List.take_succ_eq_append_getElem hi1, List.map_append]
  rfl) (by
  intro g
  by_cases h : ps.length ≤ 6
  · rw [Nat.min_eq_left h, dendronlaw16_leg_s3, cnd' (by omega), List.take_of_length_le (Nat.le_refl _), List.take_of_length_le h]
  · rw [Nat.min_eq_right (by omega), dendronlaw16_leg_s3, cnd (by omega), cnd' (by omega)])
 have key : lp dendronlaw16_leg_s3 K0 (([], 0, ()), ((l.1, l.2.1.1.1, l.2.1.1.2, l.2.1.2, ps, ()), (0, false, [], [], [], ()), ())) = _ := key
 rw [dendronlaw16_leg, ← eps, key]; rfl
theorem cut16P_sz (l : List PART) : PaSz ((l.take 6).map cut16P) 3 := by
 refine ⟨by simp; omega, fun p hp => ?_⟩
 obtain ⟨x, _, rfl⟩ := List.mem_map.1 hp
 exact cutR_sz 3 _
theorem law16_awake_ok : dendronlaw16_awake = some true := by decide +kernel
theorem mulF_sz {x : BA} {P : Nat → Rat} {j k : Nat} (h1 : SzQ x.1 k) (h2 : SzQ x.2 k) (hP : ∀ t, SzQ (P t) j) (t : Nat) : SzQ (mulF x P t) (2 * j + 2 * k + 1) := by
 unfold mulF
 have a := h1.mul (hP t)
 have b : SzQ (if t = 0 then 0 else x.2 * P (t - 1)) (k + j) := by
  split
  · exact SzQ.zero.mono (by have := h1.pos; omega)
  · exact h2.mul (hP _)
 exact (a.add b).mono (by omega)
def cutQ (Q : Nat → Rat) (m t : Nat) : Rat := if t < m then Q t else 0
theorem cutQ_step (x : BA) (Q : Nat → Rat) (i t : Nat) : mulF x (cutQ Q (i + 1)) t = mulF x (cutQ Q i) t + (if t = i then Q i * x.1 else 0) + (if t = i + 1 then Q i * x.2 else 0) := by
 unfold mulF cutQ
 by_cases h1 : t = i
 · subst h1
   rw [if_pos (show t < t + 1 by omega), if_neg (show ¬ t < t by omega), if_pos rfl, if_neg (show ¬ t = t + 1 by omega)]
   by_cases h0 : t = 0
   · rw [if_pos h0, if_pos h0]; grind
   · rw [if_neg h0, if_neg h0, if_pos (show t - 1 < t + 1 by omega), if_pos (show t - 1 < t by omega)]; grind
 · rw [if_neg h1]
   by_cases h2 : t = i + 1
   · subst h2
     rw [if_neg (show ¬ i + 1 < i + 1 by omega), if_neg (show ¬ i + 1 < i by omega), if_neg (show ¬ i + 1 = 0 by omega), if_pos rfl, if_neg (show ¬ i + 1 = 0 by omega), show i + 1 - 1 = i by omega, if_pos (show i < i + 1 by omega), if_neg (show ¬ i < i by omega)]; grind
   · rw [if_neg h2]
     have e1 : (if t < i + 1 then Q t else 0) = if t < i then Q t else 0 := by
       by_cases h : t < i
       · rw [if_pos h, if_pos (by omega)]
       · rw [if_neg h, if_neg (by omega)]
     have e2 : t ≠ 0 → (if t - 1 < i + 1 then Q (t - 1) else 0) = if t - 1 < i then Q (t - 1) else 0 := fun h0 => by
       by_cases h : t - 1 < i
       · rw [if_pos h, if_pos (by omega)]
       · rw [if_neg h, if_neg (by omega)]
     rw [e1]
     by_cases h0 : t = 0
     · simp only [if_pos h0, Rat.add_zero]
     · simp only [if_neg h0, e2 h0, Rat.add_zero]
theorem DivMod_lin {n j k lb : Nat} {Q : Nat → Rat} {b : List RAT} {x : BA} (hn : n ≤ 900) (hQ : ∀ i, SzQ (Q i) j) (h0 : ∀ i, n ≤ i → Q i = 0) (hb : LSz b k) (hk : 0 < k) (hj2 : j < 100000000) (hk2 : k < 1000000)
   (b0 : vals b 0 = x.1) (b1 : vals b 1 = x.2) (b2 : b.length ≤ 2) (hlb : lb = topN (vals b) b.length) (hl : lb ≠ 0) :
   ∃ rest, poly_DivMod (polL (n + 1) (mulF x Q)) b = some (polL n Q, rest, 0) := by
 have hv1 : SzQ x.1 k := b0 ▸ hb.vals hk
 have hv2 : SzQ x.2 k := b1 ▸ hb.vals hk
 have hz : ∀ i, n + 1 ≤ i → mulF x Q i = 0 := fun i hi => by
   rw [mulF, h0 i (by omega), if_neg (by omega), h0 (i - 1) (by omega), Rat.mul_zero, Rat.mul_zero, Rat.add_zero]
 have hvals : vals (polL (n + 1) (mulF x Q)) = mulF x Q := by funext t; exact vals_polL_out hz
 have hA : LSz (polL (n + 1) (mulF x Q)) (2 * j + 2 * k + 1) := LSz.polL (by omega) fun i _ => mulF_sz hv1 hv2 hQ i
 have ca := poly_Clean_ok hA (by omega) (by omega)
 have cb := poly_Clean_ok hb hk (by omega)
 rw [hvals] at ca
 have zB : ∀ t, lb ≤ t → vals b t = 0 := fun t ht => by
   by_cases h : t < b.length
   · exact topN_zero (by omega) h
   · exact vals_out (by omega)
 have hlb2 : lb ≤ 2 := by rw [hlb]; exact Nat.le_trans (topN_le _ _) b2
 have hlast : vals b (lb - 1) ≠ 0 := by rw [hlb] at hl ⊢; exact topN_last hl
 have eb : polL b.length (vals b) = flo lb (vals b) := by rw [polL, hlb]
 rw [eb] at cb
 obtain ⟨q0, hq0⟩ : ∃ q0, q0 = topN Q n := ⟨_, rfl⟩
 have zQ : ∀ t, q0 ≤ t → Q t = 0 := fun t ht => by
   by_cases h : t < n
   · exact topN_zero (by omega) h
   · exact h0 t (by omega)
 have hq0n : q0 ≤ n := by rw [hq0]; exact topN_le _ _
 have ea : polL (polL (n + 1) (mulF x Q)).length (mulF x Q) = polL (n + 1) (mulF x Q) := by
   rw [polL_len]
   have : polL (topN (mulF x Q) (n + 1)) (mulF x Q) = polL (n + 1) (mulF x Q) := by
     symm
     refine polL_ext (fun t ht => ?_) (topN_le _ _)
     by_cases h : t < n + 1
     · exact topN_zero ht h
     · exact hz t (by omega)
   exact this
 rw [ea] at ca
 by_cases hq : q0 = 0
 ·
   have e1 : topN (mulF x Q) (n + 1) = 0 := topN_none fun t _ => by
     rw [mulF, zQ t (by omega), zQ (t - 1) (by omega), Rat.mul_zero, Rat.mul_zero, ite_self, Rat.add_zero]
   have e2 : polL (n + 1) (mulF x Q) = [] := by rw [polL, e1]; rfl
   have e3 : polL n Q = [] := by rw [polL, ← hq0, hq]; rfl
   refine ⟨[], ?_⟩
   rw [e2] at ca ⊢
   rw [poly_DivMod, ca, Option.bind_some, cb, Option.bind_some, flo_len, cnd' (by omega), cnd (by simp; omega), e3]
 · have hlq : Q (q0 - 1) ≠ 0 := by rw [hq0] at hq ⊢; exact topN_last hq
   obtain ⟨la, hla⟩ : ∃ la, la = q0 + lb - 1 := ⟨_, rfl⟩
   have cases2 : (lb = 1 ∧ x.2 = 0 ∧ x.1 ≠ 0) ∨ (lb = 2 ∧ x.2 ≠ 0) := by
     by_cases h1 : lb = 1
     · left
       refine ⟨h1, by rw [← b1]; exact zB 1 (by omega), by rw [← b0]; rw [h1] at hlast; exact hlast⟩
     · right
       have : lb = 2 := by omega
       refine ⟨this, by rw [← b1]; rw [this] at hlast; exact hlast⟩
   have top : ∀ i, mulF x (cutQ Q (i + 1)) (i + lb - 1) = Q i * vals b (lb - 1) := fun i => by
     rw [cutQ_step]
     have hc : ∀ t, i ≤ t → cutQ Q i t = 0 := fun t ht => if_neg (by omega)
     rcases cases2 with ⟨h1, h2, h3⟩ | ⟨h1, h2⟩
     · subst h1
       rw [show i + 1 - 1 = i by omega, if_pos rfl, if_neg (by omega), mulF, h2, hc i (Nat.le_refl _), show (1 : Nat) - 1 = 0 from rfl, b0]
       split <;> grind
     · subst h1
       rw [show i + 2 - 1 = i + 1 by omega, if_neg (by omega), if_pos rfl, mulF, hc (i + 1) (by omega), if_neg (by omega), show i + 1 - 1 = i by omega, hc i (Nat.le_refl _), show (2 : Nat) - 1 = 1 from rfl, b1]
       grind
   have cutAll : ∀ t, cutQ Q q0 t = Q t := fun t => by
     unfold cutQ
     split
     · rfl
     · rw [zQ t (by omega)]
   have mAll : mulF x (cutQ Q q0) = mulF x Q := by
     have : cutQ Q q0 = Q := by funext t; exact cutAll t
     rw [this]
   have topla : topN (mulF x Q) (n + 1) = la := by
     have h1 := top (q0 - 1)
     rw [show q0 - 1 + 1 = q0 by omega, mAll, show q0 - 1 + lb - 1 = la - 1 by omega] at h1
     have h2 : mulF x Q (la - 1) ≠ 0 := by
       rw [h1]
       intro e
       rcases Rat.mul_eq_zero.1 e with e | e
       · exact hlq e
       · exact hlast e
     have h3 : ∀ t, la ≤ t → mulF x Q t = 0 := fun t ht => by
       rcases cases2 with ⟨h1, h2, _⟩ | ⟨h1, _⟩
       · rw [mulF, h2, zQ t (by omega), Rat.mul_zero, Rat.zero_mul, ite_self, Rat.add_zero]
       · rw [mulF, zQ t (by omega), if_neg (by omega), zQ (t - 1) (by omega), Rat.mul_zero, Rat.mul_zero, Rat.add_zero]
     have e4 : la = (la - 1) + 1 := by omega
     rw [topN_ext h3 (by omega), e4]
     exact topN_full h2
   have ea2 : polL (n + 1) (mulF x Q) = flo la (mulF x Q) := by rw [polL, topla]
   have hBz : ∀ t, SzQ (vals b t) k := fun t => hb.vals hk
   have cz : ∀ m t, SzQ (cutQ Q m t) j := fun m t => by
     unfold cutQ
     split
     · exact hQ t
     · have := hQ (n + t); rw [h0 (n + t) (by omega)] at this; exact this
   obtain ⟨M, hM⟩ : ∃ M : Nat → Nat → Rat, M = fun m => mulF x (cutQ Q m) := ⟨_, rfl⟩
   have mz : ∀ m t, SzQ (M m t) (2 * j + 2 * k + 1) := fun m t => by rw [hM]; exact mulF_sz hv1 hv2 (cz m) t
   obtain ⟨hd, hhd⟩ : ∃ hd : Rat, hd = (vals b (lb - 1))⁻¹ := ⟨_, rfl⟩
   have hdz : SzQ hd k := by rw [hhd]; exact (hBz _).inv
   obtain ⟨G, hG⟩ : ∃ G : Nat → Nat → RAT, G = fun m t => if t < m then raw0 else canQ (Q t) := ⟨_, rfl⟩
   have inv := ratio_Inv_ok (a := canQ (vals b (lb - 1))) ((hBz _).sm (by omega))
   rw [rv_canQ] at inv
   have hi0 : ratio_Inv (canQ (vals b (lb - 1))) = some (canQ hd, 0) := by rw [inv, if_neg hlast, hhd]
   have key := lp_up (step := poly_DivMod_s9) (fun i => ((flo la (M (q0 - i)), flo lb (vals b), flx q0 (G (q0 - i)), (q0 : Int) - 1 - (i : Int), ()), (((canQ hd).1.1, (canQ hd).1.2, (canQ hd).2, ()), ()))) q0 (r := ((flo la (M 0), flx q0 (G 0), ()), ())) (by omega) (by
     intro g i hi
     obtain ⟨m, hm⟩ : ∃ m, q0 - i = m + 1 := ⟨q0 - i - 1, by omega⟩
     have e1 : (q0 : Int) - 1 - (i : Int) = (m : Int) := by omega
     have e2 : q0 - (i + 1) = m := by omega
     have e3 : (q0 : Int) - 1 - ((i + 1 : Nat) : Int) = (m : Int) - 1 := by omega
     rw [hm, e1, e2, e3]
     have ix : isub .i64 (iadd .i64 (m : Int) ((flo lb (vals b)).length : Int)) 1 = ((m + lb - 1 : Nat) : Int) := by
       rw [flo_len, iadd_i (by omega) (by omega), isub_i (by omega) (by omega)]; omega
     have hml : m + lb - 1 < la := by omega
     have hm1 := ratio_Mul_ok ((mz (m + 1) (m + lb - 1)).sm (by omega)) (hdz.sm (by omega))
     rw [rv_canQ, rv_canQ] at hm1
     have hq : M (m + 1) (m + lb - 1) * hd = Q m := by
       rw [hM]
       show mulF x (cutQ Q (m + 1)) (m + lb - 1) * hd = Q m
       rw [top m, hhd, Rat.mul_assoc, Rat.mul_inv_cancel _ hlast, Rat.mul_one]
     rw [hq] at hm1
     have hset : (flx q0 (G (m + 1))).set m (canQ (Q m)) = flx q0 (G m) := flx_set (by rw [hG]; exact if_neg (by omega)) (fun f hf => by
       rw [hG]
       show (if f < m then _ else _) = if f < m + 1 then _ else _
       by_cases h : f < m
       · rw [if_pos h, if_pos (by omega)]
       · rw [if_neg h, if_neg (by omega)])
     obtain ⟨O, hO⟩ : ∃ O : Nat → Nat → Rat, O = fun j t => if m ≤ t ∧ t < m + j then M m t else M (m + 1) t := ⟨_, rfl⟩
     have gm : (flx q0 (G m))[m]? = some (canQ (Q m)) := by
       rw [flx_get _ (by omega), hG]
       exact congrArg some (if_neg (by omega))
     have k3 := lp_up (step := poly_DivMod_s13) (fun j => ((flo la (O j), flo lb (vals b), flx q0 (G m), (m : Int), flo lb (vals b), ((flo lb (vals b)).length : Int), (j : Int), ()), (((canQ hd).1.1, (canQ hd).1.2, (canQ hd).2, ()), ()))) lb (r := ((flo la (M m), flo lb (vals b), flx q0 (G m), (m : Int), ()), (((canQ hd).1.1, (canQ hd).1.2, (canQ hd).2, ()), ()))) (by omega) (by
       intro g t ht
       have e0 : (t : Int) < ((flo lb (vals b)).length : Int) := by rw [flo_len]; omega
       have iy : iadd .i64 (m : Int) (t : Int) = ((m + t : Nat) : Int) := by rw [iadd_i (by omega) (by omega)]; omega
       have hit : m + t < la := by omega
       have o1 : O t (m + t) = M (m + 1) (m + t) := by rw [hO]; exact if_neg (by omega)
       have m1 := ratio_Mul_ok ((hQ m).sm (by omega)) ((hBz t).sm (by omega))
       rw [rv_canQ, rv_canQ] at m1
       have m2 := ratio_Sub_ok ((mz (m + 1) (m + t)).sm (by omega)) (((hQ m).mul (hBz t)).sm (by omega))
       rw [rv_canQ, rv_canQ] at m2
       have e1 : M (m + 1) (m + t) - Q m * vals b t = M m (m + t) := by
         rw [hM]
         show mulF x (cutQ Q (m + 1)) (m + t) - Q m * vals b t = mulF x (cutQ Q m) (m + t)
         rw [cutQ_step]
         have : t = 0 ∨ t = 1 := by omega
         rcases this with rfl | rfl
         · rw [if_pos (show m + 0 = m by omega), if_neg (show ¬ m + 0 = m + 1 by omega), b0]; grind
         · rw [if_neg (show ¬ m + 1 = m by omega), if_pos rfl, b1]; grind
       rw [poly_DivMod_s13, cnd e0, cnd (by omega), Int.toNat_natCast, flo_get _ ht, Option.bind_some, iy, cnd2 (by omega) (by rw [flo_len]; omega), Int.toNat_natCast, flo_get _ hit, Option.bind_some, o1, cnd2 (by omega) (by rw [flx_len]; omega), Int.toNat_natCast, gm, Option.bind_some, m1, Option.bind_some, m2, Option.bind_some, cnd2 (by omega) (by rw [flo_len]; omega), Option.bind_some, iadd1 (by omega), e1]
       rw [flo_set (p := O (t + 1)) (by rw [hO]; exact if_pos (by omega)) (fun f hf => by
         rw [hO]
         show (if m ≤ f ∧ f < m + (t + 1) then _ else _) = if m ≤ f ∧ f < m + t then _ else _
         by_cases h : m ≤ f ∧ f < m + t
         · rw [if_pos (by omega), if_pos h]
         · rw [if_neg (by omega), if_neg h])]
       rfl) (by
       intro g
       rw [poly_DivMod_s13, cnd' (by rw [flo_len]; omega)]
       rw [flo_congr (o := O lb) (p := M m) (fun f hf => by
         rw [hO]
         show (if m ≤ f ∧ f < m + lb then _ else _) = _
         by_cases h : m ≤ f ∧ f < m + lb
         · rw [if_pos h]
         · rw [if_neg h, hM]
           show mulF x (cutQ Q (m + 1)) f = mulF x (cutQ Q m) f
           rw [cutQ_step, if_neg (by omega), Rat.add_zero]
           split
           · rename_i hf1
             have : lb = 1 := by omega
             rcases cases2 with ⟨_, h2, _⟩ | ⟨h1, _⟩
             · rw [h2, Rat.mul_zero, Rat.add_zero]
             · omega
           · rw [Rat.add_zero])])
     have e4 : flo la (O 0) = flo la (M (m + 1)) := flo_congr fun f _ => by rw [hO]; exact if_neg (by omega)
     rw [e4] at k3
     have k3 : lp poly_DivMod_s13 K0 ((flo la (M (m + 1)), flo lb (vals b), flx q0 (G m), (m : Int), flo lb (vals b), ((flo lb (vals b)).length : Int), 0, ()), (((canQ hd).1.1, (canQ hd).1.2, (canQ hd).2, ()), ())) = _ := k3
     rw [poly_DivMod_s9, cnd (by omega), ix, cnd2 (by omega) (by rw [flo_len]; omega), Int.toNat_natCast, flo_get _ hml, Option.bind_some]
     show (ratio_Mul _ (canQ hd)).bind _ = _
     rw [hm1, Option.bind_some, cnd2 (by omega) (by rw [flx_len]; omega), Int.toNat_natCast, flx_get _ (by omega), Option.bind_some, hset, k3, Option.bind_some]
     dsimp only
     rw [isub_i (by omega) (by omega)]) (by
     intro g
     rw [Nat.sub_self, show (q0 : Int) - 1 - (q0 : Int) = -1 by omega, poly_DivMod_s9, cnd' (by omega)])
   rw [Nat.sub_zero, show (q0 : Int) - 1 - ((0 : Nat) : Int) = (q0 : Int) - 1 by omega] at key
   have eM : M q0 = mulF x Q := by rw [hM]; exact mAll
   rw [eM] at key
   have eG : flx q0 (G q0) = List.replicate q0 raw0 := by
     have : flx q0 (G q0) = flx q0 fun _ => raw0 := flx_congr fun t ht => by rw [hG]; exact if_pos ht
     rw [this, flx, List.map_const', List.length_range]
   rw [eG] at key
   have eG0 : flx q0 (G 0) = flo q0 Q := by rw [hG]; rfl
   rw [eG0] at key
   have i1 : isub .i64 (lb : Int) 1 = ((lb - 1 : Nat) : Int) := by rw [isub_i (by omega) (by omega)]; omega
   have i2 : iadd .i64 (isub .i64 (la : Int) (lb : Int)) 1 = (q0 : Int) := by rw [isub_i (by omega) (by omega), iadd_i (by omega) (by omega)]; omega
   have i3 : isub .i64 (q0 : Int) 1 = (q0 : Int) - 1 := isub_i (by omega) (by omega)
   have c1 : (decide ((q0 : Int) = (q0 : Int)) && decide (0 ≤ (q0 : Int)) && decide (((56 : Nat) : Int) * (q0 : Int) ≤ 281474976710656) && decide ((q0 : Int) ≤ 9223372036854775807)) = true := by
     rw [decide_eq_true rfl, decide_eq_true (by omega), decide_eq_true (by omega), decide_eq_true (by omega)]; rfl
   refine ⟨polL la (M 0), ?_⟩
   rw [ea2] at ca ⊢
   rw [poly_DivMod, ca, Option.bind_some, cb, Option.bind_some, flo_len, flo_len, cnd' (by omega), cnd' (by omega), i1, cnd2 (by omega) (by omega), Int.toNat_natCast, flo_get _ (by omega), Option.bind_some, hi0, Option.bind_some, i2, c1, cond_true, Int.toNat_natCast, List.length_replicate, i3]
   dsimp only
   have key : lp poly_DivMod_s9 K0 ((flo la (mulF x Q), flo lb (vals b), List.replicate q0 (((false, []), []) : RAT), (q0 : Int) - 1, ()), (((canQ hd).1.1, (canQ hd).1.2, (canQ hd).2, ()), ())) = _ := key
   rw [key, Option.bind_some]
   dsimp only
   rw [ptrim_ok (by omega) (fun t _ => (hQ t).mono (by omega)), Option.bind_some, ptrim_ok (by omega) (fun t _ => (mz 0 t).mono (by omega)), Option.bind_some, polL_ext zQ hq0n]
theorem polF_perm {L M : List BA} (h : L.Perm M) : polF L = polF M := by
 funext k; rw [polF_EE, polF_EE]; exact EE_perm h _
theorem lfac_out {ps : List PART} {i : Nat} (h : i < ps.length) : (lfac ps).Perm (baP ps[i] :: lfac (ps.take i ++ ps.drop (i + 1))) := by
 unfold lfac
 refine (List.reverse_perm _).trans ?_
 refine List.Perm.trans ?_ (List.Perm.cons _ (List.reverse_perm _).symm)
 have e : ps = ps.take i ++ ps[i] :: ps.drop (i + 1) := by
  rw [← List.drop_eq_getElem_cons h, List.take_append_drop]
 have hp : ps.Perm (ps[i] :: (ps.take i ++ ps.drop (i + 1))) := by
  conv => lhs; rw [e]
  exact List.perm_middle
 have := hp.map baP
 rwa [List.map_cons] at this
theorem pDivMod_zero {a b : List RAT} {j k : Nat} (ha : LSz a j) (hb : LSz b k) (hj : 0 < j) (hk : 0 < k) (hj2 : j < 1000000000) (hk2 : k < 1000000000) (h : topN (vals b) b.length = 0) : poly_DivMod a b = some ([], [], 2) := by
 rw [poly_DivMod, poly_Clean_ok ha hj hj2, Option.bind_some, poly_Clean_ok hb hk hk2, Option.bind_some, polL_len, h, cnd (by omega)]
theorem Without_ok {l : LEG} {k i : Nat} (h : PaSz l.2.2 k) (hk : 0 < k) (hk2 : k ≤ 200) (hi : i < l.2.2.length) :
   linear_Without l (i : Int) = some (if (l.2.2[i]).2.2 = false ∧ rv (l.2.2[i]).2.1 = 0 then ([], 2) else (polL l.2.2.length (polF (lfac (l.2.2.take i ++ l.2.2.drop (i + 1)))), 0)) ∧ ∀ t, SzQ (polF (lfac (l.2.2.take i ++ l.2.2.drop (i + 1))) t) (65536 * (2 * k + 2)) := by
 obtain ⟨p1, p2⟩ := Leaf_ok h hk hk2
 obtain ⟨fn, fq, ps⟩ := l
 have h : PaSz ps k := h
 have hi : i < ps.length := hi
 have p1 : linear_Leaf (fn, fq, ps) = some (polL (ps.length + 1) (polF (lfac ps))) := p1
 have p2 : ∀ t, SzQ (polF (lfac ps) t) (65536 * (2 * k + 2)) := p2
 show linear_Without (fn, fq, ps) (i : Int) = some (if ps[i].2.2 = false ∧ rv ps[i].2.1 = 0 then ([], 2) else (polL ps.length (polF (lfac (ps.take i ++ ps.drop (i + 1)))), 0)) ∧ ∀ t, SzQ (polF (lfac (ps.take i ++ ps.drop (i + 1))) t) (65536 * (2 * k + 2))
 have hr : PaSz (ps.take i ++ ps.drop (i + 1)) k := by
   refine ⟨by have := h.1; simp; omega, fun p hp => h.2 p ?_⟩
   rcases List.mem_append.1 hp with hp | hp
   · exact List.mem_of_mem_take hp
   · exact List.mem_of_mem_drop hp
 obtain ⟨rest, er⟩ : ∃ rest, rest = ps.take i ++ ps.drop (i + 1) := ⟨_, rfl⟩
 have hrz := (Leaf_ok (l := (0, (((false, []), []), rest))) (er ▸ hr) hk hk2).2
 have hrz : ∀ t, SzQ (polF (lfac rest) t) (65536 * (2 * k + 2)) := hrz
 rw [← er]
 refine ⟨?_, hrz⟩
 have hlen : rest.length + 1 = ps.length := by rw [er]; simp; omega
 obtain ⟨b, b1, b2, b3, b4, b5, b6⟩ := factor_ok (h.2 _ (List.getElem_mem hi)) hk
 have hP : polF (lfac ps) = mulF (baP ps[i]) (polF (lfac rest)) := by
   rw [polF_perm (lfac_out hi), ← er]; rfl
 rw [linear_Without]
 dsimp only
 rw [cnd' (by omega), cnd' (by omega), p1, Option.bind_some, cnd (by omega), Int.toNat_natCast, List.getElem?_eq_getElem hi, Option.bind_some, b1, Option.bind_some]
 by_cases hz : topN (vals b) b.length = 0
 · have hb0 : vals b 0 = 0 := by
     by_cases h' : 0 < b.length
     · exact topN_zero (by omega) h'
     · exact vals_out (by omega)
   have hb1 : vals b 1 = 0 := by
     by_cases h' : 1 < b.length
     · exact topN_zero (by omega) h'
     · exact vals_out (by omega)
   have c1 : ps[i].2.2 = false := by
     rw [b5] at hb1
     have hb1 : one0 ps[i].2.2 = 0 := hb1
     cases hh : ps[i].2.2 with
     | false => rfl
     | true => rw [hh] at hb1; exact absurd hb1 (by decide)
   have c2 : rv ps[i].2.1 = 0 := by rw [b4] at hb0; exact hb0
   rw [pDivMod_zero (LSz.polL (by have := h.1; omega) fun t _ => p2 t) b2 (by omega) hk (by omega) (by omega) hz, Option.bind_some, if_pos ⟨c1, c2⟩]
 · have hn : ¬ (ps[i].2.2 = false ∧ rv ps[i].2.1 = 0) := by
     rintro ⟨c1, c2⟩
     apply hz
     refine topN_none fun t ht => ?_
     have : t = 0 ∨ t = 1 := by omega
     rcases this with rfl | rfl
     · rw [b4]; exact c2
     · rw [b5]; show one0 ps[i].2.2 = 0; rw [c1]; rfl
   obtain ⟨rr, hD⟩ := DivMod_lin (n := ps.length) (Q := polF (lfac rest)) (b := b) (x := baP ps[i]) (by have := h.1; omega) hrz (fun t ht => polF_out _ _ (by rw [lfac_len]; omega)) b2 hk (by omega) (by omega) b4 b5 b3 rfl hz
   rw [hP, hD, Option.bind_some, if_neg hn]
theorem LinearWithouts_true (l : LEG) (i : Int) (hi0 : -9223372036854775808 ≤ i) (hi1 : i < 9223372036854775808) (hl : l.2.2.length ≤ 9223372036854775807) : dendronlaw16_LinearWithouts l i = some true := by
 have hz := cut16P_sz l.2.2
 obtain ⟨ps, eps⟩ : ∃ ps, ps = (l.2.2.take 6).map cut16P := ⟨_, rfl⟩
 have h6 : ps.length ≤ 6 := by rw [eps]; simp; omega
 rw [← eps] at hz
 rw [dendronlaw16_LinearWithouts, leg16_ok l hl, Option.bind_some, ← eps]
 dsimp only
 by_cases h1 : i < 0
 · rw [linear_Without, cnd h1, Option.bind_some, cnd h1, cnd (by simp), cnd rfl, law16_awake_ok]; rfl
 · by_cases h2 : i ≥ (ps.length : Int)
   · rw [linear_Without, cnd' h1, cnd h2, Option.bind_some, cnd' h1, cnd h2, cnd (by simp), cnd rfl, law16_awake_ok]; rfl
   · obtain ⟨n, rfl⟩ := Int.eq_ofNat_of_zero_le (show 0 ≤ i by omega)
     have hn : n < ps.length := by omega
     obtain ⟨w1, w2⟩ := Without_ok (l := (l.1, (((false, []), []), ps))) (i := n) hz (by decide) (by decide) hn
     have w1 : linear_Without (l.1, (((false, []), []), ps)) (n : Int) = some (if ps[n].2.2 = false ∧ rv ps[n].2.1 = 0 then ([], 2) else (polL ps.length (polF (lfac (ps.take n ++ ps.drop (n + 1)))), 0)) := w1
     have w2 : ∀ t, SzQ (polF (lfac (ps.take n ++ ps.drop (n + 1))) t) (65536 * (2 * 3 + 2)) := w2
     have hp := hz.2 _ (List.getElem_mem hn)
     have hsg := ratio_Sign_ok (a := ps[n].2.1) (hp.sm (by decide))
     have hr : PaSz (ps.take n ++ ps.drop (n + 1)) 3 := by
      refine ⟨by have := hz.1; simp; omega, fun p hp => hz.2 p ?_⟩
      rcases List.mem_append.1 hp with hp | hp
      · exact List.mem_of_mem_take hp
      · exact List.mem_of_mem_drop hp
     obtain ⟨L, s1, s2, s3⟩ := sums16_ok hr (by decide) (by decide) (by simp; omega)
     have hS := poly_Same_ok (a := polL ps.length (polF (lfac (ps.take n ++ ps.drop (n + 1))))) (b := L) (LSz.polL (by omega) fun t _ => w2 t) s2 (by decide) (by decide) (by decide) (fun t => by
      rw [s3, vals_polL_out (fun k hk => polF_out _ _ (by rw [lfac_len]; simp; omega))])
     have i1 : iadd .i64 (n : Int) 1 = ((n + 1 : Nat) : Int) := iadd1 (by omega)
     have fin : (bif decide (0 ≤ (n : Int)) && decide ((n : Int) ≤ (ps.length : Int)) then bif Nat.ble ((([] : List PART).length + (ps.take (n : Int).toNat).length) * 72) 140737488355328 && !false then bif decide (0 ≤ (iadd .i64 (n : Int) 1)) && decide (((iadd .i64 (n : Int) 1) : Int) ≤ (ps.length : Int)) then bif Nat.ble (((([] : List PART) ++ (ps.take (n : Int).toNat)).length + (ps.drop (iadd .i64 (n : Int) 1).toNat).length) * 72) 140737488355328 && !false then bif (decide ((0 : Int) = 0)) then ((dendronlaw16_sums ((([] : List PART) ++ (ps.take (n : Int).toNat)) ++ (ps.drop (iadd .i64 (n : Int) 1).toNat))).bind fun r9 => (poly_Same (polL ps.length (polF (lfac (ps.take n ++ ps.drop (n + 1))))) r9).bind fun r10 => bif r10 then ((dendronlaw16_awake ).bind fun r11 => some r11) else (some false)) else (some false) else none else none else none else none) = some true := by
      rw [cnd2 (by omega) (by omega), blt (by simp; omega), cond_true, i1, cnd2 (by omega) (by omega), blt (by simp; omega), cond_true, cnd rfl, Int.toNat_natCast, Int.toNat_natCast, List.nil_append, s1, Option.bind_some, hS, Option.bind_some, law16_awake_ok]
      rfl
     rw [w1, Option.bind_some, cnd' h1, cnd' h2, cnd (by omega), Int.toNat_natCast, List.getElem?_eq_getElem hn, Option.bind_some]
     cases hb : ps[n].2.2 with
     | true =>
      rw [if_neg (by simp [hb]), Bool.not_true, cond_false]
      exact fin
     | false =>
      rw [Bool.not_false, cond_true, cnd (by omega), Option.bind_some, hsg, Option.bind_some]
      by_cases h0 : rv ps[n].2.1 = 0
      · rw [h0, show rcmp 0 0 = 0 by decide, cnd rfl, if_pos ⟨rfl, rfl⟩, cnd (by simp), cnd rfl, law16_awake_ok]; rfl
      · have hc : ¬ rcmp (rv ps[n].2.1) 0 = 0 := by
         unfold rcmp
         intro e
         split at e
         · exact absurd e (by decide)
         · split at e
           · exact absurd e (by decide)
           · rename_i h1 h2
             exact h0 (by grind)
        rw [cnd' hc, if_neg (by simp [h0])]
        exact fin
end Go.Proofs.YtaonkcmflkmncaaGreatDoor.X
