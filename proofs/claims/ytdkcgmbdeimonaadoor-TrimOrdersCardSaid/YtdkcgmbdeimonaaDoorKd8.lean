/- Lemmas over the printed texts: trees: one parent each, reached from the root. -/
import Derived.Test.YtdkcgmbdeimonaaDoorKd7

namespace Go.Proofs.YtdkcgmbdeimonaaDoor.X
open Go
set_option linter.unusedVariables false
set_option linter.unusedSimpArgs false

/-- The children of a node. -/
def kids (t : List NODE) (i : Nat) : List Nat :=
  match t[i]? with
  | some n => if nLeaf n then [] else [(nL n).toNat, (nR n).toNat]
  | none => []
theorem kids_leaf {t : List NODE} {i : Nat} (h : i < t.length) (hl : nLeaf t[i] = true) : kids t i = [] := by
  have hl' : t[i].1 = true := hl
  simp [kids, h, hl']
theorem kids_split {t : List NODE} {i : Nat} (h : i < t.length) (hl : nLeaf t[i] = false) : kids t i = [(nL t[i]).toNat, (nR t[i]).toNat] := by
  have hl' : t[i].1 = false := hl
  simp [kids, h, hl']
/-- How many of the first so many nodes' children are a node. -/
def cnt (t : List NODE) (i j : Nat) : Nat := ((List.range i).flatMap (kids t)).count j
theorem cnt_zero (t : List NODE) (j : Nat) : cnt t 0 j = 0 := by simp [cnt]
theorem cnt_succ (t : List NODE) (i j : Nat) : cnt t (i + 1) j = cnt t i j + (kids t i).count j := by
  simp [cnt, List.range_succ, List.flatMap_append]
theorem cnt_le (t : List NODE) (i j : Nat) : cnt t i j ≤ 2 * i := by
  induction i with
  | zero => simp [cnt_zero]
  | succ i ih =>
    rw [cnt_succ]
    have h1 : (kids t i).count j ≤ (kids t i).length := List.count_le_length
    have h2 : (kids t i).length ≤ 2 := by
      unfold kids
      split
      · split <;> simp
      · simp
    omega
/-- Each node but the root has one parent; what comes behind is lower. -/
def Ranked (t : List NODE) : Prop := ∃ rk : Nat → Nat, ∀ i, i < t.length → rk i ≤ t.length ∧ ∀ c ∈ kids t i, rk c < rk i
def ShapeP (t : List NODE) : Prop := (∀ j, 0 < j → j < t.length → cnt t t.length j = 1) ∧ Ranked t

theorem nodup_len : ∀ {n : Nat} {V : List Nat}, V.Nodup → (∀ x ∈ V, x < n) → V.length ≤ n
  | 0, V, _, h => by
    cases V with
    | nil => simp
    | cons x V => have := h x List.mem_cons_self; omega
  | n + 1, V, hnd, h => by
    by_cases hm : n ∈ V
    · have h1 : (V.erase n).Nodup := hnd.sublist List.erase_sublist
      have h2 : ∀ x ∈ V.erase n, x < n := by
        intro x hx
        have := (List.Nodup.mem_erase_iff hnd).1 hx
        have := h x this.2
        omega
      have h3 := nodup_len h1 h2
      have h4 := List.length_erase_of_mem hm
      omega
    · have := nodup_len hnd (n := n) (fun x hx => by
        have := h x hx
        have : x ≠ n := fun e => hm (e ▸ hx)
        omega)
      omega

section
variable {t : List NODE} {f : Int}
theorem kids_lt (hr : RangesP t f) {i c : Nat} (hi : i < t.length) (hc : c ∈ kids t i) : 0 < c ∧ c < t.length := by
  cases hl : nLeaf t[i] with
  | true => rw [kids_leaf hi hl] at hc; cases hc
  | false =>
    obtain ⟨_, _, h1, h2, h3, h4⟩ := hr i hi hl
    rw [kids_split hi hl] at hc
    simp at hc
    rcases hc with rfl | rfl <;> omega
theorem cnt_split (t : List NODE) (j : Nat) {a n : Nat} (ha : a < n) : (kids t a).count j ≤ cnt t n j := by
  induction n with
  | zero => omega
  | succ n ih =>
    rw [cnt_succ]
    by_cases e : a = n
    · subst e; omega
    · have := ih (by omega); omega
theorem cnt_two (t : List NODE) (j : Nat) {a b n : Nat} (hab : a < b) (hb : b < n) : (kids t a).count j + (kids t b).count j ≤ cnt t n j := by
  induction n with
  | zero => omega
  | succ n ih =>
    rw [cnt_succ]
    by_cases e : b = n
    · subst e
      have := cnt_split t j hab
      omega
    · have := ih (by omega); omega
theorem parent_one (hc : ∀ j, 0 < j → j < t.length → cnt t t.length j = 1) (hr : RangesP t f) {a b j : Nat} (ha : a < t.length) (hb : b < t.length) (h1 : j ∈ kids t a) (h2 : j ∈ kids t b) : a = b := by
  obtain ⟨j0, jl⟩ := kids_lt hr ha h1
  have c1 := List.count_pos_iff.2 h1
  have c2 := List.count_pos_iff.2 h2
  have := hc j j0 jl
  rcases Nat.lt_trichotomy a b with h | h | h
  · have := cnt_two t j h hb; omega
  · exact h
  · have := cnt_two t j h ha; omega
theorem kids_nodup (hc : ∀ j, 0 < j → j < t.length → cnt t t.length j = 1) (hr : RangesP t f) {a : Nat} (ha : a < t.length) : (kids t a).Nodup := by
  rw [List.nodup_iff_count]
  intro j
  by_cases hj : j ∈ kids t a
  · obtain ⟨j0, jl⟩ := kids_lt hr ha hj
    have h1 := cnt_split t j ha
    have h2 := hc j j0 jl
    exact Nat.le_trans h1 (Nat.le_of_eq h2)
  · rw [List.count_eq_zero_of_not_mem hj]; omega
theorem has_parent (hc : ∀ j, 0 < j → j < t.length → cnt t t.length j = 1) {j : Nat} (h0 : 0 < j) (hj : j < t.length) : ∃ p, p < t.length ∧ j ∈ kids t p := by
  have h1 := hc j h0 hj
  have h2 : j ∈ (List.range t.length).flatMap (kids t) := List.count_pos_iff.1 (by rw [← cnt, h1]; omega)
  obtain ⟨p, hp, hm⟩ := List.mem_flatMap.1 h2
  exact ⟨p, by simpa using hp, hm⟩
end

/-- What the search has: visited, waiting. -/
structure Srch (t : List NODE) (V S : List Nat) : Prop where
  nd : (V ++ S).Nodup
  lt : ∀ x ∈ V ++ S, x < t.length
  par : ∀ c ∈ V ++ S, c ≠ 0 → ∃ p ∈ V, c ∈ kids t p
  kid : ∀ p ∈ V, ∀ c ∈ kids t p, c ∈ V ++ S
  root : 0 ∈ V ++ S
  ord : V.Pairwise fun a b => a ∉ kids t b
  self : ∀ x ∈ V, x ∉ kids t x

theorem Srch.init {t : List NODE} (h : 0 < t.length) : Srch t [] [0] where
  nd := by simp
  lt := by simpa using h
  par := by simp
  kid := by simp
  root := by simp
  ord := List.Pairwise.nil
  self := by simp

theorem Srch.step {t : List NODE} {f : Int} (hc : ∀ j, 0 < j → j < t.length → cnt t t.length j = 1) (hr : RangesP t f) {V S : List Nat} {x : Nat} (h : Srch t V (S ++ [x])) : Srch t (V ++ [x]) (S ++ kids t x) := by
  have hxlt : x < t.length := h.lt x (by simp)
  have hnd := h.nd
  rw [← List.append_assoc, List.nodup_append] at hnd
  obtain ⟨n1, n2, n3⟩ := hnd
  have hxVS : x ∉ V ++ S := fun hx => n3 x hx x (by simp) rfl
  -- new children are new
  have hnew : ∀ c ∈ kids t x, c ∉ V ++ (S ++ [x]) := by
    intro c hcx hmem
    obtain ⟨c0, cl⟩ := kids_lt hr hxlt hcx
    obtain ⟨p, hp, hcp⟩ := h.par c hmem (by omega)
    have := parent_one hc hr (h.lt p (List.mem_append_left _ hp)) hxlt hcp hcx
    subst this
    exact hxVS (List.mem_append_left _ hp)
  have hperm : ((V ++ [x]) ++ (S ++ kids t x)).Perm ((V ++ (S ++ [x])) ++ kids t x) := by
    have e1 : (V ++ [x]) ++ (S ++ kids t x) = V ++ ([x] ++ S) ++ kids t x := by simp
    have e2 : (V ++ (S ++ [x])) ++ kids t x = V ++ (S ++ [x]) ++ kids t x := rfl
    rw [e1, e2]
    exact List.Perm.append_right _ (List.Perm.append_left _ List.perm_append_comm)
  have hmem : ∀ y, y ∈ (V ++ [x]) ++ (S ++ kids t x) ↔ y ∈ V ++ (S ++ [x]) ∨ y ∈ kids t x := by
    intro y; rw [hperm.mem_iff, List.mem_append]
  refine ⟨?_, ?_, ?_, ?_, ?_, ?_, ?_⟩
  · rw [hperm.nodup_iff, List.nodup_append]
    exact ⟨h.nd, kids_nodup hc hr hxlt, fun a ha b hb e => hnew b hb (e ▸ ha)⟩
  · intro y hy
    rcases (hmem y).1 hy with hy | hy
    · exact h.lt y hy
    · exact (kids_lt hr hxlt hy).2
  · intro c hcm hc0
    rcases (hmem c).1 hcm with hy | hy
    · obtain ⟨p, hp, hcp⟩ := h.par c hy hc0
      exact ⟨p, List.mem_append_left _ hp, hcp⟩
    · exact ⟨x, by simp, hy⟩
  · intro p hp c hcp
    rw [hmem]
    rcases List.mem_append.1 hp with hp | hp
    · exact .inl (h.kid p hp c hcp)
    · simp at hp; subst hp; exact .inr hcp
  · rw [hmem]; exact .inl h.root
  · rw [List.pairwise_append]
    refine ⟨h.ord, by simp, fun a ha b hb => ?_⟩
    simp at hb; subst hb
    intro hak
    exact hnew a hak (List.mem_append_left _ ha)
  · intro y hy
    rcases List.mem_append.1 hy with hy | hy
    · exact h.self y hy
    · simp at hy; subst hy
      intro hk
      exact hnew y hk (by simp)

theorem Srch.ranked {t : List NODE} {V : List Nat} (h : Srch t V []) (hall : ∀ i, i < t.length → i ∈ V) : Ranked t := by
  have hnd : V.Nodup := by simpa using h.nd
  have hlen : V.length ≤ t.length := nodup_len hnd (fun x hx => h.lt x (by simpa using hx))
  refine ⟨fun i => V.length - V.idxOf i, fun i hi => ⟨by show V.length - V.idxOf i ≤ t.length; omega, fun c hc => ?_⟩⟩
  have hiV := hall i hi
  have hcV : c ∈ V := by simpa using h.kid i hiV c hc
  have h1 : V.idxOf i < V.length := List.idxOf_lt_length_iff.2 hiV
  have h2 : V.idxOf c < V.length := List.idxOf_lt_length_iff.2 hcV
  have g1 : V[V.idxOf i] = i := List.getElem_idxOf h1
  have g2 : V[V.idxOf c] = c := List.getElem_idxOf h2
  have hne : ¬ V.idxOf c ≤ V.idxOf i := by
    intro hle
    by_cases e : V.idxOf c = V.idxOf i
    · have : c = i := by rw [← g1, ← g2]; simp [e]
      subst this
      exact h.self c hiV hc
    · have := List.pairwise_iff_getElem.1 h.ord _ _ h2 h1 (by omega)
      rw [g1, g2] at this
      exact this hc
  show V.length - V.idxOf c < V.length - V.idxOf i
  omega
theorem Srch.all {t : List NODE} {V : List Nat} (h : Srch t V []) (hc : ∀ j, 0 < j → j < t.length → cnt t t.length j = 1) (hrk : Ranked t) : ∀ i, i < t.length → i ∈ V := by
  obtain ⟨rk, hrk⟩ := hrk
  have key : ∀ (d i : Nat), i < t.length → t.length - rk i ≤ d → i ∈ V := by
    intro d
    induction d with
    | zero =>
      intro i hi hd
      by_cases h0 : i = 0
      · subst h0; simpa using h.root
      · obtain ⟨p, hp, hm⟩ := has_parent hc (by omega) hi
        have h1 := (hrk p hp).1
        have h2 := (hrk p hp).2 i hm
        omega
    | succ d ih =>
      intro i hi hd
      by_cases h0 : i = 0
      · subst h0; simpa using h.root
      · obtain ⟨p, hp, hm⟩ := has_parent hc (by omega) hi
        have h1 := (hrk p hp).1
        have h2 := (hrk p hp).2 i hm
        have := ih p hp (by omega)
        simpa using h.kid p this i hm
  exact fun i hi => key _ i hi (Nat.le_refl _)

def cntL (t : List NODE) (i : Nat) : List Int := (List.range t.length).map fun j => ((cnt t i j : Nat) : Int)
@[simp] theorem cntL_len (t : List NODE) (i : Nat) : (cntL t i).length = t.length := by simp [cntL]
theorem cntL_get {t : List NODE} {i j : Nat} (h : j < t.length) : (cntL t i)[j]? = some ((cnt t i j : Nat) : Int) := by simp [cntL, h]
theorem cntL_step {t : List NODE} {i a b : Nat} (ha : a < t.length) (hb : b < t.length) (hk : kids t i = [a, b]) :
    ((cntL t i).set a (((cnt t i a : Nat) : Int) + 1))[b]? = some ((cnt t i b + (if a = b then 1 else 0) : Nat) : Int) ∧
    ((cntL t i).set a (((cnt t i a : Nat) : Int) + 1)).set b (((cnt t i b + (if a = b then 1 else 0) : Nat) : Int) + 1) = cntL t (i + 1) := by
  constructor
  · rw [List.getElem?_set]
    by_cases e : a = b
    · subst e; simp [ha]
    · rw [if_neg e, cntL_get hb]; simp [e]
  · apply List.ext_getElem?
    intro j
    by_cases hj : j < t.length
    · rw [cntL_get hj, cnt_succ, hk, List.getElem?_set, List.getElem?_set]
      by_cases e1 : b = j
      · subst e1
        by_cases e2 : a = b
        · subst e2; simp [ha]; omega
        · simp [hb, e2, List.count_cons]
      · by_cases e2 : a = j
        · subst e2; simp [ha, e1, List.count_cons]
        · rw [if_neg e1, if_neg e2, cntL_get hj]; simp [List.count_cons, e1, e2]
    · rw [List.getElem?_eq_none (by simp; omega), List.getElem?_eq_none (by simp; omega)]

theorem shape_count {t : List NODE} {f : Int} (hl : t.length < 4294967296) (hr : RangesP t f) :
    lp valid_shape_s3 K0 ((t, List.replicate t.length 0, t, ((t.length : Nat) : Int), 0, ()), ()) = some ((t, cntL t t.length, ()), ()) := by
  have e0 : cntL t 0 = List.replicate t.length 0 := by simp [cntL, cnt_zero, List.map_const']
  have := lp_up (step := valid_shape_s3) (fun i => ((t, cntL t i, t, ((t.length : Nat) : Int), (i : Int), ()), ())) t.length (r := ((t, cntL t t.length, ()), ())) (by omega) (by
    intro g i hi
    have d0 : (i : Int) < ((t.length : Nat) : Int) := by omega
    have d1 : (0 : Int) ≤ (i : Int) := by omega
    cases hleaf : nLeaf t[i] with
    | true =>
      have : cntL t (i + 1) = cntL t i := by
        unfold cntL
        congr 1
        funext j
        rw [cnt_succ, kids_leaf hi hleaf]; simp
      rw [valid_shape_s3, cnd d0, cnd d1, Int.toNat_natCast, List.getElem?_eq_getElem hi, Option.bind_some, show t[i].1 = true from hleaf, iadd1 (by omega), this]
      rfl
    | false =>
      obtain ⟨r1, r2, r3, r4, r5, r6⟩ := hr i hi hleaf
      have hk := kids_split hi hleaf
      have l1 : (nL t[i]).toNat < t.length := by omega
      have l2 : (nR t[i]).toNat < t.length := by omega
      have c1 : (0 : Int) ≤ nL t[i] := by omega
      have c2 : (0 : Int) ≤ nR t[i] := by omega
      have c3 : nL t[i] < ((cntL t i).length : Int) := by rw [cntL_len]; omega
      obtain ⟨s1, s2⟩ := cntL_step l1 l2 hk
      have b1 := cnt_le t i (nL t[i]).toNat
      have b2 := cnt_le t i (nR t[i]).toNat
      have e1 : iadd .i64 ((cnt t i (nL t[i]).toNat : Nat) : Int) 1 = ((cnt t i (nL t[i]).toNat : Nat) : Int) + 1 := iadd1 (by omega)
      have e2 : iadd .i64 ((cnt t i (nR t[i]).toNat + (if (nL t[i]).toNat = (nR t[i]).toNat then 1 else 0) : Nat) : Int) 1 = ((cnt t i (nR t[i]).toNat + (if (nL t[i]).toNat = (nR t[i]).toNat then 1 else 0) : Nat) : Int) + 1 := iadd1 (by split <;> omega)
      have c4 : nR t[i] < (((cntL t i).set (nL t[i]).toNat (((cnt t i (nL t[i]).toNat : Nat) : Int) + 1)).length : Int) := by rw [List.length_set, cntL_len]; omega
      rw [valid_shape_s3, cnd d0, cnd d1, Int.toNat_natCast, List.getElem?_eq_getElem hi, Option.bind_some, show t[i].1 = false from hleaf, Bool.not_false, cond_true, cnd2 c1 c3, cntL_get l1, Option.bind_some, cnd2 c1 c3, Option.bind_some, e1, cnd2 c2 c4, s1, Option.bind_some, cnd2 c2 c4, Option.bind_some, e2, s2, iadd1 (by omega)]
      rfl) (by
    intro g
    rw [valid_shape_s3, cnd' (by omega)])
  rw [← e0]
  exact this

theorem shape_search {t : List NODE} {f : Int} (hl : t.length < 4294967296) (h0 : 0 < t.length) (hr : RangesP t f) (hc : ∀ j, 0 < j → j < t.length → cnt t t.length j = 1) :
    ∃ V, Srch t V [] ∧ lp valid_shape_s17 K0 ((t, List.replicate t.length false, [0], ()), ()) = some ((usedOf t.length V, ()), ()) := by
  obtain ⟨r, ⟨V, hV, rfl⟩, hlp⟩ := lp_wf (step := valid_shape_s17) (fun s => ∃ V S : List Nat, Srch t V S ∧ s = ((t, usedOf t.length V, ints S, ()), ())) (fun s => t.length + 1 - (s.1.2.1.filter id).length)
    (fun r => ∃ V, Srch t V [] ∧ r = ((usedOf t.length V, ()), ())) (v := ((t, List.replicate t.length false, [0], ()), ()))
    ⟨[], [0], Srch.init h0, by simp [usedOf, ints, List.map_const']⟩ (by simp; omega) (by
      rintro s ⟨V, S, hS, rfl⟩
      rcases List.eq_nil_or_concat S with rfl | ⟨S', x, hSx⟩
      · exact .inl ⟨_, ⟨V, hS, rfl⟩, fun g => by rw [valid_shape_s17, cnd' (by simp [ints])]⟩
      · rw [List.concat_eq_append] at hSx
        subst hSx
        have hnd := hS.nd
        have hVl : (V ++ (S' ++ [x])).length ≤ t.length := nodup_len hnd hS.lt
        have hSl : S'.length + 1 ≤ t.length := by simp at hVl; omega
        have hxlt : x < t.length := hS.lt x (by simp)
        have hst := Srch.step hc hr hS
        have hxV : x ∉ V := by
          intro hx
          rw [List.nodup_append] at hnd
          exact hnd.2.2 x hx x (by simp) rfl
        have hcount : ∀ U : List Nat, U.Nodup → (∀ y ∈ U, y < t.length) → ((usedOf t.length U).filter id).length = U.length := by
          intro U hU hlt
          have e1 : ((usedOf t.length U).filter id).length = ((List.range t.length).filter fun j => decide (j ∈ U)).length := by
            unfold usedOf
            rw [List.filter_map, List.length_map]; rfl
          rw [e1]
          refine List.Perm.length_eq ?_
          rw [List.perm_iff_count]
          intro a
          have n1 : ((List.range t.length).filter fun j => decide (j ∈ U)).Nodup := List.Nodup.sublist List.filter_sublist List.nodup_range
          have m1 : a ∈ ((List.range t.length).filter fun j => decide (j ∈ U)) ↔ a ∈ U := by
            simp; exact hlt a
          by_cases ha : a ∈ U
          · rw [List.Nodup.count hU, if_pos ha, List.Nodup.count n1, if_pos (m1.2 ha)]
          · rw [List.count_eq_zero_of_not_mem ha, List.count_eq_zero_of_not_mem (fun h => ha (m1.1 h))]
        have hVnd : V.Nodup := (List.nodup_append.1 hnd).1
        have hm1 := hcount V hVnd (fun y hy => hS.lt y (List.mem_append_left _ hy))
        have hVx : (V ++ [x]).Nodup := (List.nodup_append.1 hst.nd).1
        have hm2 := hcount (V ++ [x]) hVx (fun y hy => hst.lt y (List.mem_append_left _ hy))
        refine .inr ⟨_, ⟨V ++ [x], S' ++ kids t x, hst, rfl⟩, ?_, fun g => ?_⟩
        · show t.length + 1 - ((usedOf t.length (V ++ [x])).filter id).length < t.length + 1 - ((usedOf t.length V).filter id).length
          rw [hm1, hm2]
          simp at hVl ⊢; omega
        · have hlen : (ints (S' ++ [x])).length = S'.length + 1 := by simp
          have e1 : isub .i64 ((S'.length + 1 : Nat) : Int) 1 = ((S'.length : Nat) : Int) := by rw [isub_i] <;> omega
          have c0 : ((S'.length + 1 : Nat) : Int) > 0 := by omega
          have c1 : (0 : Int) ≤ ((S'.length : Nat) : Int) := by omega
          have c2 : ((S'.length : Nat) : Int) < ((S'.length + 1 : Nat) : Int) := by omega
          have g1 : (ints (S' ++ [x]))[S'.length]? = some ((x : Nat) : Int) := by simp [ints]
          have c3 : (decide ((0 : Int) ≤ ((S'.length : Nat) : Int)) && decide (((S'.length : Nat) : Int) ≤ ((S'.length : Nat) : Int)) && decide (((S'.length : Nat) : Int) ≤ ((S'.length + 1 : Nat) : Int))) = true := by
            rw [decide_eq_true c1, decide_eq_true (Int.le_refl _), decide_eq_true (Int.le_of_lt c2)]; rfl
          have c4 : (0 : Int) ≤ ((x : Nat) : Int) := by omega
          have c5 : ((x : Nat) : Int) < ((usedOf t.length V).length : Int) := by simp; omega
          have e2 : (((S'.length : Nat) : Int) - 0).toNat = S'.length := by omega
          have e3 : (ints (S' ++ [x])).take S'.length = ints S' := by simp [ints]
          rw [valid_shape_s17, hlen, cnd c0, e1, cnd2 c1 c2, Int.toNat_natCast, g1, Option.bind_some, c3, cond_true, cnd2 c4 c5, Int.toNat_natCast, usedOf_get hxlt, Option.bind_some, cnd c4, List.getElem?_eq_getElem hxlt, Option.bind_some, usedOf_set hxlt, e2, e3]
          cases hleaf : nLeaf t[x] with
          | true =>
            rw [show t[x].1 = true from hleaf, kids_leaf hxlt hleaf, List.append_nil]
            rfl
          | false =>
            obtain ⟨r1, r2, r3, r4, r5, r6⟩ := hr x hxlt hleaf
            have q1 : (((nL t[x]).toNat : Nat) : Int) = nL t[x] := by omega
            have q2 : (((nR t[x]).toNat : Nat) : Int) = nR t[x] := by omega
            have e4 : ints (S' ++ kids t x) = ints S' ++ [nL t[x], nR t[x]] := by
              rw [kids_split hxlt hleaf]
              simp only [ints, List.map_append, List.map_cons, List.map_nil, q1, q2]
            have hb8 : ((ints S').length + 2) * 8 ≤ 140737488355328 := by rw [ints_len]; omega
            rw [show t[x].1 = false from hleaf, blt hb8, cond_true, Bool.not_false, cond_true, e4])
  exact ⟨V, hV, hlp⟩

theorem shape_ok {t : List NODE} {f : Int} (hl : t.length < 4294967296) (h0 : 0 < t.length) (hr : RangesP t f) : ∃ a e, valid_shape t = some (a, e) ∧ (e = 0 ↔ ShapeP t) := by
  have hcount := shape_count hl hr
  have gd : (decide ((t.length : Int) = (t.length : Int)) && decide (0 ≤ (t.length : Int)) && decide (((8 : Nat) : Int) * (t.length : Int) ≤ 281474976710656) && decide ((t.length : Int) ≤ 9223372036854775807)) = true := by
    have h1 : (0 : Int) ≤ (t.length : Int) := by omega
    have h2 : ((8 : Nat) : Int) * (t.length : Int) ≤ 281474976710656 := by omega
    have h3 : (t.length : Int) ≤ 9223372036854775807 := by omega
    rw [decide_eq_true h1, decide_eq_true h2, decide_eq_true h3, decide_eq_true rfl]; rfl
  have gd1 : (decide ((t.length : Int) = (t.length : Int)) && decide (0 ≤ (t.length : Int)) && decide (((1 : Nat) : Int) * (t.length : Int) ≤ 281474976710656) && decide ((t.length : Int) ≤ 9223372036854775807)) = true := by
    have h1 : (0 : Int) ≤ (t.length : Int) := by omega
    have h2 : ((1 : Nat) : Int) * (t.length : Int) ≤ 281474976710656 := by omega
    have h3 : (t.length : Int) ≤ 9223372036854775807 := by omega
    rw [decide_eq_true h1, decide_eq_true h2, decide_eq_true h3, decide_eq_true rfl]; rfl
  rw [valid_shape, gd, cond_true, Int.toNat_natCast, hcount, Option.bind_some, cntL_len]
  rcases lp_all (step := valid_shape_s10) (fun i => ((t, cntL t t.length, ((t.length : Nat) : Int), (i : Int), ()), ())) t.length (fun i => i = 0 ∨ cnt t t.length i = 1) (fun i => .inr (((i : Int), 11, ()), ())) (.inl ((t, ()), ())) (by omega) (by
      intro i hi
      have d0 : (i : Int) < ((t.length : Nat) : Int) := by omega
      have d1 : (0 : Int) ≤ (i : Int) := by omega
      have d2 : (i : Int) < ((cntL t t.length).length : Int) := by rw [cntL_len]; omega
      by_cases hi0 : i = 0
      · refine .inl ⟨.inl hi0, fun g => ?_⟩
        rw [valid_shape_s10, cnd d0, cnd2 d1 d2, Int.toNat_natCast, cntL_get hi, Option.bind_some, cnd' (by omega), iadd1 (by omega)]
        rfl
      · by_cases h1 : cnt t t.length i = 1
        · refine .inl ⟨.inr h1, fun g => ?_⟩
          rw [valid_shape_s10, cnd d0, cnd2 d1 d2, Int.toNat_natCast, cntL_get hi, Option.bind_some, cnd (by omega), decide_eq_true (by omega), iadd1 (by omega)]
          rfl
        · refine .inr ⟨fun h => by rcases h with h | h <;> contradiction, fun g => ?_⟩
          rw [valid_shape_s10, cnd d0, cnd2 d1 d2, Int.toNat_natCast, cntL_get hi, Option.bind_some, cnd (by omega), decide_eq_false (by omega)]
          rfl) (by
      intro g
      rw [valid_shape_s10, cnd' (by omega)]) with ⟨h, hlp⟩ | ⟨i, hi, h, hlp⟩
  · have hlp : lp valid_shape_s10 K0 ((t, cntL t t.length, ((t.length : Nat) : Int), 0, ()), ()) = some (.inl ((t, ()), ())) := hlp
    have hc : ∀ j, 0 < j → j < t.length → cnt t t.length j = 1 := fun j h1 h2 => by
      rcases h j h2 with h3 | h3
      · omega
      · exact h3
    obtain ⟨V, hV, hlp2⟩ := shape_search hl h0 hr hc
    rw [hlp, Option.bind_some]
    dsimp only
    rw [gd1, cond_true, Int.toNat_natCast, hlp2, Option.bind_some]
    dsimp only
    rw [usedOf_len]
    rcases lp_all (step := valid_shape_s25) (fun i => ((usedOf t.length V, ((t.length : Nat) : Int), (i : Int), ()), ())) t.length (fun i => i ∈ V) (fun i => .inr (((i : Int), 11, ()), ())) (.inl ((), ())) (by omega) (by
        intro i hi
        have d0 : (i : Int) < ((t.length : Nat) : Int) := by omega
        have d1 : (0 : Int) ≤ (i : Int) := by omega
        have d2 : (i : Int) < ((usedOf t.length V).length : Int) := by rw [usedOf_len]; omega
        by_cases hiV : i ∈ V
        · refine .inl ⟨hiV, fun g => ?_⟩
          rw [valid_shape_s25, cnd d0, cnd2 d1 d2, Int.toNat_natCast, usedOf_get hi, Option.bind_some, decide_eq_true hiV, iadd1 (by omega)]
          rfl
        · refine .inr ⟨hiV, fun g => ?_⟩
          rw [valid_shape_s25, cnd d0, cnd2 d1 d2, Int.toNat_natCast, usedOf_get hi, Option.bind_some, decide_eq_false hiV]
          rfl) (by
        intro g
        rw [valid_shape_s25, cnd' (by omega)]) with ⟨h2, hlp3⟩ | ⟨i, hi, h2, hlp3⟩
    · have hlp3 : lp valid_shape_s25 K0 ((usedOf t.length V, ((t.length : Nat) : Int), 0, ()), ()) = some (.inl ((), ())) := hlp3
      rw [hlp3]
      exact ⟨0, 0, rfl, fun _ => ⟨hc, hV.ranked h2⟩, fun _ => rfl⟩
    · have hlp3 : lp valid_shape_s25 K0 ((usedOf t.length V, ((t.length : Nat) : Int), 0, ()), ()) = some (.inr (((i : Int), 11, ()), ())) := hlp3
      rw [hlp3]
      exact ⟨(i : Int), 11, rfl, fun e => (by cases e), fun hp => absurd (hV.all hc hp.2 i hi) h2⟩
  · have hlp : lp valid_shape_s10 K0 ((t, cntL t t.length, ((t.length : Nat) : Int), 0, ()), ()) = some (.inr (((i : Int), 11, ()), ())) := hlp
    rw [hlp]
    refine ⟨(i : Int), 11, rfl, fun e => (by cases e), fun hp => ?_⟩
    exfalso; apply h
    by_cases hi0 : i = 0
    · exact .inl hi0
    · exact .inr (hp.1 i (by omega) hi)
end Go.Proofs.YtdkcgmbdeimonaaDoor.X

/- Lemmas over the printed texts: which models may be; models that are cut. -/
namespace Go.Proofs.YtdkcgmbdeimonaaDoor.X
open Go
set_option linter.unusedVariables false
set_option linter.unusedSimpArgs false

theorem lp_allh' {V T : Type} {step : (V → Option T) → V → Option T} (f : Nat → V) (n : Nat) (ok : Nat → Prop) (Q : T → Prop) (fin : T)
    (hs : ∀ i, i < n → (∀ j, j < i → ok j) → (ok i ∧ ∀ g, step g (f i) = g (f (i + 1))) ∨ (¬ ok i ∧ ∃ r, Q r ∧ ∀ g, step g (f i) = some r)) (he : ∀ g, step g (f n) = some fin) :
    ∀ (d i m : Nat), i + d = n → d < m → (∀ j, j < i → ok j) → ((∀ i, i < n → ok i) ∧ lp step m (f i) = some fin) ∨ (¬ (∀ i, i < n → ok i) ∧ ∃ r, Q r ∧ lp step m (f i) = some r) := by
  intro d
  induction d with
  | zero =>
    intro i m hi hm hok
    obtain ⟨m, rfl⟩ : ∃ k, m = k + 1 := ⟨m - 1, by omega⟩
    have : i = n := by omega
    subst this
    exact .inl ⟨hok, he _⟩
  | succ d ih =>
    intro i m hi hm hok
    obtain ⟨m, rfl⟩ : ∃ k, m = k + 1 := ⟨m - 1, by omega⟩
    rcases hs i (by omega) hok with ⟨h1, h2⟩ | ⟨h1, r, h2, h3⟩
    · have := ih (i + 1) m (by omega) (by omega) (fun j hj => by
        by_cases e : j = i
        · subst e; exact h1
        · exact hok j (by omega))
      have e : lp step (m + 1) (f i) = lp step m (f (i + 1)) := h2 _
      rw [e]; exact this
    · exact .inr ⟨fun h => h1 (h i (by omega)), r, h2, h3 _⟩
theorem lp_allh {V T : Type} {step : (V → Option T) → V → Option T} (f : Nat → V) (n : Nat) (ok : Nat → Prop) (Q : T → Prop) (fin : T) (hn : n < 18446744073709551616)
    (hs : ∀ i, i < n → (∀ j, j < i → ok j) → (ok i ∧ ∀ g, step g (f i) = g (f (i + 1))) ∨ (¬ ok i ∧ ∃ r, Q r ∧ ∀ g, step g (f i) = some r)) (he : ∀ g, step g (f n) = some fin) :
    ((∀ i, i < n → ok i) ∧ lp step K0 (f 0) = some fin) ∨ (¬ (∀ i, i < n → ok i) ∧ ∃ r, Q r ∧ lp step K0 (f 0) = some r) :=
  lp_allh' f n ok Q fin hs he n 0 K0 (by omega) hn (fun j h => by omega)

def NodeFits (n : NODE) : Prop := 0 ≤ nFeat n ∧ nFeat n ≤ 64 ∧ 0 ≤ nL n ∧ nL n ≤ 255 ∧ 0 ≤ nR n ∧ nR n ≤ 255
def TreeFits (t : List NODE) : Prop := 1 ≤ t.length ∧ t.length ≤ 255 ∧ ∀ i (h : i < t.length), NodeFits t[i]
def FitsP (m : MODEL) : Prop := 0 ≤ m.1 ∧ m.1 ≤ 64 ∧ m.2.length ≤ 64 ∧ ∀ i (h : i < m.2.length), TreeFits m.2[i]

theorem fits_inner (a : List (List NODE)) (b c : Int) {t : List NODE} (hl : t.length < 4294967296) :
    ((∀ i (h : i < t.length), NodeFits t[i]) ∧ lp model_Fits_s9 K0 ((a, b, c, t, ((t.length : Nat) : Int), 0, ()), ()) = some (.inl ((a, b, c, ()), ()))) ∨
    (¬ (∀ i (h : i < t.length), NodeFits t[i]) ∧ lp model_Fits_s9 K0 ((a, b, c, t, ((t.length : Nat) : Int), 0, ()), ()) = some (.inr ((false, ()), ()))) := by
  rcases lp_all (step := model_Fits_s9) (fun i => ((a, b, c, t, ((t.length : Nat) : Int), (i : Int), ()), ())) t.length (fun i => ∀ h : i < t.length, NodeFits t[i]) (fun i => .inr ((false, ()), ())) (.inl ((a, b, c, ()), ())) (by omega) (by
      intro i hi
      have d0 : (i : Int) < ((t.length : Nat) : Int) := by omega
      have d1 : (0 : Int) ≤ (i : Int) := by omega
      have head : ∀ g, model_Fits_s9 g ((a, b, c, t, ((t.length : Nat) : Int), (i : Int), ()), ()) = bif (decide (nFeat t[i] < 0)) then (some (.inr ((false, ()), ()))) else (bif (decide (nFeat t[i] > 64)) then (some (.inr ((false, ()), ()))) else (bif (decide (nL t[i] < 0)) then (some (.inr ((false, ()), ()))) else (bif (decide (nL t[i] > 255)) then (some (.inr ((false, ()), ()))) else (bif (decide (nR t[i] < 0)) then (some (.inr ((false, ()), ()))) else (bif (decide (nR t[i] > 255)) then (some (.inr ((false, ()), ()))) else (g ((a, b, c, t, ((t.length : Nat) : Int), ((i + 1 : Nat) : Int), ()), ()))))))) := by
        intro g
        rw [model_Fits_s9, cnd d0, cnd d1, Int.toNat_natCast, List.getElem?_eq_getElem hi, Option.bind_some, iadd1 (by omega)]
        rfl
      by_cases h : NodeFits t[i]
      · refine .inl ⟨fun _ => h, fun g => ?_⟩
        obtain ⟨h1, h2, h3, h4, h5, h6⟩ := h
        rw [head, cnd' (by omega), cnd' (by omega), cnd' (by omega), cnd' (by omega), cnd' (by omega), cnd' (by omega)]
      · refine .inr ⟨fun h' => h (h' hi), fun g => ?_⟩
        rw [head]
        by_cases h1 : nFeat t[i] < 0
        · rw [cnd h1]
        by_cases h2 : nFeat t[i] > 64
        · rw [cnd' h1, cnd h2]
        by_cases h3 : nL t[i] < 0
        · rw [cnd' h1, cnd' h2, cnd h3]
        by_cases h4 : nL t[i] > 255
        · rw [cnd' h1, cnd' h2, cnd' h3, cnd h4]
        by_cases h5 : nR t[i] < 0
        · rw [cnd' h1, cnd' h2, cnd' h3, cnd' h4, cnd h5]
        by_cases h6 : nR t[i] > 255
        · rw [cnd' h1, cnd' h2, cnd' h3, cnd' h4, cnd' h5, cnd h6]
        exfalso; apply h; unfold NodeFits; omega) (by
      intro g
      rw [model_Fits_s9, cnd' (by omega)]) with ⟨h, hlp⟩ | ⟨i, hi, h, hlp⟩
  · exact .inl ⟨fun i hi => h i hi hi, hlp⟩
  · exact .inr ⟨fun hh => h (fun hi => hh i hi), hlp⟩

theorem Fits_ok {m : MODEL} (hl : m.2.length < 4294967296) (ht : ∀ t ∈ m.2, t.length < 4294967296) : ∃ b, model_Fits m = some b ∧ (b = true ↔ FitsP m) := by
  unfold model_Fits
  by_cases h1 : m.1 < 0
  · exact ⟨false, by rw [cnd h1], fun h => (by cases h), fun h => by have := h.1; omega⟩
  by_cases h2 : m.1 > 64
  · exact ⟨false, by rw [cnd' h1, cnd h2], fun h => (by cases h), fun h => by have := h.2.1; omega⟩
  by_cases h3 : ((m.2.length : Nat) : Int) > 64
  · exact ⟨false, by rw [cnd' h1, cnd' h2, cnd h3], fun h => (by cases h), fun h => by have := h.2.2.1; omega⟩
  rw [cnd' h1, cnd' h2, cnd' h3]
  rcases lp_all (step := model_Fits_s4) (fun i => ((m.2, ((m.2.length : Nat) : Int), (i : Int), ()), ())) m.2.length (fun i => ∀ h : i < m.2.length, TreeFits m.2[i]) (fun i => .inr ((false, ()), ())) (.inl ((), ())) (by omega) (by
      intro i hi
      have d0 : (i : Int) < ((m.2.length : Nat) : Int) := by omega
      have d1 : (0 : Int) ≤ (i : Int) := by omega
      have hti := ht _ (List.getElem_mem hi)
      by_cases g1 : ((m.2[i].length : Nat) : Int) < 1
      · refine .inr ⟨fun h => by have := (h hi).1; omega, fun g => ?_⟩
        rw [model_Fits_s4, cnd d0, cnd d1, Int.toNat_natCast, List.getElem?_eq_getElem hi, Option.bind_some, cnd g1]
      by_cases g2 : ((m.2[i].length : Nat) : Int) > 255
      · refine .inr ⟨fun h => by have := (h hi).2.1; omega, fun g => ?_⟩
        rw [model_Fits_s4, cnd d0, cnd d1, Int.toNat_natCast, List.getElem?_eq_getElem hi, Option.bind_some, cnd' g1, cnd g2]
      rcases fits_inner m.2 ((m.2.length : Nat) : Int) (i : Int) hti with ⟨h, hlp⟩ | ⟨h, hlp⟩
      · refine .inl ⟨fun _ => ⟨by omega, by omega, h⟩, fun g => ?_⟩
        rw [model_Fits_s4, cnd d0, cnd d1, Int.toNat_natCast, List.getElem?_eq_getElem hi, Option.bind_some, cnd' g1, cnd' g2, hlp, Option.bind_some]
        dsimp only
        rw [iadd1 (by omega)]
        rfl
      · refine .inr ⟨fun hh => h (hh hi).2.2, fun g => ?_⟩
        rw [model_Fits_s4, cnd d0, cnd d1, Int.toNat_natCast, List.getElem?_eq_getElem hi, Option.bind_some, cnd' g1, cnd' g2, hlp, Option.bind_some]) (by
      intro g
      rw [model_Fits_s4, cnd' (by omega)]) with ⟨h, hlp⟩ | ⟨i, hi, h, hlp⟩
  · have hlp : lp model_Fits_s4 K0 ((m.2, ((m.2.length : Nat) : Int), 0, ()), ()) = some (.inl ((), ())) := hlp
    exact ⟨true, by rw [hlp]; rfl, fun _ => ⟨by omega, by omega, by omega, fun i hi => h i hi hi⟩, fun _ => rfl⟩
  · have hlp : lp model_Fits_s4 K0 ((m.2, ((m.2.length : Nat) : Int), 0, ()), ()) = some (.inr ((false, ()), ())) := hlp
    exact ⟨false, by rw [hlp]; rfl, fun h' => (by cases h'), fun hp => absurd (fun hh => hp.2.2.2 i hh) h⟩

/-- What a rule asks of a tree. -/
def RuleP (f : Int) : Nat → List NODE → Prop
  | 0, t => RangesP t f
  | 1, t => ShapeP t
  | 2, t => CoversP t
  | _, t => SumsP t
/-- A model that may be. -/
def Good (m : MODEL) : Prop := FitsP m ∧ ∀ r, r < 4 → ∀ i (h : i < m.2.length), RuleP m.1 r m.2[i]
theorem Good.ranges {m : MODEL} (h : Good m) {i : Nat} (hi : i < m.2.length) : RangesP m.2[i] m.1 := h.2 0 (by decide) i hi
theorem Good.shape {m : MODEL} (h : Good m) {i : Nat} (hi : i < m.2.length) : ShapeP m.2[i] := h.2 1 (by decide) i hi
theorem Good.covers {m : MODEL} (h : Good m) {i : Nat} (hi : i < m.2.length) : CoversP m.2[i] := h.2 2 (by decide) i hi
theorem Good.sums {m : MODEL} (h : Good m) {i : Nat} (hi : i < m.2.length) : SumsP m.2[i] := h.2 3 (by decide) i hi

/-- A model's numbers. -/
def MSz (m : MODEL) (k : Nat) : Prop := ∀ t ∈ m.2, TSz t k

theorem check_inner {m : MODEL} {k : Nat} (hf : FitsP m) (hs : MSz m k) (hk : k < 500000000000) {r : Nat} (hr : r < 4) (hlow : ∀ r', r' < r → ∀ i (h : i < m.2.length), RuleP m.1 r' m.2[i]) (z : Int × Int × Int × Int) :
    ((∀ i (h : i < m.2.length), RuleP m.1 r m.2[i]) ∧ lp valid_Check_s7 K0 (((r : Int), (r : Int), m.2, ((m.2.length : Nat) : Int), 0, ()), ((m.1, m.2, ()), (z.1, z.2.1, z.2.2.1, z.2.2.2, ()), ())) = some (.inl (((r : Int), ()), ((m.1, m.2, ()), (z.1, z.2.1, z.2.2.1, z.2.2.2, ()), ())))) ∨
    (¬ (∀ i (h : i < m.2.length), RuleP m.1 r m.2[i]) ∧ ∃ e a b c, e ≠ 0 ∧ lp valid_Check_s7 K0 (((r : Int), (r : Int), m.2, ((m.2.length : Nat) : Int), 0, ()), ((m.1, m.2, ()), (z.1, z.2.1, z.2.2.1, z.2.2.2, ()), ())) = some (.inr ((), ((e, a, b, c, ()), ())))) := by
  have hlen := hf.2.2.1
  -- each tree's answer
  have ans : ∀ i (h : i < m.2.length), ∃ a e, (e = 0 ↔ RuleP m.1 r m.2[i]) ∧ ∀ g, valid_Check_s7 g (((r : Int), (r : Int), m.2, ((m.2.length : Nat) : Int), (i : Int), ()), ((m.1, m.2, ()), (z.1, z.2.1, z.2.2.1, z.2.2.2, ()), ())) =
      bif (!decide (e = 0)) then some (.inr ((), ((e, 0, (i : Int), a, ()), ()))) else g (((r : Int), (r : Int), m.2, ((m.2.length : Nat) : Int), ((i + 1 : Nat) : Int), ()), ((m.1, m.2, ()), (z.1, z.2.1, z.2.2.1, z.2.2.2, ()), ())) := by
    intro i hi
    have d0 : (i : Int) < ((m.2.length : Nat) : Int) := by omega
    have d1 : (0 : Int) ≤ (i : Int) := by omega
    have htf := hf.2.2.2 i hi
    have htl : m.2[i].length < 4294967296 := by have := htf.2.1; omega
    have ht0 : 0 < m.2[i].length := htf.1
    have hts := hs _ (List.getElem_mem hi)
    match r, hr with
    | 0, _ =>
      obtain ⟨a, e, h1, h2⟩ := ranges_ok (f := m.1) htl
      refine ⟨a, e, h2, fun g => ?_⟩
      rw [valid_Check_s7, cnd d0, cnd d1, Int.toNat_natCast, List.getElem?_eq_getElem hi, Option.bind_some, cnd (by rfl), h1, Option.bind_some, iadd1 (by omega)]
      rfl
    | 1, _ =>
      obtain ⟨a, e, h1, h2⟩ := shape_ok htl ht0 (hlow 0 (by decide) i hi)
      refine ⟨a, e, h2, fun g => ?_⟩
      rw [valid_Check_s7, cnd d0, cnd d1, Int.toNat_natCast, List.getElem?_eq_getElem hi, Option.bind_some, cnd' (by decide), cnd (by rfl), h1, Option.bind_some, iadd1 (by omega)]
      rfl
    | 2, _ =>
      obtain ⟨a, e, h1, h2⟩ := covers_ok htl hts (by omega)
      refine ⟨a, e, h2, fun g => ?_⟩
      rw [valid_Check_s7, cnd d0, cnd d1, Int.toNat_natCast, List.getElem?_eq_getElem hi, Option.bind_some, cnd' (by decide), cnd' (by decide), cnd (by rfl), h1, Option.bind_some, iadd1 (by omega)]
      rfl
    | 3, _ =>
      obtain ⟨a, e, h1, h2⟩ := sums_ok htl hts hk (hlow 0 (by decide) i hi)
      refine ⟨a, e, h2, fun g => ?_⟩
      rw [valid_Check_s7, cnd d0, cnd d1, Int.toNat_natCast, List.getElem?_eq_getElem hi, Option.bind_some, cnd' (by decide), cnd' (by decide), cnd' (by decide), cnd (by rfl), h1, Option.bind_some, iadd1 (by omega)]
      rfl
  have ans2 : ∀ i, ∃ a e, ∀ h : i < m.2.length, (e = 0 ↔ RuleP m.1 r m.2[i]) ∧ ∀ g, valid_Check_s7 g (((r : Int), (r : Int), m.2, ((m.2.length : Nat) : Int), (i : Int), ()), ((m.1, m.2, ()), (z.1, z.2.1, z.2.2.1, z.2.2.2, ()), ())) =
      bif (!decide (e = 0)) then some (.inr ((), ((e, 0, (i : Int), a, ()), ()))) else g (((r : Int), (r : Int), m.2, ((m.2.length : Nat) : Int), ((i + 1 : Nat) : Int), ()), ((m.1, m.2, ()), (z.1, z.2.1, z.2.2.1, z.2.2.2, ()), ())) := by
    intro i
    by_cases h : i < m.2.length
    · obtain ⟨a, e, h1, h2⟩ := ans i h
      exact ⟨a, e, fun _ => ⟨h1, h2⟩⟩
    · exact ⟨0, 0, fun h' => absurd h' h⟩
  have A := fun i => (ans2 i).choose
  let E : Nat → Int := fun i => (ans2 i).choose_spec.choose
  have hE : ∀ i (h : i < m.2.length), (E i = 0 ↔ RuleP m.1 r m.2[i]) ∧ ∀ g, valid_Check_s7 g (((r : Int), (r : Int), m.2, ((m.2.length : Nat) : Int), (i : Int), ()), ((m.1, m.2, ()), (z.1, z.2.1, z.2.2.1, z.2.2.2, ()), ())) =
      bif (!decide (E i = 0)) then some (.inr ((), ((E i, 0, (i : Int), (ans2 i).choose, ()), ()))) else g (((r : Int), (r : Int), m.2, ((m.2.length : Nat) : Int), ((i + 1 : Nat) : Int), ()), ((m.1, m.2, ()), (z.1, z.2.1, z.2.2.1, z.2.2.2, ()), ())) := fun i h => (ans2 i).choose_spec.choose_spec h
  rcases lp_all (step := valid_Check_s7) (fun i => (((r : Int), (r : Int), m.2, ((m.2.length : Nat) : Int), (i : Int), ()), ((m.1, m.2, ()), (z.1, z.2.1, z.2.2.1, z.2.2.2, ()), ()))) m.2.length (fun i => E i = 0) (fun i => .inr ((), ((E i, 0, (i : Int), (ans2 i).choose, ()), ()))) (.inl (((r : Int), ()), ((m.1, m.2, ()), (z.1, z.2.1, z.2.2.1, z.2.2.2, ()), ()))) (by omega) (by
      intro i hi
      obtain ⟨h1, h2⟩ := hE i hi
      by_cases h0 : E i = 0
      · exact .inl ⟨h0, fun g => by rw [h2, decide_eq_true h0]; rfl⟩
      · exact .inr ⟨h0, fun g => by rw [h2, decide_eq_false h0]; rfl⟩) (by
      intro g
      rw [valid_Check_s7, cnd' (by omega)]) with ⟨h, hlp⟩ | ⟨i, hi, h, hlp⟩
  · exact .inl ⟨fun i hi => (hE i hi).1.1 (h i hi), hlp⟩
  · exact .inr ⟨fun hh => h ((hE i hi).1.2 (hh i hi)), E i, 0, (i : Int), _, h, hlp⟩

theorem Ok_ok {m : MODEL} {k : Nat} (hl : m.2.length < 4294967296) (ht : ∀ t ∈ m.2, t.length < 4294967296) (hs : MSz m k) (hk : k < 500000000000) : ∃ b, valid_Ok m = some b ∧ (b = true ↔ Good m) := by
  obtain ⟨b, hb, hbf⟩ := Fits_ok hl ht
  cases b with
  | false =>
    have hnf : ¬ FitsP m := fun h => by have := hbf.2 h; cases this
    refine ⟨false, ?_, fun h => (by cases h), fun h => absurd h.1 hnf⟩
    rw [valid_Ok, valid_Check, hb, Option.bind_some]
    rfl
  | true =>
    have hf := hbf.1 rfl
    rcases lp_allh (step := valid_Check_s4) (fun r => (((r : Int), ()), ((m.1, m.2, ()), (0, 0, 0, 0, ()), ()))) 4 (fun r => ∀ i (h : i < m.2.length), RuleP m.1 r m.2[i]) (fun r => ∃ e a b c, e ≠ 0 ∧ r = .inr ((), ((e, a, b, c, ()), ()))) (.inl ((), ((0, 0, 0, 0, ()), ()))) (by omega) (by
        intro r hr hlow
        have d0 : (r : Int) < 4 := by omega
        rcases check_inner hf hs hk hr (fun r' hr' => hlow r' hr') (0, 0, 0, 0) with ⟨h1, h2⟩ | ⟨h1, e, a, b, c, h2, h3⟩
        · refine .inl ⟨h1, fun g => ?_⟩
          rw [valid_Check_s4, cnd d0, h2, Option.bind_some]
          dsimp only
          rw [iadd1 (by omega)]
          rfl
        · refine .inr ⟨h1, _, ⟨e, a, b, c, h2, rfl⟩, fun g => ?_⟩
          rw [valid_Check_s4, cnd d0, h3, Option.bind_some]) (by
        intro g
        rw [valid_Check_s4, cnd' (by decide)]) with ⟨h, hlp⟩ | ⟨h, r, ⟨e, a, b, c, he, rfl⟩, hlp⟩
    · have hlp : lp valid_Check_s4 K0 (((0 : Int), ()), ((m.1, m.2, ()), (0, 0, 0, 0, ()), ())) = _ := hlp
      refine ⟨true, ?_, fun _ => ⟨hf, h⟩, fun _ => rfl⟩
      rw [valid_Ok, valid_Check, hb, Option.bind_some, Bool.not_true, cond_false, hlp]
      rfl
    · have hlp : lp valid_Check_s4 K0 (((0 : Int), ()), ((m.1, m.2, ()), (0, 0, 0, 0, ()), ())) = _ := hlp
      refine ⟨false, ?_, fun h' => (by cases h'), fun hg => absurd hg.2 h⟩
      rw [valid_Ok, valid_Check, hb, Option.bind_some, Bool.not_true, cond_false, hlp, Option.bind_some]
      dsimp only
      rw [Option.bind_some, decide_eq_false he]
      rfl
end Go.Proofs.YtdkcgmbdeimonaaDoor.X

/- Lemmas over the printed texts: models that are cut; trees as trees. -/
namespace Go.Proofs.YtdkcgmbdeimonaaDoor.X
open Go
set_option linter.unusedVariables false
set_option linter.unusedSimpArgs false

theorem number07_ok (a : RAT) : dendronlaw07_number a = some (cutR 4 a) := by
  obtain ⟨⟨s, x⟩, y⟩ := a
  unfold dendronlaw07_number cutR
  by_cases h1 : 4 < x.length
  · have c1 : ((x.length : Nat) : Int) > 4 := by omega
    have c2 : (4 : Int) ≤ ((x.length : Nat) : Int) := by omega
    by_cases h2 : 4 < y.length
    · have c3 : ((y.length : Nat) : Int) > 4 := by omega
      have c4 : (4 : Int) ≤ ((y.length : Nat) : Int) := by omega
      rw [cnd c1, cnd c2, cnd c3, cnd c4]
    · have c3 : ¬ ((y.length : Nat) : Int) > 4 := by omega
      rw [cnd c1, cnd c2, cnd' c3, List.take_of_length_le (l := y) (by omega)]
  · have c1 : ¬ ((x.length : Nat) : Int) > 4 := by omega
    by_cases h2 : 4 < y.length
    · have c3 : ((y.length : Nat) : Int) > 4 := by omega
      have c4 : (4 : Int) ≤ ((y.length : Nat) : Int) := by omega
      rw [cnd' c1, cnd c3, cnd c4, List.take_of_length_le (l := x) (by omega)]
    · have c3 : ¬ ((y.length : Nat) : Int) > 4 := by omega
      rw [cnd' c1, cnd' c3, List.take_of_length_le (l := x) (by omega), List.take_of_length_le (l := y) (by omega)]

def cutNode (n : NODE) : NODE := (n.1, n.2.1, cutR 4 n.2.2.1, n.2.2.2.1, n.2.2.2.2.1, n.2.2.2.2.2.1, cutR 4 n.2.2.2.2.2.2.1, cutR 4 n.2.2.2.2.2.2.2)
def cutTree (t : List NODE) : List NODE := (t.take 15).map cutNode
def cutM (m : MODEL) : MODEL := (m.1, (m.2.take 6).map cutTree)
theorem cutNode_sz (n : NODE) : NSz (cutNode n) 4 := ⟨cutR_sz 4 _, cutR_sz 4 _, cutR_sz 4 _⟩
theorem cutTree_sz (t : List NODE) : TSz (cutTree t) 4 := by
  intro n hn
  obtain ⟨x, _, rfl⟩ := List.mem_map.1 hn
  exact cutNode_sz x
theorem cutTree_len (t : List NODE) : (cutTree t).length ≤ 15 := by simp [cutTree]; omega
theorem cutM_sz (m : MODEL) : MSz (cutM m) 4 := by
  intro t ht
  obtain ⟨x, _, rfl⟩ := List.mem_map.1 ht
  exact cutTree_sz x
theorem cutM_len (m : MODEL) : (cutM m).2.length ≤ 6 := by simp [cutM]; omega
theorem cutM_tlen (m : MODEL) : ∀ t ∈ (cutM m).2, t.length ≤ 15 := by
  intro t ht
  obtain ⟨x, _, rfl⟩ := List.mem_map.1 ht
  exact cutTree_len x

theorem Few07_inner {m : MODEL} {i : Nat} (hi : i < m.2.length) (hl : m.2[i].length ≤ 9223372036854775807) (hi2 : i < 4611686018427387904) (z w : Int × List (List NODE)) :
    lp dendronlaw07_Few_s7 K0 (((i : Int), [], 0, ()), ((m.1, m.2, ()), (z.1, z.2, ()), (w.1, w.2, ()), ())) = some (((i : Int), cutTree m.2[i], ()), ((m.1, m.2, ()), (z.1, z.2, ()), (w.1, w.2, ()), ())) := by
  have hn : min m.2[i].length 15 ≤ m.2[i].length := Nat.min_le_left _ _
  exact lp_up (step := dendronlaw07_Few_s7) (fun k => (((i : Int), (m.2[i].take k).map cutNode, (k : Int), ()), ((m.1, m.2, ()), (z.1, z.2, ()), (w.1, w.2, ()), ()))) (min m.2[i].length 15) (by omega) (by
    intro g k hk
    have h1 : k < m.2[i].length := by omega
    have d0 : (0 : Int) ≤ (i : Int) := by omega
    have d1 : (k : Int) < ((m.2[i].length : Nat) : Int) := by omega
    have d2 : (k : Int) < 15 := by omega
    have d3 : (0 : Int) ≤ (k : Int) := by omega
    have d4 : (((m.2[i].take k).map cutNode).length + 1) * 208 ≤ 140737488355328 := by simp; omega
    rw [dendronlaw07_Few_s7, cnd d0, Int.toNat_natCast, List.getElem?_eq_getElem hi, Option.bind_some, cnd d1, cnd d2, cnd d0, Option.bind_some, cnd d3, Int.toNat_natCast, List.getElem?_eq_getElem h1, Option.bind_some, number07_ok, Option.bind_some, number07_ok, Option.bind_some, number07_ok, Option.bind_some, blt d4, cond_true, iadd1 (by omega), map_take_succ _ h1]
    rfl) (by
    intro g
    have d0 : (0 : Int) ≤ (i : Int) := by omega
    by_cases h : m.2[i].length ≤ 15
    · have c1 : ¬ ((min m.2[i].length 15 : Nat) : Int) < ((m.2[i].length : Nat) : Int) := by omega
      rw [dendronlaw07_Few_s7, cnd d0, Int.toNat_natCast, List.getElem?_eq_getElem hi, Option.bind_some, cnd' c1, Nat.min_eq_left h, List.take_of_length_le (Nat.le_refl _), cutTree, List.take_of_length_le h]
    · have c1 : ((min m.2[i].length 15 : Nat) : Int) < ((m.2[i].length : Nat) : Int) := by omega
      have c2 : ¬ ((min m.2[i].length 15 : Nat) : Int) < 15 := by omega
      rw [dendronlaw07_Few_s7, cnd d0, Int.toNat_natCast, List.getElem?_eq_getElem hi, Option.bind_some, cnd c1, cnd' c2, Nat.min_eq_right (by omega), cutTree])

theorem Few07_ok (m : MODEL) (hl : m.2.length ≤ 9223372036854775807) (ht : ∀ t ∈ m.2, t.length ≤ 9223372036854775807) : dendronlaw07_Few m = some (cutM m) := by
  have hn : min m.2.length 6 ≤ m.2.length := Nat.min_le_left _ _
  have key := lp_up (step := dendronlaw07_Few_s3) (fun i => (((i : Int), ()), ((m.1, m.2, ()), (0, [], ()), (m.1, (m.2.take i).map cutTree, ()), ()))) (min m.2.length 6) (r := ((), ((0, [], ()), (m.1, (m.2.take 6).map cutTree, ()), ()))) (by omega) (by
    intro g i hi
    have h1 : i < m.2.length := by omega
    have d0 : (i : Int) < ((m.2.length : Nat) : Int) := by omega
    have d1 : (i : Int) < 6 := by omega
    have hin := Few07_inner h1 (ht _ (List.getElem_mem h1)) (by omega) (0, []) (m.1, (m.2.take i).map cutTree)
    have d4 : (((m.2.take i).map cutTree).length + 1) * 24 ≤ 140737488355328 := by simp; omega
    rw [dendronlaw07_Few_s3, cnd d0, cnd d1, hin, Option.bind_some, blt d4, cond_true, iadd1 (by omega), map_take_succ _ h1]
    rfl) (by
    intro g
    by_cases h : m.2.length ≤ 6
    · have c1 : ¬ ((min m.2.length 6 : Nat) : Int) < ((m.2.length : Nat) : Int) := by omega
      rw [dendronlaw07_Few_s3, cnd' c1, Nat.min_eq_left h, List.take_of_length_le (Nat.le_refl _), List.take_of_length_le h]
    · have c1 : ((min m.2.length 6 : Nat) : Int) < ((m.2.length : Nat) : Int) := by omega
      have c2 : ¬ ((min m.2.length 6 : Nat) : Int) < 6 := by omega
      rw [dendronlaw07_Few_s3, cnd c1, cnd' c2, Nat.min_eq_right (by omega)])
  have key' : lp dendronlaw07_Few_s3 K0 ((0, ()), ((m.1, m.2, ()), (0, [], ()), (m.1, [], ()), ())) = _ := key
  rw [dendronlaw07_Few, key']
  rfl

/-! Trees as trees. -/
inductive TR where
  | leaf (i : Nat)
  | split (i : Nat) (l r : TR)
def TR.top : TR → Nat
  | .leaf i => i
  | .split i _ _ => i
def TR.size : TR → Nat
  | .leaf _ => 1
  | .split _ l r => 1 + l.size + r.size
def TR.deep : TR → Nat
  | .leaf _ => 1
  | .split _ l r => 1 + max l.deep r.deep
/-- A tree of nodes as a tree. -/
def Is (t : List NODE) (f : Int) : TR → Prop
  | .leaf i => ∃ h : i < t.length, nLeaf t[i] = true
  | .split i l r => ∃ h : i < t.length, nLeaf t[i] = false ∧ 0 ≤ nFeat t[i] ∧ nFeat t[i] < f ∧ nL t[i] = (l.top : Int) ∧ nR t[i] = (r.top : Int) ∧ Is t f l ∧ Is t f r
theorem tree_at {t : List NODE} {f : Int} (hr : RangesP t f) (hrk : Ranked t) : ∀ i, i < t.length → ∃ T, Is t f T ∧ T.top = i ∧ T.deep ≤ t.length + 1 := by
  obtain ⟨rk, hrk⟩ := hrk
  have key : ∀ (d i : Nat), i < t.length → rk i ≤ d → ∃ T, Is t f T ∧ T.top = i ∧ T.deep ≤ rk i + 1 := by
    intro d
    induction d with
    | zero =>
      intro i hi hd
      cases hl : nLeaf t[i] with
      | true => exact ⟨.leaf i, ⟨hi, hl⟩, rfl, by simp [TR.deep]⟩
      | false =>
        have := (hrk i hi).2 (nL t[i]).toNat (by rw [kids_split hi hl]; simp)
        omega
    | succ d ih =>
      intro i hi hd
      cases hl : nLeaf t[i] with
      | true => exact ⟨.leaf i, ⟨hi, hl⟩, rfl, by simp [TR.deep]⟩
      | false =>
        obtain ⟨r1, r2, r3, r4, r5, r6⟩ := hr i hi hl
        have k1 := (hrk i hi).2 (nL t[i]).toNat (by rw [kids_split hi hl]; simp)
        have k2 := (hrk i hi).2 (nR t[i]).toNat (by rw [kids_split hi hl]; simp)
        obtain ⟨L, hL, hLt, hLd⟩ := ih (nL t[i]).toNat (by omega) (by omega)
        obtain ⟨R, hR, hRt, hRd⟩ := ih (nR t[i]).toNat (by omega) (by omega)
        refine ⟨.split i L R, ⟨hi, hl, r1, r2, by rw [hLt]; omega, by rw [hRt]; omega, hL, hR⟩, rfl, ?_⟩
        simp only [TR.deep]
        omega
  intro i hi
  obtain ⟨T, h1, h2, h3⟩ := key (rk i) i hi (Nat.le_refl _)
  have := (hrk i hi).1
  exact ⟨T, h1, h2, by omega⟩
/-- A good model's trees. -/
theorem Good.tree {m : MODEL} (h : Good m) {i : Nat} (hi : i < m.2.length) : ∃ T, Is m.2[i] m.1 T ∧ T.top = 0 ∧ T.deep ≤ m.2[i].length + 1 :=
  tree_at (h.ranges hi) (h.shape hi).2 0 (h.1.2.2.2 i hi).1
end Go.Proofs.YtdkcgmbdeimonaaDoor.X

/- Trees: where rows go, what trees say. -/
namespace Go.Proofs.YtdkcgmbdeimonaaDoor.X
open Go
set_option linter.unusedVariables false
set_option linter.unusedSimpArgs false

abbrev zR : RAT := ((false, []), [])
abbrev zN : NODE := (false, 0, zR, 0, 0, false, zR, zR)
def nodeAt (t : List NODE) (i : Nat) : NODE := (t[i]?).getD zN
theorem nodeAt_get {t : List NODE} {i : Nat} (h : i < t.length) : nodeAt t i = t[i] := by simp [nodeAt, h]
def cellAt (row : List CELL) (i : Nat) : CELL := (row[i]?).getD (false, zR)
theorem cellAt_get {row : List CELL} {i : Nat} (h : i < row.length) : cellAt row i = row[i] := by simp [cellAt, h]
theorem cov_node (t : List NODE) (i : Nat) : cov t i = rv (nCov (nodeAt t i)) := rfl

/-- Whether an entry goes to the left of a split. -/
def goes (n : NODE) (c : CELL) : Bool := if c.1 then nMiss n else decide (rv c.2 < rv (nCut n))
def goL (t : List NODE) (row : List CELL) (i : Nat) : Bool := goes (nodeAt t i) (cellAt row (nFeat (nodeAt t i)).toNat)

def wayT (t : List NODE) (row : List CELL) : TR → List Nat
  | .leaf i => [i]
  | .split i l r => i :: if goL t row i then wayT t row l else wayT t row r
def endT (t : List NODE) (row : List CELL) : TR → Nat
  | .leaf i => i
  | .split i l r => if goL t row i then endT t row l else endT t row r
theorem wayT_ne (t : List NODE) (row : List CELL) (T : TR) : wayT t row T ≠ [] := by cases T <;> simp [wayT]
theorem wayT_last (t : List NODE) (row : List CELL) (T : TR) : (wayT t row T).getLast? = some (endT t row T) := by
  induction T with
  | leaf i => rfl
  | split i l r ihl ihr =>
    simp only [wayT, endT, List.getLast?_cons]
    by_cases h : goL t row i = true
    · rw [if_pos h, if_pos h, ihl]; rfl
    · rw [if_neg h, if_neg h, ihr]; rfl
theorem wayT_len (t : List NODE) (row : List CELL) (T : TR) : (wayT t row T).length ≤ T.deep := by
  induction T with
  | leaf i => simp [wayT, TR.deep]
  | split i l r ihl ihr =>
    simp only [wayT, TR.deep, List.length_cons]
    split <;> omega
theorem endT_lt {t : List NODE} {f : Int} {row : List CELL} {T : TR} (h : Is t f T) : endT t row T < t.length := by
  induction T with
  | leaf i => exact h.1
  | split i l r ihl ihr =>
    obtain ⟨h1, _, _, _, _, _, h2, h3⟩ := h
    simp only [endT]
    split
    · exact ihl h2
    · exact ihr h3
theorem Is.top_lt {t : List NODE} {f : Int} {T : TR} (h : Is t f T) : T.top < t.length := by
  cases T with
  | leaf i => exact h.1
  | split i l r => exact h.1
theorem TR.size_lt (T : TR) : T.size < 2 ^ T.deep := by
  induction T with
  | leaf i => simp [TR.size, TR.deep]
  | split i l r ihl ihr =>
    simp only [TR.size, TR.deep]
    have h1 : 2 ^ l.deep ≤ 2 ^ max l.deep r.deep := Nat.pow_le_pow_right (by decide) (Nat.le_max_left _ _)
    have h2 : 2 ^ r.deep ≤ 2 ^ max l.deep r.deep := Nat.pow_le_pow_right (by decide) (Nat.le_max_right _ _)
    rw [Nat.add_comm 1 (max l.deep r.deep), Nat.pow_succ]
    omega
theorem TR.size_le {T : TR} (h : T.deep ≤ 16) : T.size < 65536 := by
  have h1 := T.size_lt
  have h2 : 2 ^ T.deep ≤ 2 ^ 16 := Nat.pow_le_pow_right (by decide) h
  omega
theorem TR.deep_pos (T : TR) : 0 < T.deep := by cases T <;> simp [TR.deep] <;> omega

/-- What a tree says of a row, where a set is known. -/
def expT (t : List NODE) (row : List CELL) (set : Nat) : TR → Rat
  | .leaf i => rv (nVal (nodeAt t i))
  | .split i l r => if set.testBit (nFeat (nodeAt t i)).toNat then (if goL t row i then expT t row set l else expT t row set r)
      else (cov t l.top * expT t row set l + cov t r.top * expT t row set r) / cov t i
/-- What a tree predicts. -/
def predT (t : List NODE) (row : List CELL) (T : TR) : Rat := rv (nVal (nodeAt t (endT t row T)))

theorem TSz.at {t : List NODE} {k : Nat} (h : TSz t k) {i : Nat} (hi : i < t.length) : NSz (nodeAt t i) k := by rw [nodeAt_get hi]; exact h _ (List.getElem_mem hi)
theorem predT_sz {t : List NODE} {f : Int} {row : List CELL} {T : TR} (hs : TSz t 4) (h : Is t f T) : SzQ (predT t row T) 4 := (hs.at (endT_lt h)).2.1.szQ (by decide)
theorem cov_sz {t : List NODE} (hs : TSz t 4) {i : Nat} (hi : i < t.length) : SzQ (cov t i) 4 := (hs.at hi).2.2.szQ (by decide)
theorem expT_sz {t : List NODE} {f : Int} {row : List CELL} {set : Nat} {T : TR} (hs : TSz t 4) (h : Is t f T) : SzQ (expT t row set T) (16 * T.size) := by
  induction T with
  | leaf i => exact ((hs.at h.1).2.1.szQ (by decide)).mono (by simp [TR.size])
  | split i l r ihl ihr =>
    obtain ⟨h1, _, _, _, _, _, h2, h3⟩ := h
    have a := ihl h2
    have b := ihr h3
    simp only [expT, TR.size]
    split
    · split
      · exact a.mono (by omega)
      · exact b.mono (by omega)
    · have := (((cov_sz hs h2.top_lt).mul a).add ((cov_sz hs h3.top_lt).mul b)).div (cov_sz hs h1)
      exact this.mono (by omega)
/-- Where all features are known a tree says what it predicts. -/
theorem expT_all {t : List NODE} {f : Int} {row : List CELL} {set : Nat} {T : TR} (h : Is t f T) (hall : ∀ j : Nat, (j : Int) < f → set.testBit j = true) : expT t row set T = predT t row T := by
  induction T with
  | leaf i => rfl
  | split i l r ihl ihr =>
    obtain ⟨h1, _, f0, f1, _, _, h2, h3⟩ := h
    rw [← nodeAt_get h1] at f0 f1
    have hb := hall (nFeat (nodeAt t i)).toNat (by omega)
    simp only [expT, predT, endT, hb, if_true]
    split
    · exact ihl h2
    · exact ihr h3
end Go.Proofs.YtdkcgmbdeimonaaDoor.X

/- Trees: the tree of a list of nodes. -/
namespace Go.Proofs.YtdkcgmbdeimonaaDoor.X
open Go
set_option linter.unusedVariables false
set_option linter.unusedSimpArgs false

def mkT (t : List NODE) : Nat → Nat → TR
  | 0, i => .leaf i
  | d + 1, i => if nLeaf (nodeAt t i) then .leaf i else .split i (mkT t d (nL (nodeAt t i)).toNat) (mkT t d (nR (nodeAt t i)).toNat)
theorem mkT_eq {t : List NODE} {f : Int} : ∀ (d : Nat) (T : TR), Is t f T → T.deep ≤ d → mkT t d T.top = T := by
  intro d
  induction d with
  | zero => intro T _ h; have := T.deep_pos; omega
  | succ d ih =>
    intro T h hd
    cases T with
    | leaf i =>
      obtain ⟨h1, h2⟩ := h
      simp only [TR.top, mkT, nodeAt_get h1, h2, if_true]
    | split i l r =>
      obtain ⟨h1, h2, _, _, h3, h4, h5, h6⟩ := h
      simp only [TR.deep] at hd
      show mkT t (d + 1) i = _
      rw [mkT, nodeAt_get h1, h2, h3, h4, Int.toNat_natCast, Int.toNat_natCast, ih l h5 (by omega), ih r h6 (by omega)]
      rfl
def treeOf (t : List NODE) : TR := mkT t (t.length + 1) 0
theorem Good.treeOf {m : MODEL} (h : Good m) {i : Nat} (hi : i < m.2.length) : Is m.2[i] m.1 (treeOf m.2[i]) ∧ (treeOf m.2[i]).top = 0 ∧ (treeOf m.2[i]).deep ≤ m.2[i].length + 1 := by
  obtain ⟨T, h1, h2, h3⟩ := h.tree hi
  have : X.treeOf m.2[i] = T := by rw [X.treeOf, ← h2]; exact mkT_eq _ T h1 h3
  rw [this]; exact ⟨h1, h2, h3⟩
def treeAt (m : MODEL) (i : Nat) : List NODE := (m.2[i]?).getD []
theorem treeAt_get {m : MODEL} {i : Nat} (h : i < m.2.length) : treeAt m i = m.2[i] := by simp [treeAt, h]
/-- What a model predicts of a row, and says where a set is known. -/
def predM (m : MODEL) (row : List CELL) : Rat := rsum (fun i => predT (treeAt m i) row (treeOf (treeAt m i))) m.2.length
def sayM (m : MODEL) (row : List CELL) (set : Nat) : Rat := rsum (fun i => expT (treeAt m i) row set (treeOf (treeAt m i))) m.2.length
theorem MSz.at {m : MODEL} {k : Nat} (h : MSz m k) {i : Nat} (hi : i < m.2.length) : TSz (treeAt m i) k := by rw [treeAt_get hi]; exact h _ (List.getElem_mem hi)
theorem Good.isAt {m : MODEL} (h : Good m) {i : Nat} (hi : i < m.2.length) : Is (treeAt m i) m.1 (X.treeOf (treeAt m i)) := by rw [treeAt_get hi]; exact (h.treeOf hi).1
theorem predT_at {m : MODEL} {row : List CELL} (h : Good m) (hs : MSz m 4) {i : Nat} (hi : i < m.2.length) : SzQ (predT (treeAt m i) row (treeOf (treeAt m i))) 4 := predT_sz (hs.at hi) (h.isAt hi)
theorem deep16 {m : MODEL} (h : Good m) (hl : ∀ t ∈ m.2, t.length ≤ 15) {i : Nat} (hi : i < m.2.length) : (treeOf (treeAt m i)).deep ≤ 16 := by
  rw [treeAt_get hi]
  have := (h.treeOf hi).2.2
  have := hl _ (List.getElem_mem hi)
  omega
theorem expT_at {m : MODEL} {row : List CELL} {set : Nat} (h : Good m) (hs : MSz m 4) (hl : ∀ t ∈ m.2, t.length ≤ 15) {i : Nat} (hi : i < m.2.length) : SzQ (expT (treeAt m i) row set (treeOf (treeAt m i))) 1048576 := by
  have := TR.size_le (deep16 h hl hi)
  exact (expT_sz (hs.at hi) (h.isAt hi)).mono (by omega)
theorem predM_sz {m : MODEL} {row : List CELL} (h : Good m) (hs : MSz m 4) {n : Nat} (hn : n ≤ m.2.length) : SzQ (rsum (fun i => predT (treeAt m i) row (treeOf (treeAt m i))) n) (1 + n * 5) :=
  rsum_sz fun i hi => predT_at h hs (by omega)
theorem sayM_sz {m : MODEL} {row : List CELL} {set : Nat} (h : Good m) (hs : MSz m 4) (hl : ∀ t ∈ m.2, t.length ≤ 15) {n : Nat} (hn : n ≤ m.2.length) : SzQ (rsum (fun i => expT (treeAt m i) row set (treeOf (treeAt m i))) n) (1 + n * 1048577) :=
  rsum_sz fun i hi => expT_at h hs hl (by omega)
theorem sayM_all {m : MODEL} {row : List CELL} {set : Nat} (h : Good m) (hall : ∀ j : Nat, (j : Int) < m.1 → set.testBit j = true) : sayM m row set = predM m row :=
  rsum_congr fun i hi => expT_all (h.isAt hi) hall
end Go.Proofs.YtdkcgmbdeimonaaDoor.X

/- Lemmas over the printed texts: tidy models; models that are one. -/
namespace Go.Proofs.YtdkcgmbdeimonaaDoor.X
open Go
set_option linter.unusedVariables false
set_option linter.unusedSimpArgs false

def tidyNode (n : NODE) : NODE :=
  if nLeaf n then (nLeaf n, 0, zR, 0, 0, false, canQ (rv (nVal n)), canQ (rv (nCov n)))
  else (nLeaf n, nFeat n, canQ (rv (nCut n)), nL n, nR n, nMiss n, zR, canQ (rv (nCov n)))
def tidyTree (t : List NODE) : List NODE := t.map tidyNode
def tidyM (m : MODEL) : MODEL := (m.1, m.2.map tidyTree)

theorem Tidy_inner {t : List NODE} {k : Nat} (hl : t.length < 4294967296) (hs : TSz t k) (hk : k < 1099511627776) (a : List (List NODE)) (b c : Int) (z w : Int × List (List NODE)) :
    lp model_Tidy_s7 K0 (([], a, b, c, t, ((t.length : Nat) : Int), 0, ()), ((z.1, z.2, ()), (w.1, w.2, ()), ())) = some ((tidyTree t, a, b, c, ()), ((z.1, z.2, ()), (w.1, w.2, ()), ())) := by
  have key := lp_up (step := model_Tidy_s7) (fun i => (((t.take i).map tidyNode, a, b, c, t, ((t.length : Nat) : Int), (i : Int), ()), ((z.1, z.2, ()), (w.1, w.2, ()), ()))) t.length (r := ((tidyTree t, a, b, c, ()), ((z.1, z.2, ()), (w.1, w.2, ()), ()))) (by omega) (by
    intro g i hi
    have d0 : (i : Int) < ((t.length : Nat) : Int) := by omega
    have d1 : (0 : Int) ≤ (i : Int) := by omega
    have hz := hs _ (List.getElem_mem hi)
    have q1 := ratio_Clean_ok (hz.2.2.sm hk)
    have d4 : (((t.take i).map tidyNode).length + 1) * 208 ≤ 140737488355328 := by simp; omega
    rw [model_Tidy_s7, cnd d0, cnd d1, Int.toNat_natCast, List.getElem?_eq_getElem hi, Option.bind_some, q1, Option.bind_some]
    cases hleaf : nLeaf t[i] with
    | true =>
      have q2 := ratio_Clean_ok (hz.2.1.sm hk)
      have ht : tidyNode t[i] = (true, 0, zR, 0, 0, false, canQ (rv (nVal t[i])), canQ (rv (nCov t[i]))) := by rw [tidyNode, hleaf]; rfl
      rw [show t[i].1 = true from hleaf, cond_true, q2, Option.bind_some, blt d4, cond_true, iadd1 (by omega), map_take_succ _ hi, ht]
      rfl
    | false =>
      have q2 := ratio_Clean_ok (hz.1.sm hk)
      have ht : tidyNode t[i] = (false, nFeat t[i], canQ (rv (nCut t[i])), nL t[i], nR t[i], nMiss t[i], zR, canQ (rv (nCov t[i]))) := by rw [tidyNode, hleaf]; rfl
      rw [show t[i].1 = false from hleaf, cond_false, q2, Option.bind_some, blt d4, cond_true, iadd1 (by omega), map_take_succ _ hi, ht]
      rfl) (by
    intro g
    rw [model_Tidy_s7, cnd' (by omega), List.take_length]
    rfl)
  exact key

theorem Tidy_ok {m : MODEL} {k : Nat} (hl : m.2.length < 4294967296) (ht : ∀ t ∈ m.2, t.length < 4294967296) (hs : MSz m k) (hk : k < 1099511627776) : model_Tidy m = some (tidyM m) := by
  have key := lp_up (step := model_Tidy_s3) (fun i => ((m.2, ((m.2.length : Nat) : Int), (i : Int), ()), ((0, [], ()), (m.1, (m.2.take i).map tidyTree, ()), ()))) m.2.length (r := ((), ((0, [], ()), (m.1, m.2.map tidyTree, ()), ()))) (by omega) (by
    intro g i hi
    have d0 : (i : Int) < ((m.2.length : Nat) : Int) := by omega
    have d1 : (0 : Int) ≤ (i : Int) := by omega
    have hin := Tidy_inner (ht _ (List.getElem_mem hi)) (hs _ (List.getElem_mem hi)) hk m.2 ((m.2.length : Nat) : Int) (i : Int) (0, []) (m.1, (m.2.take i).map tidyTree)
    have d4 : (((m.2.take i).map tidyTree).length + 1) * 24 ≤ 140737488355328 := by simp; omega
    rw [model_Tidy_s3, cnd d0, cnd d1, Int.toNat_natCast, List.getElem?_eq_getElem hi, Option.bind_some, hin, Option.bind_some, blt d4, cond_true, iadd1 (by omega), map_take_succ _ hi]
    rfl) (by
    intro g
    rw [model_Tidy_s3, cnd' (by omega), List.take_length])
  have key' : lp model_Tidy_s3 K0 ((m.2, ((m.2.length : Nat) : Int), 0, ()), ((0, [], ()), (m.1, [], ()), ())) = _ := key
  rw [model_Tidy, key']
  rfl

theorem list_eq_iff {α : Type} {a b : List α} (hl : a.length = b.length) : a = b ↔ ∀ i, (h : i < a.length) → a[i] = b[i] := by
  constructor
  · rintro rfl i h; rfl
  · intro h
    exact List.ext_getElem hl (fun i h1 h2 => h i h1)

theorem exact_ok {a b : RAT} (h1 : a.1.2.length < 4611686018427387904) (h2 : a.2.length < 4611686018427387904) : dendronref07_exact a b = some (decide (a = b)) := by
  obtain ⟨⟨s, x⟩, y⟩ := a
  obtain ⟨⟨s', x'⟩, y'⟩ := b
  dsimp only at h1 h2
  unfold dendronref07_exact
  dsimp only
  by_cases e1 : s = s'
  · subst e1
    rw [show (!(s == s)) = false by simp, cond_false]
    by_cases e2 : x.length = x'.length
    · rw [show decide ((x.length : Int) = (x'.length : Int)) = true from decide_eq_true (by omega), Bool.not_true, cond_false]
      by_cases e3 : y.length = y'.length
      · rw [show decide ((y.length : Int) = (y'.length : Int)) = true from decide_eq_true (by omega), Bool.not_true, cond_false]
        rcases lp_all (step := dendronref07_exact_s4) (fun i => (((i : Int), ()), ((s, x, y, ()), (s, x', y', ()), ()))) x.length (fun i => ∀ h : i < x.length, x[i] = x'[i]) (fun i => .inr ((false, ()), ())) (.inl ((), ((s, x, y, ()), (s, x', y', ()), ()))) (by omega) (by
            intro i hi
            have hi' : i < x'.length := by omega
            have d0 : (i : Int) < ((x.length : Nat) : Int) := by omega
            have d1 : (0 : Int) ≤ (i : Int) := by omega
            by_cases h : x[i] = x'[i]
            · refine .inl ⟨fun _ => h, fun g => ?_⟩
              rw [dendronref07_exact_s4, cnd d0, cnd d1, Int.toNat_natCast, List.getElem?_eq_getElem hi, Option.bind_some, cnd d1, List.getElem?_eq_getElem hi', Option.bind_some, decide_eq_true h, iadd1 (by omega)]
              rfl
            · refine .inr ⟨fun h' => h (h' hi), fun g => ?_⟩
              rw [dendronref07_exact_s4, cnd d0, cnd d1, Int.toNat_natCast, List.getElem?_eq_getElem hi, Option.bind_some, cnd d1, List.getElem?_eq_getElem hi', Option.bind_some, decide_eq_false h]
              rfl) (by
            intro g
            rw [dendronref07_exact_s4, cnd' (by omega)]) with ⟨h, hlp⟩ | ⟨i, hi, h, hlp⟩
        · have hlp : lp dendronref07_exact_s4 K0 ((0, ()), ((s, x, y, ()), (s, x', y', ()), ())) = _ := hlp
          have ex : x = x' := (list_eq_iff e2).2 (fun i hi => h i hi hi)
          subst ex
          rw [hlp, Option.bind_some]
          dsimp only
          rcases lp_all (step := dendronref07_exact_s9) (fun i => (((i : Int), ()), ((s, x, y, ()), (s, x, y', ()), ()))) y.length (fun i => ∀ h : i < y.length, y[i] = y'[i]) (fun i => .inr ((false, ()), ())) (.inl ((), ())) (by omega) (by
              intro i hi
              have hi' : i < y'.length := by omega
              have d0 : (i : Int) < ((y.length : Nat) : Int) := by omega
              have d1 : (0 : Int) ≤ (i : Int) := by omega
              by_cases h : y[i] = y'[i]
              · refine .inl ⟨fun _ => h, fun g => ?_⟩
                rw [dendronref07_exact_s9, cnd d0, cnd d1, Int.toNat_natCast, List.getElem?_eq_getElem hi, Option.bind_some, cnd d1, List.getElem?_eq_getElem hi', Option.bind_some, decide_eq_true h, iadd1 (by omega)]
                rfl
              · refine .inr ⟨fun h' => h (h' hi), fun g => ?_⟩
                rw [dendronref07_exact_s9, cnd d0, cnd d1, Int.toNat_natCast, List.getElem?_eq_getElem hi, Option.bind_some, cnd d1, List.getElem?_eq_getElem hi', Option.bind_some, decide_eq_false h]
                rfl) (by
              intro g
              rw [dendronref07_exact_s9, cnd' (by omega)]) with ⟨h, hlp⟩ | ⟨i, hi, h, hlp⟩
          · have hlp : lp dendronref07_exact_s9 K0 ((0, ()), ((s, x, y, ()), (s, x, y', ()), ())) = _ := hlp
            have ey : y = y' := (list_eq_iff e3).2 (fun i hi => h i hi hi)
            subst ey
            rw [hlp, decide_eq_true rfl]; rfl
          · have hlp : lp dendronref07_exact_s9 K0 ((0, ()), ((s, x, y, ()), (s, x, y', ()), ())) = _ := hlp
            rw [hlp, decide_eq_false (fun e => h (fun hh => by injection e with _ e; subst e; rfl))]; rfl
        · have hlp : lp dendronref07_exact_s4 K0 ((0, ()), ((s, x, y, ()), (s, x', y', ()), ())) = _ := hlp
          rw [hlp, decide_eq_false (fun e => h (fun hh => by injection e with e _; injection e with _ e; subst e; rfl))]; rfl
      · rw [show decide ((y.length : Int) = (y'.length : Int)) = false from decide_eq_false (by omega), Bool.not_false, cond_true, decide_eq_false (fun e => e3 (by injection e with _ e; rw [e]))]
    · rw [show decide ((x.length : Int) = (x'.length : Int)) = false from decide_eq_false (by omega), Bool.not_false, cond_true, decide_eq_false (fun e => e2 (by injection e with e _; injection e with _ e; rw [e]))]
  · rw [show (!(s == s')) = true by simp [e1], cond_true, decide_eq_false (fun e => e1 (by injection e with e _; injection e with e _))]
end Go.Proofs.YtdkcgmbdeimonaaDoor.X

/- Trees with what they carry: laid in order. -/
namespace Go.Proofs.YtdkcgmbdeimonaaDoor.X
open Go
set_option linter.unusedVariables false
set_option linter.unusedSimpArgs false

inductive CT where
  | leaf (n : NODE)
  | split (n : NODE) (l r : CT)
def CT.size : CT → Nat
  | .leaf _ => 1
  | .split _ l r => 1 + l.size + r.size
def CT.deep : CT → Nat
  | .leaf _ => 1
  | .split _ l r => 1 + max l.deep r.deep
theorem CT.deep_pos (C : CT) : 0 < C.deep := by cases C <;> simp [CT.deep] <;> omega
theorem CT.size_pos (C : CT) : 0 < C.size := by cases C <;> simp [CT.size] <;> omega
def setLR (n : NODE) (a b : Int) : NODE := (n.1, n.2.1, n.2.2.1, a, b, n.2.2.2.2.2)
def norm (n : NODE) : NODE := setLR n 0 0
theorem setLR_norm (n : NODE) (a b : Int) : setLR (norm n) a b = setLR n a b := rfl
theorem norm_setLR (n : NODE) (a b : Int) : norm (setLR n a b) = norm n := rfl
theorem norm_norm (n : NODE) : norm (norm n) = norm n := rfl
/-- A tree laid in order from a place on. -/
def layC : CT → Nat → List NODE
  | .leaf n, p => [n]
  | .split n l r, p => setLR n ((p + 1 : Nat) : Int) ((p + 1 + l.size : Nat) : Int) :: (layC l (p + 1) ++ layC r (p + 1 + l.size))
theorem layC_len (C : CT) : ∀ p, (layC C p).length = C.size := by
  induction C with
  | leaf n => intro p; rfl
  | split n l r ihl ihr => intro p; simp only [layC, CT.size, List.length_cons, List.length_append, ihl, ihr]; omega

/-- A tree that stands at a node of a list. -/
def Rep (t : List NODE) : CT → Nat → Prop
  | .leaf n, i => t[i]? = some n ∧ nLeaf n = true
  | .split n l r, i => ∃ x a b, t[i]? = some x ∧ norm x = n ∧ nLeaf x = false ∧ nL x = ((a : Nat) : Int) ∧ nR x = ((b : Nat) : Int) ∧ Rep t l a ∧ Rep t r b
def ofT (t : List NODE) : TR → CT
  | .leaf i => .leaf (nodeAt t i)
  | .split i l r => .split (norm (nodeAt t i)) (ofT t l) (ofT t r)
theorem Is.rep {t : List NODE} {f : Int} {T : TR} (h : Is t f T) : Rep t (ofT t T) T.top := by
  induction T with
  | leaf i =>
    obtain ⟨h1, h2⟩ := h
    refine ⟨?_, ?_⟩
    · rw [nodeAt_get h1]; exact List.getElem?_eq_getElem h1
    · rw [nodeAt_get h1]; exact h2
  | split i l r ihl ihr =>
    obtain ⟨h1, h2, _, _, h3, h4, h5, h6⟩ := h
    exact ⟨t[i], l.top, r.top, List.getElem?_eq_getElem h1, by rw [nodeAt_get h1], h2, h3, h4, ihl h5, ihr h6⟩
theorem ofT_deep (t : List NODE) (T : TR) : (ofT t T).deep = T.deep := by
  induction T with
  | leaf i => rfl
  | split i l r ihl ihr => simp only [ofT, CT.deep, TR.deep, ihl, ihr]
theorem ofT_size (t : List NODE) (T : TR) : (ofT t T).size = T.size := by
  induction T with
  | leaf i => rfl
  | split i l r ihl ihr => simp only [ofT, CT.size, TR.size, ihl, ihr]

theorem ordered_ok {t : List NODE} : ∀ (n : Nat) (C : CT) (i p : Nat), Rep t C i → C.deep ≤ n → p + C.size ≤ 500000000000 → dendronlaw25_ordered n t (i : Int) (p : Int) = some (layC C p) := by
  intro n
  induction n with
  | zero => intro C i p _ hd; have := C.deep_pos; omega
  | succ n ih =>
    intro C i p h hd hp
    have d0 : (0 : Int) ≤ (i : Int) := by omega
    cases C with
    | leaf nd =>
      obtain ⟨h1, h2⟩ := h
      show dendronlaw25_ordered_b (dendronlaw25_ordered n) t i p = _
      rw [dendronlaw25_ordered_b, cnd d0, Int.toNat_natCast, h1, Option.bind_some, show nd.1 = true from h2]
      rfl
    | split nd l r =>
      obtain ⟨x, a, b, h1, h2, h3, h4, h5, h6, h7⟩ := h
      simp only [CT.deep] at hd
      simp only [CT.size] at hp
      show dendronlaw25_ordered_b (dendronlaw25_ordered n) t i p = _
      have e1 := ih l a (p + 1) h6 (by omega) (by omega)
      have e2 := ih r b (p + 1 + l.size) h7 (by omega) (by omega)
      have b1 : (([setLR x ((p + 1 : Nat) : Int) ((p + 1 + l.size : Nat) : Int)] : List NODE).length + (layC l (p + 1)).length) * 208 ≤ 140737488355328 := by rw [layC_len]; simp; omega
      have b2 : ((([setLR x ((p + 1 : Nat) : Int) ((p + 1 + l.size : Nat) : Int)] : List NODE) ++ layC l (p + 1)).length + (layC r (p + 1 + l.size)).length) * 208 ≤ 140737488355328 := by rw [List.length_append, layC_len, layC_len]; simp; omega
      have i1 : iadd .i64 ((p : Nat) : Int) 1 = ((p + 1 : Nat) : Int) := by rw [iadd_i] <;> omega
      have i2 : iadd .i64 ((p + 1 : Nat) : Int) ((layC l (p + 1)).length : Int) = ((p + 1 + l.size : Nat) : Int) := by
        rw [layC_len, iadd_i] <;> omega
      rw [dendronlaw25_ordered_b, cnd d0, Int.toNat_natCast, h1, Option.bind_some, show x.1 = false from h3, cond_false, show x.2.2.2.1 = _ from h4, show x.2.2.2.2.1 = _ from h5, i1, e1, Option.bind_some, i2, e2, Option.bind_some]
      have c1 := blt b1
      have c2 := blt b2
      simp only [setLR, show x.1 = false from h3] at c1 c2
      rw [c1, cond_true, c2, cond_true]
      subst h2
      simp only [layC, norm, setLR, show x.1 = false from h3]
      rfl

theorem copyOf_ok {t : List NODE} : ∀ (n : Nat) (C : CT) (i : Nat) (out : List NODE), Rep t C i → C.deep ≤ n → out.length + C.size ≤ 500000000000 → trim_copyOf n t (i : Int) out = some (out ++ layC C out.length, (out.length : Int)) := by
  intro n
  induction n with
  | zero => intro C i p _ hd; have := C.deep_pos; omega
  | succ n ih =>
    intro C i out h hd hp
    have d0 : (0 : Int) ≤ (i : Int) := by omega
    have b1 : (out.length + 1) * 208 ≤ 140737488355328 := by have := C.size_pos; omega
    cases C with
    | leaf nd =>
      obtain ⟨h1, h2⟩ := h
      show trim_copyOf_b (trim_copyOf n) t i out = _
      rw [trim_copyOf_b, cnd d0, Int.toNat_natCast, h1, Option.bind_some, blt b1, cond_true, show nd.1 = true from h2]
      rfl
    | split nd l r =>
      obtain ⟨x, a, b, h1, h2, h3, h4, h5, h6, h7⟩ := h
      simp only [CT.deep] at hd
      simp only [CT.size] at hp
      show trim_copyOf_b (trim_copyOf n) t i out = _
      have l1 : (out ++ [x]).length = out.length + 1 := by simp
      have e1 := ih l a (out ++ [x]) h6 (by omega) (by rw [l1]; omega)
      rw [l1] at e1
      have l2 : (out ++ [x] ++ layC l (out.length + 1)).length = out.length + 1 + l.size := by rw [List.length_append, l1, layC_len]
      have e2 := ih r b (out ++ [x] ++ layC l (out.length + 1)) h7 (by omega) (by rw [l2]; omega)
      rw [l2] at e2
      have hlt : out.length < (out ++ [x] ++ layC l (out.length + 1) ++ layC r (out.length + 1 + l.size)).length := by rw [List.length_append, l2]; omega
      have d1 : (0 : Int) ≤ (out.length : Int) := by omega
      have d2 : (out.length : Int) < ((out ++ [x] ++ layC l (out.length + 1) ++ layC r (out.length + 1 + l.size)).length : Int) := by omega
      rw [trim_copyOf_b, cnd d0, Int.toNat_natCast, h1, Option.bind_some, blt b1, cond_true, show x.1 = false from h3, cond_false, show x.2.2.2.1 = _ from h4, show x.2.2.2.2.1 = _ from h5, e1, Option.bind_some, e2, Option.bind_some, cnd2 d1 d2, Int.toNat_natCast, List.getElem?_eq_getElem hlt, Option.bind_some]
      subst h2
      have hset : ∀ y : NODE, (out ++ [x] ++ layC l (out.length + 1) ++ layC r (out.length + 1 + l.size)).set out.length y = out ++ (y :: (layC l (out.length + 1) ++ layC r (out.length + 1 + l.size))) := by
        intro y
        rw [List.append_assoc, List.append_assoc, List.set_append, if_neg (by omega), Nat.sub_self]
        rfl
      rw [hset]
      simp only [layC, norm, setLR, show x.1 = false from h3]
end Go.Proofs.YtdkcgmbdeimonaaDoor.X

/- Trees with what they carry: shrunk in place. -/
namespace Go.Proofs.YtdkcgmbdeimonaaDoor.X
open Go
set_option linter.unusedVariables false
set_option linter.unusedSimpArgs false

def leafOf (v c : RAT) : NODE := (true, 0, zR, 0, 0, false, v, c)
def joinC (n : NODE) : CT → CT → CT
  | .leaf a, .leaf b => if rv (nVal a) = rv (nVal b) then .leaf (leafOf (nVal a) (nCov n)) else .split n (.leaf a) (.leaf b)
  | l, r => .split n l r
def shrinkC : CT → CT
  | .leaf n => .leaf n
  | .split n l r => joinC n (shrinkC l) (shrinkC r)
def CT.isLeaf : CT → Bool
  | .leaf _ => true
  | .split _ _ _ => false
theorem joinC_deep (n : NODE) (l r : CT) : (joinC n l r).deep ≤ 1 + max l.deep r.deep := by
  unfold joinC
  split
  · split <;> simp [CT.deep]
  · exact Nat.le_refl _
theorem joinC_size (n : NODE) (l r : CT) : (joinC n l r).size ≤ 1 + l.size + r.size := by
  unfold joinC
  split
  · split <;> simp [CT.size]
  · exact Nat.le_refl _
theorem shrinkC_deep (C : CT) : (shrinkC C).deep ≤ C.deep := by
  induction C with
  | leaf n => exact Nat.le_refl _
  | split n l r ihl ihr =>
    have := joinC_deep n (shrinkC l) (shrinkC r)
    simp only [shrinkC, CT.deep]; omega
theorem shrinkC_size (C : CT) : (shrinkC C).size ≤ C.size := by
  induction C with
  | leaf n => exact Nat.le_refl _
  | split n l r ihl ihr =>
    have := joinC_size n (shrinkC l) (shrinkC r)
    simp only [shrinkC, CT.size]; omega
/-- Small numbers at the leaves. -/
def SmC : CT → Prop
  | .leaf n => Sm (nVal n)
  | .split _ l r => SmC l ∧ SmC r
theorem joinC_sm {n : NODE} {l r : CT} (hl : SmC l) (hr : SmC r) : SmC (joinC n l r) := by
  unfold joinC
  split
  · split
    · exact hl
    · exact ⟨hl, hr⟩
  · exact ⟨hl, hr⟩
theorem shrinkC_sm {C : CT} (h : SmC C) : SmC (shrinkC C) := by
  induction C with
  | leaf n => exact h
  | split n l r ihl ihr => exact joinC_sm (ihl h.1) (ihr h.2)

/-- A tree that stands within a part of a list. -/
def RepI (t : List NODE) : CT → Nat → Nat → Nat → Prop
  | .leaf n, i, lo, hi => lo ≤ i ∧ i < hi ∧ t[i]? = some n ∧ nLeaf n = true
  | .split n l r, i, lo, hi => i = lo ∧ lo < hi ∧ ∃ x a b mid, t[i]? = some x ∧ norm x = n ∧ nLeaf x = false ∧ nL x = ((a : Nat) : Int) ∧ nR x = ((b : Nat) : Int) ∧ lo + 1 ≤ mid ∧ mid ≤ hi ∧ RepI t l a (lo + 1) mid ∧ RepI t r b mid hi
theorem RepI.rep {t : List NODE} : ∀ {C : CT} {i lo hi : Nat}, RepI t C i lo hi → Rep t C i := by
  intro C
  induction C with
  | leaf n => intro i lo hi h; exact ⟨h.2.2.1, h.2.2.2⟩
  | split n l r ihl ihr =>
    intro i lo hi h
    obtain ⟨_, _, x, a, b, mid, h1, h2, h3, h4, h5, _, _, h6, h7⟩ := h
    exact ⟨x, a, b, h1, h2, h3, h4, h5, ihl h6, ihr h7⟩
theorem RepI.same {t t' : List NODE} : ∀ {C : CT} {i lo hi : Nat}, RepI t C i lo hi → (∀ j, lo ≤ j → j < hi → t'[j]? = t[j]?) → RepI t' C i lo hi := by
  intro C
  induction C with
  | leaf n => intro i lo hi h hj; exact ⟨h.1, h.2.1, by rw [hj i h.1 h.2.1]; exact h.2.2.1, h.2.2.2⟩
  | split n l r ihl ihr =>
    intro i lo hi h hj
    obtain ⟨e1, e2, x, a, b, mid, h1, h2, h3, h4, h5, m1, m2, h6, h7⟩ := h
    exact ⟨e1, e2, x, a, b, mid, by rw [hj i (by omega) (by omega)]; exact h1, h2, h3, h4, h5, m1, m2, ihl h6 (fun j p q => hj j (by omega) (by omega)), ihr h7 (fun j p q => hj j (by omega) (by omega))⟩
theorem RepI.head {t : List NODE} {C : CT} {i lo hi : Nat} (h : RepI t C i lo hi) : lo ≤ i ∧ i < hi ∧ ∃ x, t[i]? = some x ∧ nLeaf x = C.isLeaf ∧ ∀ n, C = .leaf n → x = n := by
  cases C with
  | leaf n => exact ⟨h.1, h.2.1, n, h.2.2.1, h.2.2.2, fun m e => by injection e⟩
  | split n l r =>
    obtain ⟨e1, e2, x, a, b, mid, h1, h2, h3, _⟩ := h
    exact ⟨by omega, by omega, x, h1, h3, fun m e => by injection e⟩

/-- Marked as it should be. -/
def WM : CT → Prop
  | .leaf n => nLeaf n = true
  | .split n l r => nLeaf n = false ∧ norm n = n ∧ WM l ∧ WM r
theorem Rep.wm {t : List NODE} : ∀ {C : CT} {i : Nat}, Rep t C i → WM C := by
  intro C
  induction C with
  | leaf n => intro i h; exact h.2
  | split n l r ihl ihr =>
    intro i h
    obtain ⟨x, a, b, h1, h2, h3, h4, h5, h6, h7⟩ := h
    subst h2
    exact ⟨h3, rfl, ihl h6, ihr h7⟩
theorem layC_repI : ∀ {C : CT} (pre post : List NODE), WM C → RepI (pre ++ layC C pre.length ++ post) C pre.length pre.length (pre.length + C.size) := by
  intro C
  induction C with
  | leaf n => intro pre post h; exact ⟨Nat.le_refl _, by simp [CT.size], by simp [layC], h⟩
  | split n l r ihl ihr =>
    intro pre post h
    obtain ⟨h1, h2, h3, h4⟩ := h
    obtain ⟨x, hx⟩ : ∃ x, x = setLR n ((pre.length + 1 : Nat) : Int) ((pre.length + 1 + l.size : Nat) : Int) := ⟨_, rfl⟩
    have e : pre ++ layC (.split n l r) pre.length ++ post = (pre ++ [x]) ++ layC l (pre ++ [x]).length ++ (layC r (pre.length + 1 + l.size) ++ post) := by
      simp [layC, hx]
    have e' : pre ++ layC (.split n l r) pre.length ++ post = (pre ++ [x] ++ layC l (pre.length + 1)) ++ layC r (pre ++ [x] ++ layC l (pre.length + 1)).length ++ post := by
      have ee : (pre ++ [x] ++ layC l (pre.length + 1)).length = pre.length + 1 + l.size := by rw [List.length_append, layC_len]; simp
      rw [ee]
      simp [layC, hx]
    have l1 : (pre ++ [x]).length = pre.length + 1 := by simp
    have l2 : (pre ++ [x] ++ layC l (pre.length + 1)).length = pre.length + 1 + l.size := by rw [List.length_append, l1, layC_len]
    have r1 := ihl (pre ++ [x]) (layC r (pre.length + 1 + l.size) ++ post) h3
    rw [← e, l1] at r1
    have r2 := ihr (pre ++ [x] ++ layC l (pre.length + 1)) post h4
    rw [← e', l2] at r2
    refine ⟨rfl, by simp only [CT.size]; omega, x, pre.length + 1, pre.length + 1 + l.size, pre.length + 1 + l.size, ?_, by rw [hx, norm_setLR, h2], by rw [hx]; exact h1, by rw [hx]; rfl, by rw [hx]; rfl, by omega, by simp only [CT.size]; omega, r1, ?_⟩
    · simp [layC, hx]
    · have : pre.length + (CT.split n l r).size = pre.length + 1 + l.size + r.size := by simp only [CT.size]; omega
      rw [this]; exact r2

theorem shrink_ok : ∀ (n : Nat) (C : CT) (t : List NODE) (i lo hi : Nat), RepI t C i lo hi → C.deep ≤ n → SmC C → ∃ t', trim_shrink n t (i : Int) = some t' ∧ t'.length = t.length ∧ (∀ j, ¬ (lo ≤ j ∧ j < hi) → t'[j]? = t[j]?) ∧ RepI t' (shrinkC C) i lo hi := by
  intro n
  induction n with
  | zero => intro C t i lo hi _ hd; have := C.deep_pos; omega
  | succ n ih =>
    intro C t i lo hi h hd hsm
    have d0 : (0 : Int) ≤ (i : Int) := by omega
    cases C with
    | leaf nd =>
      have h0 := h
      obtain ⟨g1, g2, h1, h2⟩ := h
      have hlt : i < t.length := by
        rcases Nat.lt_or_ge i t.length with h | h
        · exact h
        · rw [List.getElem?_eq_none h] at h1; exact absurd h1 (by simp)
      refine ⟨t, ?_, rfl, fun _ _ => rfl, h0⟩
      show trim_shrink_b (trim_shrink n) t i = _
      rw [trim_shrink_b, cnd2 d0 (by omega), Int.toNat_natCast, h1, Option.bind_some, show nd.1 = true from h2, cond_true, show Nat.beq t.length t.length = true by simp, cond_true]
      rfl
    | split nd l r =>
      obtain ⟨g1, g2, x, a, b, mid, h1, h2, h3, h4, h5, m1, m2, h6, h7⟩ := h
      simp only [CT.deep] at hd
      have hlt : i < t.length := by
        rcases Nat.lt_or_ge i t.length with h | h
        · exact h
        · rw [List.getElem?_eq_none h] at h1; exact absurd h1 (by simp)
      obtain ⟨t1, e1, k1, o1, p1⟩ := ih l t a (lo + 1) mid h6 (by omega) hsm.1
      have h7' := h7.same (t' := t1) (fun j q1 q2 => o1 j (by omega))
      obtain ⟨t2, e2, k2, o2, p2⟩ := ih r t1 b mid hi h7' (by omega) hsm.2
      have p1' := p1.same (t' := t2) (fun j q1 q2 => o2 j (by omega))
      have v1 : over t 0 t1 = t1 := over_all k1
      have v2 : over t1 0 t2 = t2 := over_all k2
      have x1 : t1[i]? = some x := by rw [o1 i (by omega)]; exact h1
      have x2 : t2[i]? = some x := by rw [o2 i (by omega)]; exact x1
      obtain ⟨qa1, qa2, y, hy, hyl, hyn⟩ := p1'.head
      obtain ⟨qb1, qb2, z, hz, hzl, hzn⟩ := p2.head
      have alt : a < t2.length := by
        rcases Nat.lt_or_ge a t2.length with h | h
        · exact h
        · rw [List.getElem?_eq_none h] at hy; exact absurd hy (by simp)
      have blt' : b < t2.length := by
        rcases Nat.lt_or_ge b t2.length with h | h
        · exact h
        · rw [List.getElem?_eq_none h] at hz; exact absurd hz (by simp)
      have len2 : t2.length = t.length := by omega
      have head : trim_shrink (n + 1) t (i : Int) = bif y.1 then (bif z.1 then ((ratio_Same (nVal y) (nVal z)).bind fun r11 => bif r11 then some (t2.set i (leafOf (nVal y) (nCov x))) else some t2) else some t2) else some t2 := by
        show trim_shrink_b (trim_shrink n) t i = _
        have c0 : Nat.beq t2.length t.length = true := by rw [len2]; simp
        have c0' : ∀ w : NODE, Nat.beq (t2.set i w).length t.length = true := by intro w; rw [List.length_set, len2]; simp
        rw [trim_shrink_b, cnd2 d0 (by omega), Int.toNat_natCast, h1, Option.bind_some, show x.1 = false from h3, cond_false, Option.bind_some, show x.2.2.2.1 = _ from h4, e1, Option.bind_some, v1, x1, Option.bind_some, show x.2.2.2.2.1 = _ from h5, e2, Option.bind_some, v2, x2, Option.bind_some, show x.2.2.2.1 = _ from h4, cnd2 (by omega) (by omega), Int.toNat_natCast, hy, Option.bind_some, Option.bind_some, show x.2.2.2.2.1 = _ from h5, cnd2 (by omega) (by omega), Int.toNat_natCast, hz, Option.bind_some, c0, cond_true]
        cases y.1 with
        | false => rfl
        | true =>
          cases z.1 with
          | false => rfl
          | true =>
            simp only [cond_true]
            congr 1
            funext r11
            cases r11 with
            | false => rfl
            | true =>
              simp only [cond_true, Option.bind_some, c0']
              rfl
      have stay : RepI t2 (.split nd (shrinkC l) (shrinkC r)) i lo hi := ⟨g1, g2, x, a, b, mid, x2, h2, h3, h4, h5, m1, m2, p1', p2⟩
      have outs : ∀ j, ¬ (lo ≤ j ∧ j < hi) → t2[j]? = t[j]? := fun j q => by rw [o2 j (by omega), o1 j (by omega)]
      cases hL : shrinkC l with
      | split nl ll lr =>
        rw [hL] at hyl
        refine ⟨t2, ?_, len2, outs, ?_⟩
        · rw [head, show y.1 = false from hyl]; rfl
        · rw [shrinkC, hL, joinC]
          · rw [← hL]; exact stay
          · intro _ _ e; injection e
      | leaf na =>
        rw [hL] at hyl
        cases hR : shrinkC r with
        | split nl ll lr =>
          rw [hR] at hzl
          refine ⟨t2, ?_, len2, outs, ?_⟩
          · rw [head, show y.1 = true from hyl, show z.1 = false from hzl]; rfl
          · rw [shrinkC, hL, hR, joinC]
            · rw [← hL, ← hR]; exact stay
            · intro _ _ _ e; injection e
        | leaf nb =>
          rw [hR] at hzl
          have ey := hyn na hL
          have ez := hzn nb hR
          subst ey ez
          have s1 : SmC (shrinkC l) := shrinkC_sm hsm.1
          have s2 : SmC (shrinkC r) := shrinkC_sm hsm.2
          rw [hL] at s1
          rw [hR] at s2
          have hs := ratio_Same_ok s1 s2
          by_cases hv : rv (nVal y) = rv (nVal z)
          · refine ⟨t2.set i (leafOf (nVal y) (nCov x)), ?_, by rw [List.length_set, len2], ?_, ?_⟩
            · rw [head, show y.1 = true from hyl, show z.1 = true from hzl, hs, decide_eq_true hv]; rfl
            · intro j q
              rw [List.getElem?_set_ne (by omega)]
              exact outs j q
            · rw [shrinkC, hL, hR, joinC, if_pos hv]
              refine ⟨by omega, by omega, ?_, rfl⟩
              rw [List.getElem?_set_self (by omega), ← h2]
              rfl
          · refine ⟨t2, ?_, len2, outs, ?_⟩
            · rw [head, show y.1 = true from hyl, show z.1 = true from hzl, hs, decide_eq_false hv]; rfl
            · rw [shrinkC, hL, hR, joinC, if_neg hv, ← hL, ← hR]
              exact stay
end Go.Proofs.YtdkcgmbdeimonaaDoor.X

/- Trees with what they carry: what is asked of a shrunk tree. -/
namespace Go.Proofs.YtdkcgmbdeimonaaDoor.X
open Go
set_option linter.unusedVariables false
set_option linter.unusedSimpArgs false

def firstN : CT → NODE
  | .leaf n => n
  | .split _ l _ => firstN l
def oneC (v : Rat) : CT → Bool
  | .leaf n => decide (rv (nVal n) = v)
  | .split _ l r => oneC v l && oneC v r
def tdC : CT → CT
  | .leaf n => .leaf (leafOf (nVal n) (nCov n))
  | .split n l r => if oneC (rv (nVal (firstN l))) (.split n l r) then .leaf (leafOf (nVal (firstN l)) (nCov n)) else .split n (tdC l) (tdC r)
theorem tdC_size (C : CT) : (tdC C).size ≤ C.size := by
  induction C with
  | leaf n => exact Nat.le_refl _
  | split n l r ihl ihr =>
    simp only [tdC, CT.size]
    split
    · simp only [CT.size]; omega
    · simp only [CT.size]; omega
theorem first_lp {t : List NODE} {z : Bool × List Int × List Int} : ∀ (C : CT) (i m : Nat), Rep t C i → C.deep ≤ m → ∃ k : Nat, t[k]? = some (firstN C) ∧ lp dendronlaw25_first_s1 m ((t, (i : Int), ()), ((z.1, z.2.1, z.2.2, ()), ())) = some ((t, (k : Int), ()), ((z.1, z.2.1, z.2.2, ()), ())) := by
  intro C
  induction C with
  | leaf n =>
    intro i m h hm
    obtain ⟨h1, h2⟩ := h
    obtain ⟨m, rfl⟩ : ∃ k, m = k + 1 := ⟨m - 1, by simp only [CT.deep] at hm; omega⟩
    have d0 : (0 : Int) ≤ (i : Int) := by omega
    refine ⟨i, h1, ?_⟩
    show dendronlaw25_first_s1 (lp dendronlaw25_first_s1 m) _ = _
    rw [dendronlaw25_first_s1, cnd d0, Int.toNat_natCast, h1, Option.bind_some, show n.1 = true from h2]
    rfl
  | split n l r ihl ihr =>
    intro i m h hm
    obtain ⟨x, a, b, h1, h2, h3, h4, h5, h6, h7⟩ := h
    simp only [CT.deep] at hm
    obtain ⟨m, rfl⟩ : ∃ k, m = k + 1 := ⟨m - 1, by omega⟩
    have d0 : (0 : Int) ≤ (i : Int) := by omega
    obtain ⟨k, e1, e2⟩ := ihl a m h6 (by omega)
    refine ⟨k, e1, ?_⟩
    show dendronlaw25_first_s1 (lp dendronlaw25_first_s1 m) _ = _
    rw [dendronlaw25_first_s1, cnd d0, Int.toNat_natCast, h1, Option.bind_some, show x.1 = false from h3, Bool.not_false, cond_true, Option.bind_some, show x.2.2.2.1 = _ from h4, e2, cnd d0]
theorem first_ok {t : List NODE} {C : CT} {i : Nat} (h : Rep t C i) (hd : C.deep ≤ 100000) : dendronlaw25_first t (i : Int) = some (nVal (firstN C)) := by
  obtain ⟨k, e1, e2⟩ := first_lp (z := (false, [], [])) C i K0 h (by unfold K0; omega)
  have e2 : lp dendronlaw25_first_s1 K0 ((t, (i : Int), ()), ((false, [], [], ()), ())) = _ := e2
  rw [dendronlaw25_first, e2, Option.bind_some]
  dsimp only
  rw [cnd (by omega), Int.toNat_natCast, e1, Option.bind_some]
theorem one_ok {t : List NODE} {v : RAT} (hv : Sm v) : ∀ (n : Nat) (C : CT) (i : Nat), Rep t C i → C.deep ≤ n → SmC C → dendronlaw25_one n t (i : Int) v = some (oneC (rv v) C) := by
  intro n
  induction n with
  | zero => intro C i _ hd; have := C.deep_pos; omega
  | succ n ih =>
    intro C i h hd hs
    have d0 : (0 : Int) ≤ (i : Int) := by omega
    show dendronlaw25_one_b (dendronlaw25_one n) t i v = _
    cases C with
    | leaf nd =>
      obtain ⟨h1, h2⟩ := h
      rw [dendronlaw25_one_b, cnd d0, Int.toNat_natCast, h1, Option.bind_some, show nd.1 = true from h2, cond_true, ratio_Same_ok hs hv]
      rfl
    | split nd l r =>
      obtain ⟨x, a, b, h1, h2, h3, h4, h5, h6, h7⟩ := h
      simp only [CT.deep] at hd
      rw [dendronlaw25_one_b, cnd d0, Int.toNat_natCast, h1, Option.bind_some, show x.1 = false from h3, cond_false, show x.2.2.2.1 = _ from h4, ih l a h6 (by omega) hs.1, Option.bind_some]
      simp only [oneC]
      cases hL : oneC (rv v) l with
      | false => rfl
      | true => rw [cond_true, show x.2.2.2.2.1 = _ from h5, ih r b h7 (by omega) hs.2, Option.bind_some, Bool.true_and]
theorem firstN_sm {C : CT} (h : SmC C) : Sm (nVal (firstN C)) := by
  induction C with
  | leaf n => exact h
  | split n l r ihl ihr => exact ihl h.1

theorem shrunk_ok {t : List NODE} : ∀ (n : Nat) (C : CT) (i p : Nat), Rep t C i → C.deep ≤ n → C.deep ≤ 100000 → SmC C → p + C.size ≤ 500000000000 → dendronlaw25_shrunk n t (i : Int) (p : Int) = some (layC (tdC C) p) := by
  intro n
  induction n with
  | zero => intro C i p _ hd; have := C.deep_pos; omega
  | succ n ih =>
    intro C i p h hd hdd hsm hp
    have d0 : (0 : Int) ≤ (i : Int) := by omega
    have hf := first_ok h hdd
    have h0 := h
    show dendronlaw25_shrunk_b (dendronlaw25_shrunk n) t i p = _
    cases C with
    | leaf nd =>
      obtain ⟨h1, h2⟩ := h
      rw [dendronlaw25_shrunk_b, cnd d0, Int.toNat_natCast, h1, Option.bind_some, hf, Option.bind_some, show nd.1 = true from h2]
      rfl
    | split nd l r =>
      obtain ⟨x, a, b, h1, h2, h3, h4, h5, h6, h7⟩ := h
      have ho := one_ok (firstN_sm hsm) R0 _ i h0 (by unfold R0; omega) hsm
      rw [dendronlaw25_shrunk_b, cnd d0, Int.toNat_natCast, h1, Option.bind_some, hf, Option.bind_some, show x.1 = false from h3, cond_false, ho, Option.bind_some]
      simp only [CT.deep] at hd hdd
      simp only [CT.size] at hp
      rw [tdC]
      simp only [firstN]
      cases hL : oneC (rv (nVal (firstN l))) (.split nd l r) with
      | true => subst h2; rfl
      | false =>
        rw [cond_false, if_neg (by decide)]
        have z1 := tdC_size l
        have z2 := tdC_size r
        have e1 := ih l a (p + 1) h6 (by omega) (by omega) hsm.1 (by omega)
        have e2 := ih r b (p + 1 + (tdC l).size) h7 (by omega) (by omega) hsm.2 (by omega)
        have b1 : (([setLR x ((p + 1 : Nat) : Int) ((p + 1 + (tdC l).size : Nat) : Int)] : List NODE).length + (layC (tdC l) (p + 1)).length) * 208 ≤ 140737488355328 := by rw [layC_len]; simp; omega
        have b2 : ((([setLR x ((p + 1 : Nat) : Int) ((p + 1 + (tdC l).size : Nat) : Int)] : List NODE) ++ layC (tdC l) (p + 1)).length + (layC (tdC r) (p + 1 + (tdC l).size)).length) * 208 ≤ 140737488355328 := by rw [List.length_append, layC_len, layC_len]; simp; omega
        have i1 : iadd .i64 ((p : Nat) : Int) 1 = ((p + 1 : Nat) : Int) := by rw [iadd_i] <;> omega
        have i2 : iadd .i64 ((p + 1 : Nat) : Int) ((layC (tdC l) (p + 1)).length : Int) = ((p + 1 + (tdC l).size : Nat) : Int) := by
          rw [layC_len, iadd_i] <;> omega
        rw [show x.2.2.2.1 = _ from h4, show x.2.2.2.2.1 = _ from h5, i1, e1, Option.bind_some, i2, e2, Option.bind_some]
        have c1 := blt b1
        have c2 := blt b2
        simp only [setLR, show x.1 = false from h3] at c1 c2
        rw [c1, cond_true, c2, cond_true]
        subst h2
        simp only [layC, norm, setLR, show x.1 = false from h3]
        rfl

/-! Tidy trees. -/
def tidyC : CT → CT
  | .leaf n => .leaf (tidyNode n)
  | .split n l r => .split (tidyNode n) (tidyC l) (tidyC r)
theorem tidyC_size (C : CT) : (tidyC C).size = C.size := by
  induction C with
  | leaf n => rfl
  | split n l r ihl ihr => simp only [tidyC, CT.size, ihl, ihr]
theorem tidyC_deep (C : CT) : (tidyC C).deep = C.deep := by
  induction C with
  | leaf n => rfl
  | split n l r ihl ihr => simp only [tidyC, CT.deep, ihl, ihr]
theorem tidy_leaf {n : NODE} (h : nLeaf n = true) : tidyNode n = leafOf (canQ (rv (nVal n))) (canQ (rv (nCov n))) := by rw [tidyNode, if_pos h, h]; rfl
theorem tidy_split {n : NODE} (h : nLeaf n = false) : tidyNode n = (false, nFeat n, canQ (rv (nCut n)), nL n, nR n, nMiss n, zR, canQ (rv (nCov n))) := by rw [tidyNode, if_neg (by rw [h]; decide), h]
theorem tidy_norm {n : NODE} (h : nLeaf n = false) : tidyNode (norm n) = norm (tidyNode n) := by rw [tidy_split h, tidy_split (n := norm n) h]; rfl
theorem tidy_setLR {n : NODE} (h : nLeaf n = false) (a b : Int) : tidyNode (setLR n a b) = setLR (tidyNode n) a b := by rw [tidy_split h, tidy_split (n := setLR n a b) h]; rfl
theorem Rep.tidy {t : List NODE} : ∀ {C : CT} {i : Nat}, Rep t C i → Rep (tidyTree t) (tidyC C) i := by
  intro C
  induction C with
  | leaf n =>
    intro i h
    obtain ⟨h1, h2⟩ := h
    exact ⟨by rw [tidyTree, List.getElem?_map, h1]; rfl, by rw [tidy_leaf h2]; rfl⟩
  | split n l r ihl ihr =>
    intro i h
    obtain ⟨x, a, b, h1, h2, h3, h4, h5, h6, h7⟩ := h
    subst h2
    refine ⟨tidyNode x, a, b, by rw [tidyTree, List.getElem?_map, h1]; rfl, (tidy_norm h3).symm, by rw [tidy_split h3], by rw [tidy_split h3]; exact h4, by rw [tidy_split h3]; exact h5, ihl h6, ihr h7⟩
theorem tidy_lay : ∀ {C : CT} (p : Nat), WM C → tidyTree (layC C p) = layC (tidyC C) p := by
  intro C
  induction C with
  | leaf n => intro p h; rfl
  | split n l r ihl ihr =>
    intro p h
    obtain ⟨h1, h2, h3, h4⟩ := h
    have e1 := ihl (p + 1) h3
    have e2 := ihr (p + 1 + l.size) h4
    simp only [tidyTree] at e1 e2 ⊢
    simp only [layC, tidyC, List.map_cons, List.map_append, e1, e2, tidy_setLR h1, tidyC_size]
theorem tidyC_wm {C : CT} (h : WM C) : WM (tidyC C) := by
  induction C with
  | leaf n => simp only [tidyC, WM]; rw [tidy_leaf h]; rfl
  | split n l r ihl ihr =>
    obtain ⟨h1, h2, h3, h4⟩ := h
    refine ⟨by rw [tidy_split h1], by rw [← tidy_norm h1, h2], ihl h3, ihr h4⟩
theorem tdC_wm {C : CT} (h : WM C) : WM (tdC C) := by
  induction C with
  | leaf n => rfl
  | split n l r ihl ihr =>
    obtain ⟨h1, h2, h3, h4⟩ := h
    simp only [tdC]
    split
    · rfl
    · exact ⟨h1, h2, ihl h3, ihr h4⟩

def covN : CT → RAT
  | .leaf n => nCov n
  | .split n _ _ => nCov n
theorem oneC_first {v : Rat} {C : CT} (h : oneC v C = true) : rv (nVal (firstN C)) = v := by
  induction C with
  | leaf n => exact of_decide_eq_true h
  | split n l r ihl ihr =>
    simp only [oneC, Bool.and_eq_true] at h
    exact ihl h.1
theorem joinC_split {n : NODE} {l r : CT} (h : ¬ ∃ a b, l = .leaf a ∧ r = .leaf b ∧ rv (nVal a) = rv (nVal b)) : joinC n l r = .split n l r := by
  unfold joinC
  split
  · split
    · rename_i a b hv
      exact absurd ⟨a, b, rfl, rfl, hv⟩ h
    · rfl
  · rfl
/-- What is shrunk from below is what is shrunk from above. -/
theorem shrink_both {C : CT} (h : WM C) : shrinkC (tidyC C) = tidyC (tdC C) ∧ (oneC (rv (nVal (firstN C))) C = true → tdC C = .leaf (leafOf (nVal (firstN C)) (covN C))) ∧ ((∃ a, shrinkC (tidyC C) = .leaf a) → oneC (rv (nVal (firstN C))) C = true) := by
  induction C with
  | leaf n =>
    refine ⟨?_, fun _ => rfl, fun _ => by simp [oneC, firstN]⟩
    simp only [tidyC, shrinkC, tdC]
    have h : nLeaf n = true := h
    rw [tidy_leaf h, tidy_leaf (n := leafOf (nVal n) (nCov n)) rfl]
    rfl
  | split n l r ihl ihr =>
    obtain ⟨h1, h2, h3, h4⟩ := h
    obtain ⟨a1, a2, a3⟩ := ihl h3
    obtain ⟨b1, b2, b3⟩ := ihr h4
    by_cases hone : oneC (rv (nVal (firstN l))) (.split n l r) = true
    · have htd : tdC (.split n l r) = .leaf (leafOf (nVal (firstN l)) (nCov n)) := by rw [tdC, if_pos hone]
      refine ⟨?_, fun _ => htd, fun _ => hone⟩
      have hone' := hone
      simp only [oneC, Bool.and_eq_true] at hone'
      have er := oneC_first hone'.2
      have el := a2 hone'.1
      have err := b2 (by rw [er]; exact hone'.2)
      rw [htd]
      simp only [tidyC, shrinkC]
      rw [a1, b1, el, err]
      simp only [tidyC]
      rw [tidy_leaf (n := leafOf _ _) rfl, tidy_leaf (n := leafOf _ _) rfl, tidy_leaf (n := leafOf _ _) rfl, joinC, if_pos (by show rv (canQ (rv (nVal (firstN l)))) = rv (canQ (rv (nVal (firstN r)))); rw [rv_canQ, rv_canQ]; exact er.symm)]
      rw [tidy_split h1]
      rfl
    · have htd : tdC (.split n l r) = .split n (tdC l) (tdC r) := by rw [tdC, if_neg hone]
      have key : ¬ ∃ a b, shrinkC (tidyC l) = .leaf a ∧ shrinkC (tidyC r) = .leaf b ∧ rv (nVal a) = rv (nVal b) := by
        rintro ⟨a, b, ha, hb, hv⟩
        have oa := a3 ⟨a, ha⟩
        have ob := b3 ⟨b, hb⟩
        have ta := a2 oa
        have tb := b2 ob
        rw [a1, ta] at ha
        rw [b1, tb] at hb
        simp only [tidyC] at ha hb
        injection ha with ha
        injection hb with hb
        rw [tidy_leaf (n := leafOf _ _) rfl] at ha hb
        have va : rv (nVal a) = rv (nVal (firstN l)) := by rw [← ha]; exact rv_canQ _
        have vb : rv (nVal b) = rv (nVal (firstN r)) := by rw [← hb]; exact rv_canQ _
        apply hone
        simp only [oneC, Bool.and_eq_true]
        refine ⟨oa, ?_⟩
        rw [← va, hv, vb]
        exact ob
      have hj : shrinkC (tidyC (.split n l r)) = .split (tidyNode n) (shrinkC (tidyC l)) (shrinkC (tidyC r)) := by
        simp only [tidyC, shrinkC]
        exact joinC_split key
      refine ⟨by rw [hj, htd]; simp only [tidyC]; rw [a1, b1], fun h => absurd h hone, ?_⟩
      rintro ⟨a, ha⟩
      rw [hj] at ha
      injection ha
end Go.Proofs.YtdkcgmbdeimonaaDoor.X

/- TrimOrders. -/
namespace Go.Proofs.YtdkcgmbdeimonaaDoor.X
open Go
set_option linter.unusedVariables false
set_option linter.unusedSimpArgs false

theorem Same_inner {m : MODEL} {i : Nat} (hi : i < m.2.length) (hl : m.2[i].length < 4294967296) (hs : ∀ n ∈ m.2[i], NSz n 4611686018427387903) (hi2 : i < 4611686018427387904) :
    lp dendronref07_Same_s9 K0 (((i : Int), 0, ()), ((m.1, m.2, ()), (m.1, m.2, ()), ())) = some (.inl (((i : Int), ()), ((m.1, m.2, ()), (m.1, m.2, ()), ()))) := by
  exact lp_up (step := dendronref07_Same_s9) (fun k => (((i : Int), (k : Int), ()), ((m.1, m.2, ()), (m.1, m.2, ()), ()))) m.2[i].length (by omega) (by
    intro g k hk
    have d0 : (0 : Int) ≤ (i : Int) := by omega
    have d1 : (k : Int) < ((m.2[i].length : Nat) : Int) := by omega
    have d3 : (0 : Int) ≤ (k : Int) := by omega
    have z := hs _ (List.getElem_mem hk)
    have e1 := exact_ok (a := m.2[i][k].2.2.1) (b := m.2[i][k].2.2.1) (Nat.lt_of_le_of_lt z.1.1 (by decide)) (Nat.lt_of_le_of_lt z.1.2 (by decide))
    have e2 := exact_ok (a := m.2[i][k].2.2.2.2.2.2.1) (b := m.2[i][k].2.2.2.2.2.2.1) (Nat.lt_of_le_of_lt z.2.1.1 (by decide)) (Nat.lt_of_le_of_lt z.2.1.2 (by decide))
    have e3 := exact_ok (a := m.2[i][k].2.2.2.2.2.2.2) (b := m.2[i][k].2.2.2.2.2.2.2) (Nat.lt_of_le_of_lt z.2.2.1 (by decide)) (Nat.lt_of_le_of_lt z.2.2.2 (by decide))
    rw [decide_eq_true rfl] at e1 e2 e3
    have bb : ∀ b : Bool, (!(b == b)) = false := by intro b; cases b <;> rfl
    have ii : ∀ b : Int, (!decide (b = b)) = false := by intro b; rw [decide_eq_true rfl]; rfl
    rw [dendronref07_Same_s9, cnd d0, Int.toNat_natCast, List.getElem?_eq_getElem hi, Option.bind_some, cnd d1, cnd d0, Option.bind_some, cnd d3, Int.toNat_natCast, List.getElem?_eq_getElem hk, Option.bind_some, cnd d0, Option.bind_some, cnd d3, List.getElem?_eq_getElem hk, Option.bind_some, bb, cond_false, ii, cond_false, ii, cond_false, ii, cond_false, bb, cond_false, e1, Option.bind_some, Bool.not_true, cond_false, e2, Option.bind_some, Bool.not_true, cond_false, e3, Option.bind_some, Bool.not_true, cond_false, iadd1 (by omega)]
    rfl) (by
    intro g
    have d0 : (0 : Int) ≤ (i : Int) := by omega
    rw [dendronref07_Same_s9, cnd d0, Int.toNat_natCast, List.getElem?_eq_getElem hi, Option.bind_some, cnd' (by omega)])
theorem Same_self {m : MODEL} (hl : m.2.length < 4294967296) (ht : ∀ t ∈ m.2, t.length < 4294967296) (hs : MSz m 4611686018427387903) : dendronref07_Same m m = some true := by
  have ii : ∀ b : Int, (!decide (b = b)) = false := by intro b; rw [decide_eq_true rfl]; rfl
  have key := lp_up (step := dendronref07_Same_s4) (fun i => (((i : Int), ()), ((m.1, m.2, ()), (m.1, m.2, ()), ()))) m.2.length (r := .inl ((), ())) (by omega) (by
    intro g i hi
    have d0 : (i : Int) < ((m.2.length : Nat) : Int) := by omega
    have d1 : (0 : Int) ≤ (i : Int) := by omega
    rw [dendronref07_Same_s4, cnd d0, cnd d1, Int.toNat_natCast, List.getElem?_eq_getElem hi, Option.bind_some, cnd d1, Option.bind_some, ii, cond_false, Same_inner hi (ht _ (List.getElem_mem hi)) (hs _ (List.getElem_mem hi)) (by omega), Option.bind_some]
    dsimp only
    rw [iadd1 (by omega)]
    rfl) (by
    intro g
    rw [dendronref07_Same_s4, cnd' (by omega)])
  have key' : lp dendronref07_Same_s4 K0 ((0, ()), ((m.1, m.2, ()), (m.1, m.2, ()), ())) = _ := key
  rw [dendronref07_Same, ii, cond_false, ii, cond_false, key']
  rfl

theorem law25_awake_ok : dendronlaw25_awake = some true := by decide +kernel

theorem tidyNode_sz {n : NODE} {k : Nat} (h : NSz n k) (hk : 0 < k) : NSz (tidyNode n) k := by
  have c : ∀ {a : RAT}, SzR a k → SzR (canQ (rv a)) k := fun h => (h.szQ hk).szR
  have z : SzR zR k := ⟨Nat.zero_le _, Nat.zero_le _⟩
  unfold tidyNode
  split
  · exact ⟨z, c h.2.1, c h.2.2⟩
  · exact ⟨c h.1, z, c h.2.2⟩
theorem tidyTree_sz {t : List NODE} {k : Nat} (h : TSz t k) (hk : 0 < k) : TSz (tidyTree t) k := by
  intro n hn
  obtain ⟨x, hx, rfl⟩ := List.mem_map.1 hn
  exact tidyNode_sz (h x hx) hk
/-- Small numbers throughout. -/
def SzC (k : Nat) : CT → Prop
  | .leaf n => NSz n k
  | .split n l r => NSz n k ∧ SzC k l ∧ SzC k r
theorem Rep.szC {t : List NODE} {k : Nat} (hs : TSz t k) : ∀ {C : CT} {i : Nat}, Rep t C i → SzC k C := by
  have mem : ∀ {i : Nat} {x : NODE}, t[i]? = some x → NSz x k := fun h => hs _ (List.mem_of_getElem? h)
  intro C
  induction C with
  | leaf n => intro i h; exact mem h.1
  | split n l r ihl ihr =>
    intro i h
    obtain ⟨x, a, b, h1, h2, h3, h4, h5, h6, h7⟩ := h
    subst h2
    have z : NSz x k := mem h1
    exact ⟨z, ihl h6, ihr h7⟩
theorem SzC.lay {k : Nat} : ∀ {C : CT} (p : Nat), SzC k C → TSz (layC C p) k := by
  intro C
  induction C with
  | leaf n => intro p h x hx; simp only [layC, List.mem_singleton] at hx; subst hx; exact h
  | split n l r ihl ihr =>
    intro p h x hx
    simp only [layC, List.mem_cons, List.mem_append] at hx
    rcases hx with rfl | hx | hx
    · exact h.1
    · exact ihl _ h.2.1 x hx
    · exact ihr _ h.2.2 x hx
theorem SzC.sm {k : Nat} (hk : k < 1099511627776) : ∀ {C : CT}, SzC k C → SmC C := by
  intro C
  induction C with
  | leaf n => intro h; exact h.2.1.sm hk
  | split n l r ihl ihr => intro h; exact ⟨ihl h.2.1, ihr h.2.2⟩
theorem SzC.first {k : Nat} : ∀ {C : CT}, SzC k C → SzR (nVal (firstN C)) k := by
  intro C
  induction C with
  | leaf n => intro h; exact h.2.1
  | split n l r ihl ihr => intro h; exact ihl h.2.1
theorem SzC.td {k : Nat} : ∀ {C : CT}, SzC k C → SzC k (tdC C) := by
  have z : SzR zR k := ⟨Nat.zero_le _, Nat.zero_le _⟩
  intro C
  induction C with
  | leaf n => intro h; exact ⟨z, h.2.1, h.2.2⟩
  | split n l r ihl ihr =>
    intro h
    simp only [tdC]
    split
    · exact ⟨z, h.2.1.first, h.1.2.2⟩
    · exact ⟨h.1, ihl h.2.1, ihr h.2.2⟩

theorem Tree_ok {t : List NODE} {f : Int} {k : Nat} (ht : t.length < 4294967296) (hs : TSz t k) (hk : k < 500000000000) : ∃ b, valid_Tree t f = some b ∧ (b = true ↔ Good (f, [t])) := by
  obtain ⟨b, h1, h2⟩ := Ok_ok (m := (f, [t])) (k := k) (by simp) (by intro u hu; simp at hu; subst hu; exact ht) (by intro u hu; simp at hu; subst hu; exact hs) hk
  exact ⟨b, by rw [valid_Tree, h1]; rfl, h2⟩
theorem Good.one {t : List NODE} {f : Int} (h : Good (f, [t])) : Is t f (X.treeOf t) ∧ (X.treeOf t).top = 0 ∧ (X.treeOf t).deep ≤ t.length + 1 := h.treeOf (i := 0) (by simp)

theorem tidy1_ok {t : List NODE} {k : Nat} (ht : t.length < 4294967296) (hs : TSz t k) (hk : k < 1099511627776) : model_Tidy (0, [t]) = some (0, [tidyTree t]) :=
  Tidy_ok (m := (0, [t])) (by simp) (by intro u hu; simp at hu; subst hu; exact ht) (by intro u hu; simp at hu; subst hu; exact hs) hk
theorem Order_ok {t : List NODE} {f : Int} (ht : t.length ≤ 15) (hs : TSz t 4) :
    (¬ Good (f, [t]) ∧ valid_Tree t f = some false ∧ trim_Order t f = some ([], 1)) ∨ (Good (f, [t]) ∧ valid_Tree t f = some true ∧ trim_Order t f = some (layC (tidyC (ofT t (treeOf t))) 0, 0)) := by
  obtain ⟨b, h1, h2⟩ := Tree_ok (t := t) (f := f) (by omega) hs (by decide)
  cases b with
  | false =>
    refine .inl ⟨fun h => (by have := h2.2 h; simp at this), h1, ?_⟩
    rw [trim_Order, h1]; rfl
  | true =>
    have hg := h2.1 rfl
    refine .inr ⟨hg, h1, ?_⟩
    obtain ⟨g1, g2, g3⟩ := hg.one
    have hr := g1.rep
    rw [g2] at hr
    have hd : (tidyC (ofT t (treeOf t))).deep ≤ 16 := by rw [tidyC_deep, ofT_deep]; omega
    have hz : (tidyC (ofT t (treeOf t))).size < 65536 := by rw [tidyC_size, ofT_size]; exact TR.size_le (by omega)
    have hc := copyOf_ok R0 _ 0 [] hr.tidy (by unfold R0; omega) (by simp only [List.length_nil]; omega)
    rw [trim_Order, h1, Option.bind_some, Bool.not_true, cond_false, tidy1_ok (by omega) hs (by decide), Option.bind_some, List.getElem?_cons_zero, Option.bind_some]
    have hc' : trim_copyOf R0 (tidyTree t) 0 [] = _ := hc
    rw [hc']
    rfl
theorem Shrink_ok {t : List NODE} {f : Int} (ht : t.length ≤ 15) (hs : TSz t 4) (hg : Good (f, [t])) : trim_Shrink t f = some (layC (shrinkC (tidyC (ofT t (treeOf t)))) 0, 0) := by
  rcases Order_ok ht hs with h | ⟨_, _, ho⟩
  · exact absurd hg h.1
  · obtain ⟨g1, g2, g3⟩ := hg.one
    have hr := g1.rep
    have hwm := tidyC_wm hr.wm
    have hd : (tidyC (ofT t (treeOf t))).deep ≤ 16 := by rw [tidyC_deep, ofT_deep]; omega
    have hz : (tidyC (ofT t (treeOf t))).size < 65536 := by rw [tidyC_size, ofT_size]; exact TR.size_le (by omega)
    have hsz : SzC 4 (tidyC (ofT t (treeOf t))) := hr.tidy.szC (tidyTree_sz hs (by decide))
    have hi := layC_repI (C := tidyC (ofT t (treeOf t))) [] [] hwm
    simp only [List.nil_append, List.append_nil, List.length_nil] at hi
    obtain ⟨t', e1, e2, _, e3⟩ := shrink_ok R0 _ _ 0 0 _ hi (by unfold R0; omega) (hsz.sm (by decide))
    have e1' : trim_shrink R0 (layC (tidyC (ofT t (treeOf t))) 0) 0 = some t' := e1
    have d := shrinkC_deep (tidyC (ofT t (treeOf t)))
    have z := shrinkC_size (tidyC (ofT t (treeOf t)))
    have hc : trim_copyOf R0 t' 0 [] = _ := copyOf_ok R0 _ 0 [] e3.rep (by unfold R0; omega) (by simp only [List.length_nil]; omega)
    rw [trim_Shrink, ho, Option.bind_some, show (!decide ((0 : Int) = 0)) = false by decide, cond_false, e1', Option.bind_some, over_all e2, hc]
    rfl

theorem same25_ok {a : List NODE} {b : List NODE} (hb : b.length < 4294967296) (hs : TSz b 4) (h : a = tidyTree b) : dendronlaw25_same a b = some true := by
  subst h
  have hz : TSz (tidyTree b) 4 := tidyTree_sz hs (by decide)
  rw [dendronlaw25_same, tidy1_ok hb hs (by decide), Option.bind_some, Same_self (by simp) (by intro u hu; simp at hu; subst hu; simpa [tidyTree] using hb) (by
    intro u hu n hn
    simp at hu; subst hu
    have := hz n hn
    exact ⟨⟨Nat.le_trans this.1.1 (by decide), Nat.le_trans this.1.2 (by decide)⟩, ⟨Nat.le_trans this.2.1.1 (by decide), Nat.le_trans this.2.1.2 (by decide)⟩, ⟨Nat.le_trans this.2.2.1 (by decide), Nat.le_trans this.2.2.2 (by decide)⟩⟩)]
  rfl

theorem TrimOrders_true (t0 : List NODE) (f : Int) (hl : t0.length ≤ 9223372036854775807) : dendronlaw25_TrimOrders t0 f = some true := by
  have hf := Few07_ok (0, [t0]) (by simp) (by intro u hu; simp at hu; subst hu; exact hl)
  have ht := cutTree_len t0
  have hs := cutTree_sz t0
  obtain ⟨t, et⟩ : ∃ t, t = cutTree t0 := ⟨_, rfl⟩
  have hf' : dendronlaw07_Few (0, [t0]) = some (0, [t]) := by rw [hf, et]; rfl
  rw [← et] at ht hs
  rw [dendronlaw25_TrimOrders, hf', Option.bind_some, List.getElem?_cons_zero, Option.bind_some]
  rcases Order_ok (f := f) ht hs with ⟨hg, hv, ho⟩ | ⟨hg, hv, ho⟩
  · have hsh : trim_Shrink t f = some ([], 1) := by rw [trim_Shrink, ho]; rfl
    rw [ho, Option.bind_some, hsh, Option.bind_some, hv, Option.bind_some, Bool.not_false, cond_true, cnd (by decide), cnd rfl, cnd rfl, law25_awake_ok]
    rfl
  · have hsh := Shrink_ok ht hs hg
    obtain ⟨g1, g2, g3⟩ := hg.one
    have hr := g1.rep
    rw [g2] at hr
    have hd : (ofT t (treeOf t)).deep ≤ 16 := by rw [ofT_deep]; omega
    have hz : (ofT t (treeOf t)).size < 65536 := by rw [ofT_size]; exact TR.size_le (by omega)
    have hsz : SzC 4 (ofT t (treeOf t)) := hr.szC hs
    have td := tdC_size (ofT t (treeOf t))
    have o1 : dendronlaw25_ordered R0 t 0 0 = _ := ordered_ok R0 _ 0 0 hr (by unfold R0; omega) (by omega)
    have o2 : dendronlaw25_shrunk R0 t 0 0 = _ := shrunk_ok R0 _ 0 0 hr (by unfold R0; omega) (by omega) (hsz.sm (by decide)) (by omega)
    have s1 := same25_ok (a := layC (tidyC (ofT t (treeOf t))) 0) (b := layC (ofT t (treeOf t)) 0) (by rw [layC_len]; omega) (hsz.lay 0) (tidy_lay 0 hr.wm).symm
    have s2 := same25_ok (a := layC (shrinkC (tidyC (ofT t (treeOf t)))) 0) (b := layC (tdC (ofT t (treeOf t))) 0) (by rw [layC_len]; omega) (hsz.td.lay 0) (by rw [tidy_lay 0 (tdC_wm hr.wm), (shrink_both hr.wm).1])
    rw [ho, Option.bind_some, hsh, Option.bind_some, hv, Option.bind_some, Bool.not_true, cond_false, cnd rfl, cnd rfl, o1, Option.bind_some, s1, Option.bind_some, cond_true, o2, Option.bind_some, s2, Option.bind_some, cond_true, law25_awake_ok]
    rfl
end Go.Proofs.YtdkcgmbdeimonaaDoor.X

