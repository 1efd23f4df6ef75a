/- Lemmas over the printed texts: trees: one parent each, reached from the root. -/
import Derived.Test.YtongppphgbkckaaDoorLa6

namespace Go.Proofs.YtongppphgbkckaaDoor.X
open Go
set_option linter.unusedVariables false
set_option linter.unusedSimpArgs false

/-- The children of a node. -/
def kids (t : List NODE) (i : Nat) : List Nat :=
  match t[i]? with
  | some n => if nLeaf n then [] else [(nL n).toNat, (nR n).toNat]
  | none => []
theorem kids_leaf {t : List NODE} {i : Nat} (h : i < t.length) (hl : nLeaf t[i] = true) : kids t i = [] := by
  have hl' : t[i].1 = true := hl
  simp [kids, h, hl']
theorem kids_split {t : List NODE} {i : Nat} (h : i < t.length) (hl : nLeaf t[i] = false) : kids t i = [(nL t[i]).toNat, (nR t[i]).toNat] := by
  have hl' : t[i].1 = false := hl
  simp [kids, h, hl']
/-- How many of the first so many nodes' children are a node. -/
def cnt (t : List NODE) (i j : Nat) : Nat := ((List.range i).flatMap (kids t)).count j
theorem cnt_zero (t : List NODE) (j : Nat) : cnt t 0 j = 0 := by simp [cnt]
theorem cnt_succ (t : List NODE) (i j : Nat) : cnt t (i + 1) j = cnt t i j + (kids t i).count j := by
  simp [cnt, List.range_succ, List.flatMap_append]
theorem cnt_le (t : List NODE) (i j : Nat) : cnt t i j ≤ 2 * i := by
  induction i with
  | zero => simp [cnt_zero]
  | succ i ih =>
    rw [cnt_succ]
    have h1 : (kids t i).count j ≤ (kids t i).length := List.count_le_length
    have h2 : (kids t i).length ≤ 2 := by
      unfold kids
      split
      · split <;> simp
      · simp
    omega
/-- Each node but the root has one parent; what comes behind is lower. -/
def Ranked (t : List NODE) : Prop := ∃ rk : Nat → Nat, ∀ i, i < t.length → rk i ≤ t.length ∧ ∀ c ∈ kids t i, rk c < rk i
def ShapeP (t : List NODE) : Prop := (∀ j, 0 < j → j < t.length → cnt t t.length j = 1) ∧ Ranked t

theorem nodup_len : ∀ {n : Nat} {V : List Nat}, V.Nodup → (∀ x ∈ V, x < n) → V.length ≤ n
  | 0, V, _, h => by
    cases V with
    | nil => simp
    | cons x V => have := h x List.mem_cons_self; omega
  | n + 1, V, hnd, h => by
    by_cases hm : n ∈ V
    · have h1 : (V.erase n).Nodup := hnd.sublist List.erase_sublist
      have h2 : ∀ x ∈ V.erase n, x < n := by
        intro x hx
        have := (List.Nodup.mem_erase_iff hnd).1 hx
        have := h x this.2
        omega
      have h3 := nodup_len h1 h2
      have h4 := List.length_erase_of_mem hm
      omega
    · have := nodup_len hnd (n := n) (fun x hx => by
        have := h x hx
        have : x ≠ n := fun e => hm (e ▸ hx)
        omega)
      omega

section
variable {t : List NODE} {f : Int}
theorem kids_lt (hr : RangesP t f) {i c : Nat} (hi : i < t.length) (hc : c ∈ kids t i) : 0 < c ∧ c < t.length := by
  cases hl : nLeaf t[i] with
  | true => rw [kids_leaf hi hl] at hc; cases hc
  | false =>
    obtain ⟨_, _, h1, h2, h3, h4⟩ := hr i hi hl
    rw [kids_split hi hl] at hc
    simp at hc
    rcases hc with rfl | rfl <;> omega
theorem cnt_split (t : List NODE) (j : Nat) {a n : Nat} (ha : a < n) : (kids t a).count j ≤ cnt t n j := by
  induction n with
  | zero => omega
  | succ n ih =>
    rw [cnt_succ]
    by_cases e : a = n
    · subst e; omega
    · have := ih (by omega); omega
theorem cnt_two (t : List NODE) (j : Nat) {a b n : Nat} (hab : a < b) (hb : b < n) : (kids t a).count j + (kids t b).count j ≤ cnt t n j := by
  induction n with
  | zero => omega
  | succ n ih =>
    rw [cnt_succ]
    by_cases e : b = n
    · subst e
      have := cnt_split t j hab
      omega
    · have := ih (by omega); omega
theorem parent_one (hc : ∀ j, 0 < j → j < t.length → cnt t t.length j = 1) (hr : RangesP t f) {a b j : Nat} (ha : a < t.length) (hb : b < t.length) (h1 : j ∈ kids t a) (h2 : j ∈ kids t b) : a = b := by
  obtain ⟨j0, jl⟩ := kids_lt hr ha h1
  have c1 := List.count_pos_iff.2 h1
  have c2 := List.count_pos_iff.2 h2
  have := hc j j0 jl
  rcases Nat.lt_trichotomy a b with h | h | h
  · have := cnt_two t j h hb; omega
  · exact h
  · have := cnt_two t j h ha; omega
theorem kids_nodup (hc : ∀ j, 0 < j → j < t.length → cnt t t.length j = 1) (hr : RangesP t f) {a : Nat} (ha : a < t.length) : (kids t a).Nodup := by
  rw [List.nodup_iff_count]
  intro j
  by_cases hj : j ∈ kids t a
  · obtain ⟨j0, jl⟩ := kids_lt hr ha hj
    have h1 := cnt_split t j ha
    have h2 := hc j j0 jl
    exact Nat.le_trans h1 (Nat.le_of_eq h2)
  · rw [List.count_eq_zero_of_not_mem hj]; omega
theorem has_parent (hc : ∀ j, 0 < j → j < t.length → cnt t t.length j = 1) {j : Nat} (h0 : 0 < j) (hj : j < t.length) : ∃ p, p < t.length ∧ j ∈ kids t p := by
  have h1 := hc j h0 hj
  have h2 : j ∈ (List.range t.length).flatMap (kids t) := List.count_pos_iff.1 (by rw [← cnt, h1]; omega)
  obtain ⟨p, hp, hm⟩ := List.mem_flatMap.1 h2
  exact ⟨p, by simpa using hp, hm⟩
end

/-- What the search has: visited, waiting. -/
structure Srch (t : List NODE) (V S : List Nat) : Prop where
  nd : (V ++ S).Nodup
  lt : ∀ x ∈ V ++ S, x < t.length
  par : ∀ c ∈ V ++ S, c ≠ 0 → ∃ p ∈ V, c ∈ kids t p
  kid : ∀ p ∈ V, ∀ c ∈ kids t p, c ∈ V ++ S
  root : 0 ∈ V ++ S
  ord : V.Pairwise fun a b => a ∉ kids t b
  self : ∀ x ∈ V, x ∉ kids t x

theorem Srch.init {t : List NODE} (h : 0 < t.length) : Srch t [] [0] where
  nd := by simp
  lt := by simpa using h
  par := by simp
  kid := by simp
  root := by simp
  ord := List.Pairwise.nil
  self := by simp

theorem Srch.step {t : List NODE} {f : Int} (hc : ∀ j, 0 < j → j < t.length → cnt t t.length j = 1) (hr : RangesP t f) {V S : List Nat} {x : Nat} (h : Srch t V (S ++ [x])) : Srch t (V ++ [x]) (S ++ kids t x) := by
  have hxlt : x < t.length := h.lt x (by simp)
  have hnd := h.nd
  rw [← List.append_assoc, List.nodup_append] at hnd
  obtain ⟨n1, n2, n3⟩ := hnd
  have hxVS : x ∉ V ++ S := fun hx => n3 x hx x (by simp) rfl
  -- new children are new
  have hnew : ∀ c ∈ kids t x, c ∉ V ++ (S ++ [x]) := by
    intro c hcx hmem
    obtain ⟨c0, cl⟩ := kids_lt hr hxlt hcx
    obtain ⟨p, hp, hcp⟩ := h.par c hmem (by omega)
    have := parent_one hc hr (h.lt p (List.mem_append_left _ hp)) hxlt hcp hcx
    subst this
    exact hxVS (List.mem_append_left _ hp)
  have hperm : ((V ++ [x]) ++ (S ++ kids t x)).Perm ((V ++ (S ++ [x])) ++ kids t x) := by
    have e1 : (V ++ [x]) ++ (S ++ kids t x) = V ++ ([x] ++ S) ++ kids t x := by simp
    have e2 : (V ++ (S ++ [x])) ++ kids t x = V ++ (S ++ [x]) ++ kids t x := rfl
    rw [e1, e2]
    exact List.Perm.append_right _ (List.Perm.append_left _ List.perm_append_comm)
  have hmem : ∀ y, y ∈ (V ++ [x]) ++ (S ++ kids t x) ↔ y ∈ V ++ (S ++ [x]) ∨ y ∈ kids t x := by
    intro y; rw [hperm.mem_iff, List.mem_append]
  refine ⟨?_, ?_, ?_, ?_, ?_, ?_, ?_⟩
  · rw [hperm.nodup_iff, List.nodup_append]
    exact ⟨h.nd, kids_nodup hc hr hxlt, fun a ha b hb e => hnew b hb (e ▸ ha)⟩
  · intro y hy
    rcases (hmem y).1 hy with hy | hy
    · exact h.lt y hy
    · exact (kids_lt hr hxlt hy).2
  · intro c hcm hc0
    rcases (hmem c).1 hcm with hy | hy
    · obtain ⟨p, hp, hcp⟩ := h.par c hy hc0
      exact ⟨p, List.mem_append_left _ hp, hcp⟩
    · exact ⟨x, by simp, hy⟩
  · intro p hp c hcp
    rw [hmem]
    rcases List.mem_append.1 hp with hp | hp
    · exact .inl (h.kid p hp c hcp)
    · simp at hp; subst hp; exact .inr hcp
  · rw [hmem]; exact .inl h.root
  · rw [List.pairwise_append]
    refine ⟨h.ord, by simp, fun a ha b hb => ?_⟩
    simp at hb; subst hb
    intro hak
    exact hnew a hak (List.mem_append_left _ ha)
  · intro y hy
    rcases List.mem_append.1 hy with hy | hy
    · exact h.self y hy
    · simp at hy; subst hy
      intro hk
      exact hnew y hk (by simp)

theorem Srch.ranked {t : List NODE} {V : List Nat} (h : Srch t V []) (hall : ∀ i, i < t.length → i ∈ V) : Ranked t := by
  have hnd : V.Nodup := by simpa using h.nd
  have hlen : V.length ≤ t.length := nodup_len hnd (fun x hx => h.lt x (by simpa using hx))
  refine ⟨fun i => V.length - V.idxOf i, fun i hi => ⟨by show V.length - V.idxOf i ≤ t.length; omega, fun c hc => ?_⟩⟩
  have hiV := hall i hi
  have hcV : c ∈ V := by simpa using h.kid i hiV c hc
  have h1 : V.idxOf i < V.length := List.idxOf_lt_length_iff.2 hiV
  have h2 : V.idxOf c < V.length := List.idxOf_lt_length_iff.2 hcV
  have g1 : V[V.idxOf i] = i := List.getElem_idxOf h1
  have g2 : V[V.idxOf c] = c := List.getElem_idxOf h2
  have hne : ¬ V.idxOf c ≤ V.idxOf i := by
    intro hle
    by_cases e : V.idxOf c = V.idxOf i
    · have : c = i := by rw [← g1, ← g2]; simp [e]
      subst this
      exact h.self c hiV hc
    · have := List.pairwise_iff_getElem.1 h.ord _ _ h2 h1 (by omega)
      rw [g1, g2] at this
      exact this hc
  show V.length - V.idxOf c < V.length - V.idxOf i
  omega
theorem Srch.all {t : List NODE} {V : List Nat} (h : Srch t V []) (hc : ∀ j, 0 < j → j < t.length → cnt t t.length j = 1) (hrk : Ranked t) : ∀ i, i < t.length → i ∈ V := by
  obtain ⟨rk, hrk⟩ := hrk
  have key : ∀ (d i : Nat), i < t.length → t.length - rk i ≤ d → i ∈ V := by
    intro d
    induction d with
    | zero =>
      intro i hi hd
      by_cases h0 : i = 0
      · subst h0; simpa using h.root
      · obtain ⟨p, hp, hm⟩ := has_parent hc (by omega) hi
        have h1 := (hrk p hp).1
        have h2 := (hrk p hp).2 i hm
        omega
    | succ d ih =>
      intro i hi hd
      by_cases h0 : i = 0
      · subst h0; simpa using h.root
      · obtain ⟨p, hp, hm⟩ := has_parent hc (by omega) hi
        have h1 := (hrk p hp).1
        have h2 := (hrk p hp).2 i hm
        have := ih p hp (by omega)
        simpa using h.kid p this i hm
  exact fun i hi => key _ i hi (Nat.le_refl _)

def cntL (t : List NODE) (i : Nat) : List Int := (List.range t.length).map fun j => ((cnt t i j : Nat) : Int)
@[simp] theorem cntL_len (t : List NODE) (i : Nat) : (cntL t i).length = t.length := by simp [cntL]
theorem cntL_get {t : List NODE} {i j : Nat} (h : j < t.length) : (cntL t i)[j]? = some ((cnt t i j : Nat) : Int) := by simp [cntL, h]
theorem cntL_step {t : List NODE} {i a b : Nat} (ha : a < t.length) (hb : b < t.length) (hk : kids t i = [a, b]) :
    ((cntL t i).set a (((cnt t i a : Nat) : Int) + 1))[b]? = some ((cnt t i b + (if a = b then 1 else 0) : Nat) : Int) ∧
    ((cntL t i).set a (((cnt t i a : Nat) : Int) + 1)).set b (((cnt t i b + (if a = b then 1 else 0) : Nat) : Int) + 1) = cntL t (i + 1) := by
  constructor
  · rw [List.getElem?_set]
    by_cases e : a = b
    · subst e; simp [ha]
    · rw [if_neg e, cntL_get hb]; simp [e]
  · apply List.ext_getElem?
    intro j
    by_cases hj : j < t.length
    · rw [cntL_get hj, cnt_succ, hk, List.getElem?_set, List.getElem?_set]
      by_cases e1 : b = j
      · subst e1
        by_cases e2 : a = b
        · subst e2; simp [ha]; omega
        · simp [hb, e2, List.count_cons]
      · by_cases e2 : a = j
        · subst e2; simp [ha, e1, List.count_cons]
        · rw [if_neg e1, if_neg e2, cntL_get hj]; simp [List.count_cons, e1, e2]
    · rw [List.getElem?_eq_none (by simp; omega), List.getElem?_eq_none (by simp; omega)]

theorem shape_count {t : List NODE} {f : Int} (hl : t.length < 4294967296) (hr : RangesP t f) :
    lp valid_shape_s3 K0 ((t, List.replicate t.length 0, t, ((t.length : Nat) : Int), 0, ()), ()) = some ((t, cntL t t.length, ()), ()) := by
  have e0 : cntL t 0 = List.replicate t.length 0 := by simp [cntL, cnt_zero, List.map_const']
  have := lp_up (step := valid_shape_s3) (fun i => ((t, cntL t i, t, ((t.length : Nat) : Int), (i : Int), ()), ())) t.length (r := ((t, cntL t t.length, ()), ())) (by omega) (by
    intro g i hi
    have d0 : (i : Int) < ((t.length : Nat) : Int) := by omega
    have d1 : (0 : Int) ≤ (i : Int) := by omega
    cases hleaf : nLeaf t[i] with
    | true =>
      have : cntL t (i + 1) = cntL t i := by
        unfold cntL
        congr 1
        funext j
        rw [cnt_succ, kids_leaf hi hleaf]; simp
      rw [valid_shape_s3, cnd d0, cnd d1, Int.toNat_natCast, List.getElem?_eq_getElem hi, Option.bind_some, show t[i].1 = true from hleaf, iadd1 (by omega), this]
      rfl
    | false =>
      obtain ⟨r1, r2, r3, r4, r5, r6⟩ := hr i hi hleaf
      have hk := kids_split hi hleaf
      have l1 : (nL t[i]).toNat < t.length := by omega
      have l2 : (nR t[i]).toNat < t.length := by omega
      have c1 : (0 : Int) ≤ nL t[i] := by omega
      have c2 : (0 : Int) ≤ nR t[i] := by omega
      have c3 : nL t[i] < ((cntL t i).length : Int) := by rw [cntL_len]; omega
      obtain ⟨s1, s2⟩ := cntL_step l1 l2 hk
      have b1 := cnt_le t i (nL t[i]).toNat
      have b2 := cnt_le t i (nR t[i]).toNat
      have e1 : iadd .i64 ((cnt t i (nL t[i]).toNat : Nat) : Int) 1 = ((cnt t i (nL t[i]).toNat : Nat) : Int) + 1 := iadd1 (by omega)
      have e2 : iadd .i64 ((cnt t i (nR t[i]).toNat + (if (nL t[i]).toNat = (nR t[i]).toNat then 1 else 0) : Nat) : Int) 1 = ((cnt t i (nR t[i]).toNat + (if (nL t[i]).toNat = (nR t[i]).toNat then 1 else 0) : Nat) : Int) + 1 := iadd1 (by split <;> omega)
      have c4 : nR t[i] < (((cntL t i).set (nL t[i]).toNat (((cnt t i (nL t[i]).toNat : Nat) : Int) + 1)).length : Int) := by rw [List.length_set, cntL_len]; omega
      rw [valid_shape_s3, cnd d0, cnd d1, Int.toNat_natCast, List.getElem?_eq_getElem hi, Option.bind_some, show t[i].1 = false from hleaf, Bool.not_false, cond_true, cnd2 c1 c3, cntL_get l1, Option.bind_some, cnd2 c1 c3, Option.bind_some, e1, cnd2 c2 c4, s1, Option.bind_some, cnd2 c2 c4, Option.bind_some, e2, s2, iadd1 (by omega)]
      rfl) (by
    intro g
    rw [valid_shape_s3, cnd' (by omega)])
  rw [← e0]
  exact this

theorem shape_search {t : List NODE} {f : Int} (hl : t.length < 4294967296) (h0 : 0 < t.length) (hr : RangesP t f) (hc : ∀ j, 0 < j → j < t.length → cnt t t.length j = 1) :
    ∃ V, Srch t V [] ∧ lp valid_shape_s17 K0 ((t, List.replicate t.length false, [0], ()), ()) = some ((usedOf t.length V, ()), ()) := by
  obtain ⟨r, ⟨V, hV, rfl⟩, hlp⟩ := lp_wf (step := valid_shape_s17) (fun s => ∃ V S : List Nat, Srch t V S ∧ s = ((t, usedOf t.length V, ints S, ()), ())) (fun s => t.length + 1 - (s.1.2.1.filter id).length)
    (fun r => ∃ V, Srch t V [] ∧ r = ((usedOf t.length V, ()), ())) (v := ((t, List.replicate t.length false, [0], ()), ()))
    ⟨[], [0], Srch.init h0, by simp [usedOf, ints, List.map_const']⟩ (by simp; omega) (by
      rintro s ⟨V, S, hS, rfl⟩
      rcases List.eq_nil_or_concat S with rfl | ⟨S', x, hSx⟩
      · exact .inl ⟨_, ⟨V, hS, rfl⟩, fun g => by rw [valid_shape_s17, cnd' (by simp [ints])]⟩
      · rw [List.concat_eq_append] at hSx
        subst hSx
        have hnd := hS.nd
        have hVl : (V ++ (S' ++ [x])).length ≤ t.length := nodup_len hnd hS.lt
        have hSl : S'.length + 1 ≤ t.length := by simp at hVl; omega
        have hxlt : x < t.length := hS.lt x (by simp)
        have hst := Srch.step hc hr hS
        have hxV : x ∉ V := by
          intro hx
          rw [List.nodup_append] at hnd
          exact hnd.2.2 x hx x (by simp) rfl
        have hcount : ∀ U : List Nat, U.Nodup → (∀ y ∈ U, y < t.length) → ((usedOf t.length U).filter id).length = U.length := by
          intro U hU hlt
          have e1 : ((usedOf t.length U).filter id).length = ((List.range t.length).filter fun j => decide (j ∈ U)).length := by
            unfold usedOf
            rw [List.filter_map, List.length_map]; rfl
          rw [e1]
          refine List.Perm.length_eq ?_
          rw [List.perm_iff_count]
          intro a
          have n1 : ((List.range t.length).filter fun j => decide (j ∈ U)).Nodup := List.Nodup.sublist List.filter_sublist List.nodup_range
          have m1 : a ∈ ((List.range t.length).filter fun j => decide (j ∈ U)) ↔ a ∈ U := by
            simp; exact hlt a
          by_cases ha : a ∈ U
          · rw [List.Nodup.count hU, if_pos ha, List.Nodup.count n1, if_pos (m1.2 ha)]
          · rw [List.count_eq_zero_of_not_mem ha, List.count_eq_zero_of_not_mem (fun h => ha (m1.1 h))]
        have hVnd : V.Nodup := (List.nodup_append.1 hnd).1
        have hm1 := hcount V hVnd (fun y hy => hS.lt y (List.mem_append_left _ hy))
        have hVx : (V ++ [x]).Nodup := (List.nodup_append.1 hst.nd).1
        have hm2 := hcount (V ++ [x]) hVx (fun y hy => hst.lt y (List.mem_append_left _ hy))
        refine .inr ⟨_, ⟨V ++ [x], S' ++ kids t x, hst, rfl⟩, ?_, fun g => ?_⟩
        · show t.length + 1 - ((usedOf t.length (V ++ [x])).filter id).length < t.length + 1 - ((usedOf t.length V).filter id).length
          rw [hm1, hm2]
          simp at hVl ⊢; omega
        · have hlen : (ints (S' ++ [x])).length = S'.length + 1 := by simp
          have e1 : isub .i64 ((S'.length + 1 : Nat) : Int) 1 = ((S'.length : Nat) : Int) := by rw [isub_i] <;> omega
          have c0 : ((S'.length + 1 : Nat) : Int) > 0 := by omega
          have c1 : (0 : Int) ≤ ((S'.length : Nat) : Int) := by omega
          have c2 : ((S'.length : Nat) : Int) < ((S'.length + 1 : Nat) : Int) := by omega
          have g1 : (ints (S' ++ [x]))[S'.length]? = some ((x : Nat) : Int) := by simp [ints]
          have c3 : (decide ((0 : Int) ≤ ((S'.length : Nat) : Int)) && decide (((S'.length : Nat) : Int) ≤ ((S'.length : Nat) : Int)) && decide (((S'.length : Nat) : Int) ≤ ((S'.length + 1 : Nat) : Int))) = true := by
            rw [decide_eq_true c1, decide_eq_true (Int.le_refl _), decide_eq_true (Int.le_of_lt c2)]; rfl
          have c4 : (0 : Int) ≤ ((x : Nat) : Int) := by omega
          have c5 : ((x : Nat) : Int) < ((usedOf t.length V).length : Int) := by simp; omega
          have e2 : (((S'.length : Nat) : Int) - 0).toNat = S'.length := by omega
          have e3 : (ints (S' ++ [x])).take S'.length = ints S' := by simp [ints]
          rw [valid_shape_s17, hlen, cnd c0, e1, cnd2 c1 c2, Int.toNat_natCast, g1, Option.bind_some, c3, cond_true, cnd2 c4 c5, Int.toNat_natCast, usedOf_get hxlt, Option.bind_some, cnd c4, List.getElem?_eq_getElem hxlt, Option.bind_some, usedOf_set hxlt, e2, e3]
          cases hleaf : nLeaf t[x] with
          | true =>
            rw [show t[x].1 = true from hleaf, kids_leaf hxlt hleaf, List.append_nil]
            rfl
          | false =>
            obtain ⟨r1, r2, r3, r4, r5, r6⟩ := hr x hxlt hleaf
            have q1 : (((nL t[x]).toNat : Nat) : Int) = nL t[x] := by omega
            have q2 : (((nR t[x]).toNat : Nat) : Int) = nR t[x] := by omega
            have e4 : ints (S' ++ kids t x) = ints S' ++ [nL t[x], nR t[x]] := by
              rw [kids_split hxlt hleaf]
              simp only [ints, List.map_append, List.map_cons, List.map_nil, q1, q2]
            have hb8 : ((ints S').length + 2) * 8 ≤ 140737488355328 := by rw [ints_len]; omega
            rw [show t[x].1 = false from hleaf, blt hb8, cond_true, Bool.not_false, cond_true, e4])
  exact ⟨V, hV, hlp⟩

theorem shape_ok {t : List NODE} {f : Int} (hl : t.length < 4294967296) (h0 : 0 < t.length) (hr : RangesP t f) : ∃ a e, valid_shape t = some (a, e) ∧ (e = 0 ↔ ShapeP t) := by
  have hcount := shape_count hl hr
  have gd : (decide ((t.length : Int) = (t.length : Int)) && decide (0 ≤ (t.length : Int)) && decide (((8 : Nat) : Int) * (t.length : Int) ≤ 281474976710656) && decide ((t.length : Int) ≤ 9223372036854775807)) = true := by
    have h1 : (0 : Int) ≤ (t.length : Int) := by omega
    have h2 : ((8 : Nat) : Int) * (t.length : Int) ≤ 281474976710656 := by omega
    have h3 : (t.length : Int) ≤ 9223372036854775807 := by omega
    rw [decide_eq_true h1, decide_eq_true h2, decide_eq_true h3, decide_eq_true rfl]; rfl
  have gd1 : (decide ((t.length : Int) = (t.length : Int)) && decide (0 ≤ (t.length : Int)) && decide (((1 : Nat) : Int) * (t.length : Int) ≤ 281474976710656) && decide ((t.length : Int) ≤ 9223372036854775807)) = true := by
    have h1 : (0 : Int) ≤ (t.length : Int) := by omega
    have h2 : ((1 : Nat) : Int) * (t.length : Int) ≤ 281474976710656 := by omega
    have h3 : (t.length : Int) ≤ 9223372036854775807 := by omega
    rw [decide_eq_true h1, decide_eq_true h2, decide_eq_true h3, decide_eq_true rfl]; rfl
  rw [valid_shape, gd, cond_true, Int.toNat_natCast, hcount, Option.bind_some, cntL_len]
  rcases lp_all (step := valid_shape_s10) (fun i => ((t, cntL t t.length, ((t.length : Nat) : Int), (i : Int), ()), ())) t.length (fun i => i = 0 ∨ cnt t t.length i = 1) (fun i => .inr (((i : Int), 11, ()), ())) (.inl ((t, ()), ())) (by omega) (by
      intro i hi
      have d0 : (i : Int) < ((t.length : Nat) : Int) := by omega
      have d1 : (0 : Int) ≤ (i : Int) := by omega
      have d2 : (i : Int) < ((cntL t t.length).length : Int) := by rw [cntL_len]; omega
      by_cases hi0 : i = 0
      · refine .inl ⟨.inl hi0, fun g => ?_⟩
        rw [valid_shape_s10, cnd d0, cnd2 d1 d2, Int.toNat_natCast, cntL_get hi, Option.bind_some, cnd' (by omega), iadd1 (by omega)]
        rfl
      · by_cases h1 : cnt t t.length i = 1
        · refine .inl ⟨.inr h1, fun g => ?_⟩
          rw [valid_shape_s10, cnd d0, cnd2 d1 d2, Int.toNat_natCast, cntL_get hi, Option.bind_some, cnd (by omega), decide_eq_true (by omega), iadd1 (by omega)]
          rfl
        · refine .inr ⟨fun h => by rcases h with h | h <;> contradiction, fun g => ?_⟩
          rw [valid_shape_s10, cnd d0, cnd2 d1 d2, Int.toNat_natCast, cntL_get hi, Option.bind_some, cnd (by omega), decide_eq_false (by omega)]
          rfl) (by
      intro g
      rw [valid_shape_s10, cnd' (by omega)]) with ⟨h, hlp⟩ | ⟨i, hi, h, hlp⟩
  · have hlp : lp valid_shape_s10 K0 ((t, cntL t t.length, ((t.length : Nat) : Int), 0, ()), ()) = some (.inl ((t, ()), ())) := hlp
    have hc : ∀ j, 0 < j → j < t.length → cnt t t.length j = 1 := fun j h1 h2 => by
      rcases h j h2 with h3 | h3
      · omega
      · exact h3
    obtain ⟨V, hV, hlp2⟩ := shape_search hl h0 hr hc
    rw [hlp, Option.bind_some]
    dsimp only
    rw [gd1, cond_true, Int.toNat_natCast, hlp2, Option.bind_some]
    dsimp only
    rw [usedOf_len]
    rcases lp_all (step := valid_shape_s25) (fun i => ((usedOf t.length V, ((t.length : Nat) : Int), (i : Int), ()), ())) t.length (fun i => i ∈ V) (fun i => .inr (((i : Int), 11, ()), ())) (.inl ((), ())) (by omega) (by
        intro i hi
        have d0 : (i : Int) < ((t.length : Nat) : Int) := by omega
        have d1 : (0 : Int) ≤ (i : Int) := by omega
        have d2 : (i : Int) < ((usedOf t.length V).length : Int) := by rw [usedOf_len]; omega
        by_cases hiV : i ∈ V
        · refine .inl ⟨hiV, fun g => ?_⟩
          rw [valid_shape_s25, cnd d0, cnd2 d1 d2, Int.toNat_natCast, usedOf_get hi, Option.bind_some, decide_eq_true hiV, iadd1 (by omega)]
          rfl
        · refine .inr ⟨hiV, fun g => ?_⟩
          rw [valid_shape_s25, cnd d0, cnd2 d1 d2, Int.toNat_natCast, usedOf_get hi, Option.bind_some, decide_eq_false hiV]
          rfl) (by
        intro g
        rw [valid_shape_s25, cnd' (by omega)]) with ⟨h2, hlp3⟩ | ⟨i, hi, h2, hlp3⟩
    · have hlp3 : lp valid_shape_s25 K0 ((usedOf t.length V, ((t.length : Nat) : Int), 0, ()), ()) = some (.inl ((), ())) := hlp3
      rw [hlp3]
      exact ⟨0, 0, rfl, fun _ => ⟨hc, hV.ranked h2⟩, fun _ => rfl⟩
    · have hlp3 : lp valid_shape_s25 K0 ((usedOf t.length V, ((t.length : Nat) : Int), 0, ()), ()) = some (.inr (((i : Int), 11, ()), ())) := hlp3
      rw [hlp3]
      exact ⟨(i : Int), 11, rfl, fun e => (by cases e), fun hp => absurd (hV.all hc hp.2 i hi) h2⟩
  · have hlp : lp valid_shape_s10 K0 ((t, cntL t t.length, ((t.length : Nat) : Int), 0, ()), ()) = some (.inr (((i : Int), 11, ()), ())) := hlp
    rw [hlp]
    refine ⟨(i : Int), 11, rfl, fun e => (by cases e), fun hp => ?_⟩
    exfalso; apply h
    by_cases hi0 : i = 0
    · exact .inl hi0
    · exact .inr (hp.1 i (by omega) hi)
end Go.Proofs.YtongppphgbkckaaDoor.X


/- Lemmas over the printed texts: which models may be; models that are cut. -/
namespace Go.Proofs.YtongppphgbkckaaDoor.X
open Go
set_option linter.unusedVariables false
set_option linter.unusedSimpArgs false

theorem lp_allh' {V T : Type} {step : (V → Option T) → V → Option T} (f : Nat → V) (n : Nat) (ok : Nat → Prop) (Q : T → Prop) (fin : T)
    (hs : ∀ i, i < n → (∀ j, j < i → ok j) → (ok i ∧ ∀ g, step g (f i) = g (f (i + 1))) ∨ (¬ ok i ∧ ∃ r, Q r ∧ ∀ g, step g (f i) = some r)) (he : ∀ g, step g (f n) = some fin) :
    ∀ (d i m : Nat), i + d = n → d < m → (∀ j, j < i → ok j) → ((∀ i, i < n → ok i) ∧ lp step m (f i) = some fin) ∨ (¬ (∀ i, i < n → ok i) ∧ ∃ r, Q r ∧ lp step m (f i) = some r) := by
  intro d
  induction d with
  | zero =>
    intro i m hi hm hok
    obtain ⟨m, rfl⟩ : ∃ k, m = k + 1 := ⟨m - 1, by omega⟩
    have : i = n := by omega
    subst this
    exact .inl ⟨hok, he _⟩
  | succ d ih =>
    intro i m hi hm hok
    obtain ⟨m, rfl⟩ : ∃ k, m = k + 1 := ⟨m - 1, by omega⟩
    rcases hs i (by omega) hok with ⟨h1, h2⟩ | ⟨h1, r, h2, h3⟩
    · have := ih (i + 1) m (by omega) (by omega) (fun j hj => by
        by_cases e : j = i
        · subst e; exact h1
        · exact hok j (by omega))
      have e : lp step (m + 1) (f i) = lp step m (f (i + 1)) := h2 _
      rw [e]; exact this
    · exact .inr ⟨fun h => h1 (h i (by omega)), r, h2, h3 _⟩
theorem lp_allh {V T : Type} {step : (V → Option T) → V → Option T} (f : Nat → V) (n : Nat) (ok : Nat → Prop) (Q : T → Prop) (fin : T) (hn : n < 18446744073709551616)
    (hs : ∀ i, i < n → (∀ j, j < i → ok j) → (ok i ∧ ∀ g, step g (f i) = g (f (i + 1))) ∨ (¬ ok i ∧ ∃ r, Q r ∧ ∀ g, step g (f i) = some r)) (he : ∀ g, step g (f n) = some fin) :
    ((∀ i, i < n → ok i) ∧ lp step K0 (f 0) = some fin) ∨ (¬ (∀ i, i < n → ok i) ∧ ∃ r, Q r ∧ lp step K0 (f 0) = some r) :=
  lp_allh' f n ok Q fin hs he n 0 K0 (by omega) hn (fun j h => by omega)

def NodeFits (n : NODE) : Prop := 0 ≤ nFeat n ∧ nFeat n ≤ 64 ∧ 0 ≤ nL n ∧ nL n ≤ 255 ∧ 0 ≤ nR n ∧ nR n ≤ 255
def TreeFits (t : List NODE) : Prop := 1 ≤ t.length ∧ t.length ≤ 255 ∧ ∀ i (h : i < t.length), NodeFits t[i]
def FitsP (m : MODEL) : Prop := 0 ≤ m.1 ∧ m.1 ≤ 64 ∧ m.2.length ≤ 64 ∧ ∀ i (h : i < m.2.length), TreeFits m.2[i]

theorem fits_inner (a : List (List NODE)) (b c : Int) {t : List NODE} (hl : t.length < 4294967296) :
    ((∀ i (h : i < t.length), NodeFits t[i]) ∧ lp model_Fits_s9 K0 ((a, b, c, t, ((t.length : Nat) : Int), 0, ()), ()) = some (.inl ((a, b, c, ()), ()))) ∨
    (¬ (∀ i (h : i < t.length), NodeFits t[i]) ∧ lp model_Fits_s9 K0 ((a, b, c, t, ((t.length : Nat) : Int), 0, ()), ()) = some (.inr ((false, ()), ()))) := by
  rcases lp_all (step := model_Fits_s9) (fun i => ((a, b, c, t, ((t.length : Nat) : Int), (i : Int), ()), ())) t.length (fun i => ∀ h : i < t.length, NodeFits t[i]) (fun i => .inr ((false, ()), ())) (.inl ((a, b, c, ()), ())) (by omega) (by
      intro i hi
      have d0 : (i : Int) < ((t.length : Nat) : Int) := by omega
      have d1 : (0 : Int) ≤ (i : Int) := by omega
      have head : ∀ g, model_Fits_s9 g ((a, b, c, t, ((t.length : Nat) : Int), (i : Int), ()), ()) = bif (decide (nFeat t[i] < 0)) then (some (.inr ((false, ()), ()))) else (bif (decide (nFeat t[i] > 64)) then (some (.inr ((false, ()), ()))) else (bif (decide (nL t[i] < 0)) then (some (.inr ((false, ()), ()))) else (bif (decide (nL t[i] > 255)) then (some (.inr ((false, ()), ()))) else (bif (decide (nR t[i] < 0)) then (some (.inr ((false, ()), ()))) else (bif (decide (nR t[i] > 255)) then (some (.inr ((false, ()), ()))) else (g ((a, b, c, t, ((t.length : Nat) : Int), ((i + 1 : Nat) : Int), ()), ()))))))) := by
        intro g
        rw [model_Fits_s9, cnd d0, cnd d1, Int.toNat_natCast, List.getElem?_eq_getElem hi, Option.bind_some, iadd1 (by omega)]
        rfl
      by_cases h : NodeFits t[i]
      · refine .inl ⟨fun _ => h, fun g => ?_⟩
        obtain ⟨h1, h2, h3, h4, h5, h6⟩ := h
        rw [head, cnd' (by omega), cnd' (by omega), cnd' (by omega), cnd' (by omega), cnd' (by omega), cnd' (by omega)]
      · refine .inr ⟨fun h' => h (h' hi), fun g => ?_⟩
        rw [head]
        by_cases h1 : nFeat t[i] < 0
        · rw [cnd h1]
        by_cases h2 : nFeat t[i] > 64
        · rw [cnd' h1, cnd h2]
        by_cases h3 : nL t[i] < 0
        · rw [cnd' h1, cnd' h2, cnd h3]
        by_cases h4 : nL t[i] > 255
        · rw [cnd' h1, cnd' h2, cnd' h3, cnd h4]
        by_cases h5 : nR t[i] < 0
        · rw [cnd' h1, cnd' h2, cnd' h3, cnd' h4, cnd h5]
        by_cases h6 : nR t[i] > 255
        · rw [cnd' h1, cnd' h2, cnd' h3, cnd' h4, cnd' h5, cnd h6]
        exfalso; apply h; unfold NodeFits; omega) (by
      intro g
      rw [model_Fits_s9, cnd' (by omega)]) with ⟨h, hlp⟩ | ⟨i, hi, h, hlp⟩
  · exact .inl ⟨fun i hi => h i hi hi, hlp⟩
  · exact .inr ⟨fun hh => h (fun hi => hh i hi), hlp⟩

theorem Fits_ok {m : MODEL} (hl : m.2.length < 4294967296) (ht : ∀ t ∈ m.2, t.length < 4294967296) : ∃ b, model_Fits m = some b ∧ (b = true ↔ FitsP m) := by
  unfold model_Fits
  by_cases h1 : m.1 < 0
  · exact ⟨false, by rw [cnd h1], fun h => (by cases h), fun h => by have := h.1; omega⟩
  by_cases h2 : m.1 > 64
  · exact ⟨false, by rw [cnd' h1, cnd h2], fun h => (by cases h), fun h => by have := h.2.1; omega⟩
  by_cases h3 : ((m.2.length : Nat) : Int) > 64
  · exact ⟨false, by rw [cnd' h1, cnd' h2, cnd h3], fun h => (by cases h), fun h => by have := h.2.2.1; omega⟩
  rw [cnd' h1, cnd' h2, cnd' h3]
  rcases lp_all (step := model_Fits_s4) (fun i => ((m.2, ((m.2.length : Nat) : Int), (i : Int), ()), ())) m.2.length (fun i => ∀ h : i < m.2.length, TreeFits m.2[i]) (fun i => .inr ((false, ()), ())) (.inl ((), ())) (by omega) (by
      intro i hi
      have d0 : (i : Int) < ((m.2.length : Nat) : Int) := by omega
      have d1 : (0 : Int) ≤ (i : Int) := by omega
      have hti := ht _ (List.getElem_mem hi)
      by_cases g1 : ((m.2[i].length : Nat) : Int) < 1
      · refine .inr ⟨fun h => by have := (h hi).1; omega, fun g => ?_⟩
        rw [model_Fits_s4, cnd d0, cnd d1, Int.toNat_natCast, List.getElem?_eq_getElem hi, Option.bind_some, cnd g1]
      by_cases g2 : ((m.2[i].length : Nat) : Int) > 255
      · refine .inr ⟨fun h => by have := (h hi).2.1; omega, fun g => ?_⟩
        rw [model_Fits_s4, cnd d0, cnd d1, Int.toNat_natCast, List.getElem?_eq_getElem hi, Option.bind_some, cnd' g1, cnd g2]
      rcases fits_inner m.2 ((m.2.length : Nat) : Int) (i : Int) hti with ⟨h, hlp⟩ | ⟨h, hlp⟩
      · refine .inl ⟨fun _ => ⟨by omega, by omega, h⟩, fun g => ?_⟩
        rw [model_Fits_s4, cnd d0, cnd d1, Int.toNat_natCast, List.getElem?_eq_getElem hi, Option.bind_some, cnd' g1, cnd' g2, hlp, Option.bind_some]
        dsimp only
        rw [iadd1 (by omega)]
        rfl
      · refine .inr ⟨fun hh => h (hh hi).2.2, fun g => ?_⟩
        rw [model_Fits_s4, cnd d0, cnd d1, Int.toNat_natCast, List.getElem?_eq_getElem hi, Option.bind_some, cnd' g1, cnd' g2, hlp, Option.bind_some]) (by
      intro g
      rw [model_Fits_s4, cnd' (by omega)]) with ⟨h, hlp⟩ | ⟨i, hi, h, hlp⟩
  · have hlp : lp model_Fits_s4 K0 ((m.2, ((m.2.length : Nat) : Int), 0, ()), ()) = some (.inl ((), ())) := hlp
    exact ⟨true, by rw [hlp]; rfl, fun _ => ⟨by omega, by omega, by omega, fun i hi => h i hi hi⟩, fun _ => rfl⟩
  · have hlp : lp model_Fits_s4 K0 ((m.2, ((m.2.length : Nat) : Int), 0, ()), ()) = some (.inr ((false, ()), ())) := hlp
    exact ⟨false, by rw [hlp]; rfl, fun h' => (by cases h'), fun hp => absurd (fun hh => hp.2.2.2 i hh) h⟩

/-- What a rule asks of a tree. -/
def RuleP (f : Int) : Nat → List NODE → Prop
  | 0, t => RangesP t f
  | 1, t => ShapeP t
  | 2, t => CoversP t
  | _, t => SumsP t
/-- A model that may be. -/
def Good (m : MODEL) : Prop := FitsP m ∧ ∀ r, r < 4 → ∀ i (h : i < m.2.length), RuleP m.1 r m.2[i]
theorem Good.ranges {m : MODEL} (h : Good m) {i : Nat} (hi : i < m.2.length) : RangesP m.2[i] m.1 := h.2 0 (by decide) i hi
theorem Good.shape {m : MODEL} (h : Good m) {i : Nat} (hi : i < m.2.length) : ShapeP m.2[i] := h.2 1 (by decide) i hi
theorem Good.covers {m : MODEL} (h : Good m) {i : Nat} (hi : i < m.2.length) : CoversP m.2[i] := h.2 2 (by decide) i hi
/-- A model's numbers. -/
def MSz (m : MODEL) (k : Nat) : Prop := ∀ t ∈ m.2, TSz t k

theorem check_inner {m : MODEL} {k : Nat} (hf : FitsP m) (hs : MSz m k) (hk : k < 500000000000) {r : Nat} (hr : r < 4) (hlow : ∀ r', r' < r → ∀ i (h : i < m.2.length), RuleP m.1 r' m.2[i]) (z : Int × Int × Int × Int) :
    ((∀ i (h : i < m.2.length), RuleP m.1 r m.2[i]) ∧ lp valid_Check_s7 K0 (((r : Int), (r : Int), m.2, ((m.2.length : Nat) : Int), 0, ()), ((m.1, m.2, ()), (z.1, z.2.1, z.2.2.1, z.2.2.2, ()), ())) = some (.inl (((r : Int), ()), ((m.1, m.2, ()), (z.1, z.2.1, z.2.2.1, z.2.2.2, ()), ())))) ∨
    (¬ (∀ i (h : i < m.2.length), RuleP m.1 r m.2[i]) ∧ ∃ e a b c, e ≠ 0 ∧ lp valid_Check_s7 K0 (((r : Int), (r : Int), m.2, ((m.2.length : Nat) : Int), 0, ()), ((m.1, m.2, ()), (z.1, z.2.1, z.2.2.1, z.2.2.2, ()), ())) = some (.inr ((), ((e, a, b, c, ()), ())))) := by
  have hlen := hf.2.2.1
  -- each tree's answer
  have ans : ∀ i (h : i < m.2.length), ∃ a e, (e = 0 ↔ RuleP m.1 r m.2[i]) ∧ ∀ g, valid_Check_s7 g (((r : Int), (r : Int), m.2, ((m.2.length : Nat) : Int), (i : Int), ()), ((m.1, m.2, ()), (z.1, z.2.1, z.2.2.1, z.2.2.2, ()), ())) =
      bif (!decide (e = 0)) then some (.inr ((), ((e, 0, (i : Int), a, ()), ()))) else g (((r : Int), (r : Int), m.2, ((m.2.length : Nat) : Int), ((i + 1 : Nat) : Int), ()), ((m.1, m.2, ()), (z.1, z.2.1, z.2.2.1, z.2.2.2, ()), ())) := by
    intro i hi
    have d0 : (i : Int) < ((m.2.length : Nat) : Int) := by omega
    have d1 : (0 : Int) ≤ (i : Int) := by omega
    have htf := hf.2.2.2 i hi
    have htl : m.2[i].length < 4294967296 := by have := htf.2.1; omega
    have ht0 : 0 < m.2[i].length := htf.1
    have hts := hs _ (List.getElem_mem hi)
    match r, hr with
    | 0, _ =>
      obtain ⟨a, e, h1, h2⟩ := ranges_ok (f := m.1) htl
      refine ⟨a, e, h2, fun g => ?_⟩
      rw [valid_Check_s7, cnd d0, cnd d1, Int.toNat_natCast, List.getElem?_eq_getElem hi, Option.bind_some, cnd (by rfl), h1, Option.bind_some, iadd1 (by omega)]
      rfl
    | 1, _ =>
      obtain ⟨a, e, h1, h2⟩ := shape_ok htl ht0 (hlow 0 (by decide) i hi)
      refine ⟨a, e, h2, fun g => ?_⟩
      rw [valid_Check_s7, cnd d0, cnd d1, Int.toNat_natCast, List.getElem?_eq_getElem hi, Option.bind_some, cnd' (by decide), cnd (by rfl), h1, Option.bind_some, iadd1 (by omega)]
      rfl
    | 2, _ =>
      obtain ⟨a, e, h1, h2⟩ := covers_ok htl hts (by omega)
      refine ⟨a, e, h2, fun g => ?_⟩
      rw [valid_Check_s7, cnd d0, cnd d1, Int.toNat_natCast, List.getElem?_eq_getElem hi, Option.bind_some, cnd' (by decide), cnd' (by decide), cnd (by rfl), h1, Option.bind_some, iadd1 (by omega)]
      rfl
    | 3, _ =>
      obtain ⟨a, e, h1, h2⟩ := sums_ok htl hts hk (hlow 0 (by decide) i hi)
      refine ⟨a, e, h2, fun g => ?_⟩
      rw [valid_Check_s7, cnd d0, cnd d1, Int.toNat_natCast, List.getElem?_eq_getElem hi, Option.bind_some, cnd' (by decide), cnd' (by decide), cnd' (by decide), cnd (by rfl), h1, Option.bind_some, iadd1 (by omega)]
      rfl
  have ans2 : ∀ i, ∃ a e, ∀ h : i < m.2.length, (e = 0 ↔ RuleP m.1 r m.2[i]) ∧ ∀ g, valid_Check_s7 g (((r : Int), (r : Int), m.2, ((m.2.length : Nat) : Int), (i : Int), ()), ((m.1, m.2, ()), (z.1, z.2.1, z.2.2.1, z.2.2.2, ()), ())) =
      bif (!decide (e = 0)) then some (.inr ((), ((e, 0, (i : Int), a, ()), ()))) else g (((r : Int), (r : Int), m.2, ((m.2.length : Nat) : Int), ((i + 1 : Nat) : Int), ()), ((m.1, m.2, ()), (z.1, z.2.1, z.2.2.1, z.2.2.2, ()), ())) := by
    intro i
    by_cases h : i < m.2.length
    · obtain ⟨a, e, h1, h2⟩ := ans i h
      exact ⟨a, e, fun _ => ⟨h1, h2⟩⟩
    · exact ⟨0, 0, fun h' => absurd h' h⟩
  have A := fun i => (ans2 i).choose
  let E : Nat → Int := fun i => (ans2 i).choose_spec.choose
  have hE : ∀ i (h : i < m.2.length), (E i = 0 ↔ RuleP m.1 r m.2[i]) ∧ ∀ g, valid_Check_s7 g (((r : Int), (r : Int), m.2, ((m.2.length : Nat) : Int), (i : Int), ()), ((m.1, m.2, ()), (z.1, z.2.1, z.2.2.1, z.2.2.2, ()), ())) =
      bif (!decide (E i = 0)) then some (.inr ((), ((E i, 0, (i : Int), (ans2 i).choose, ()), ()))) else g (((r : Int), (r : Int), m.2, ((m.2.length : Nat) : Int), ((i + 1 : Nat) : Int), ()), ((m.1, m.2, ()), (z.1, z.2.1, z.2.2.1, z.2.2.2, ()), ())) := fun i h => (ans2 i).choose_spec.choose_spec h
  rcases lp_all (step := valid_Check_s7) (fun i => (((r : Int), (r : Int), m.2, ((m.2.length : Nat) : Int), (i : Int), ()), ((m.1, m.2, ()), (z.1, z.2.1, z.2.2.1, z.2.2.2, ()), ()))) m.2.length (fun i => E i = 0) (fun i => .inr ((), ((E i, 0, (i : Int), (ans2 i).choose, ()), ()))) (.inl (((r : Int), ()), ((m.1, m.2, ()), (z.1, z.2.1, z.2.2.1, z.2.2.2, ()), ()))) (by omega) (by
      intro i hi
      obtain ⟨h1, h2⟩ := hE i hi
      by_cases h0 : E i = 0
      · exact .inl ⟨h0, fun g => by rw [h2, decide_eq_true h0]; rfl⟩
      · exact .inr ⟨h0, fun g => by rw [h2, decide_eq_false h0]; rfl⟩) (by
      intro g
      rw [valid_Check_s7, cnd' (by omega)]) with ⟨h, hlp⟩ | ⟨i, hi, h, hlp⟩
  · exact .inl ⟨fun i hi => (hE i hi).1.1 (h i hi), hlp⟩
  · exact .inr ⟨fun hh => h ((hE i hi).1.2 (hh i hi)), E i, 0, (i : Int), _, h, hlp⟩

theorem Ok_ok {m : MODEL} {k : Nat} (hl : m.2.length < 4294967296) (ht : ∀ t ∈ m.2, t.length < 4294967296) (hs : MSz m k) (hk : k < 500000000000) : ∃ b, valid_Ok m = some b ∧ (b = true ↔ Good m) := by
  obtain ⟨b, hb, hbf⟩ := Fits_ok hl ht
  cases b with
  | false =>
    have hnf : ¬ FitsP m := fun h => by have := hbf.2 h; cases this
    refine ⟨false, ?_, fun h => (by cases h), fun h => absurd h.1 hnf⟩
    rw [valid_Ok, valid_Check, hb, Option.bind_some]
    rfl
  | true =>
    have hf := hbf.1 rfl
    rcases lp_allh (step := valid_Check_s4) (fun r => (((r : Int), ()), ((m.1, m.2, ()), (0, 0, 0, 0, ()), ()))) 4 (fun r => ∀ i (h : i < m.2.length), RuleP m.1 r m.2[i]) (fun r => ∃ e a b c, e ≠ 0 ∧ r = .inr ((), ((e, a, b, c, ()), ()))) (.inl ((), ((0, 0, 0, 0, ()), ()))) (by omega) (by
        intro r hr hlow
        have d0 : (r : Int) < 4 := by omega
        rcases check_inner hf hs hk hr (fun r' hr' => hlow r' hr') (0, 0, 0, 0) with ⟨h1, h2⟩ | ⟨h1, e, a, b, c, h2, h3⟩
        · refine .inl ⟨h1, fun g => ?_⟩
          rw [valid_Check_s4, cnd d0, h2, Option.bind_some]
          dsimp only
          rw [iadd1 (by omega)]
          rfl
        · refine .inr ⟨h1, _, ⟨e, a, b, c, h2, rfl⟩, fun g => ?_⟩
          rw [valid_Check_s4, cnd d0, h3, Option.bind_some]) (by
        intro g
        rw [valid_Check_s4, cnd' (by decide)]) with ⟨h, hlp⟩ | ⟨h, r, ⟨e, a, b, c, he, rfl⟩, hlp⟩
    · have hlp : lp valid_Check_s4 K0 (((0 : Int), ()), ((m.1, m.2, ()), (0, 0, 0, 0, ()), ())) = _ := hlp
      refine ⟨true, ?_, fun _ => ⟨hf, h⟩, fun _ => rfl⟩
      rw [valid_Ok, valid_Check, hb, Option.bind_some, Bool.not_true, cond_false, hlp]
      rfl
    · have hlp : lp valid_Check_s4 K0 (((0 : Int), ()), ((m.1, m.2, ()), (0, 0, 0, 0, ()), ())) = _ := hlp
      refine ⟨false, ?_, fun h' => (by cases h'), fun hg => absurd hg.2 h⟩
      rw [valid_Ok, valid_Check, hb, Option.bind_some, Bool.not_true, cond_false, hlp, Option.bind_some]
      dsimp only
      rw [Option.bind_some, decide_eq_false he]
      rfl
end Go.Proofs.YtongppphgbkckaaDoor.X


/- Lemmas over the printed texts: models that are cut; trees as trees. -/
namespace Go.Proofs.YtongppphgbkckaaDoor.X
open Go
set_option linter.unusedVariables false
set_option linter.unusedSimpArgs false

theorem number07_ok (a : RAT) : dendronlaw07_number a = some (cutR 4 a) := by
  obtain ⟨⟨s, x⟩, y⟩ := a
  unfold dendronlaw07_number cutR
  by_cases h1 : 4 < x.length
  · have c1 : ((x.length : Nat) : Int) > 4 := by omega
    have c2 : (4 : Int) ≤ ((x.length : Nat) : Int) := by omega
    by_cases h2 : 4 < y.length
    · have c3 : ((y.length : Nat) : Int) > 4 := by omega
      have c4 : (4 : Int) ≤ ((y.length : Nat) : Int) := by omega
      rw [cnd c1, cnd c2, cnd c3, cnd c4]
    · have c3 : ¬ ((y.length : Nat) : Int) > 4 := by omega
      rw [cnd c1, cnd c2, cnd' c3, List.take_of_length_le (l := y) (by omega)]
  · have c1 : ¬ ((x.length : Nat) : Int) > 4 := by omega
    by_cases h2 : 4 < y.length
    · have c3 : ((y.length : Nat) : Int) > 4 := by omega
      have c4 : (4 : Int) ≤ ((y.length : Nat) : Int) := by omega
      rw [cnd' c1, cnd c3, cnd c4, List.take_of_length_le (l := x) (by omega)]
    · have c3 : ¬ ((y.length : Nat) : Int) > 4 := by omega
      rw [cnd' c1, cnd' c3, List.take_of_length_le (l := x) (by omega), List.take_of_length_le (l := y) (by omega)]

def cutNode (n : NODE) : NODE := (n.1, n.2.1, cutR 4 n.2.2.1, n.2.2.2.1, n.2.2.2.2.1, n.2.2.2.2.2.1, cutR 4 n.2.2.2.2.2.2.1, cutR 4 n.2.2.2.2.2.2.2)
def cutTree (t : List NODE) : List NODE := (t.take 15).map cutNode
def cutM (m : MODEL) : MODEL := (m.1, (m.2.take 6).map cutTree)
theorem cutNode_sz (n : NODE) : NSz (cutNode n) 4 := ⟨cutR_sz 4 _, cutR_sz 4 _, cutR_sz 4 _⟩
theorem cutTree_sz (t : List NODE) : TSz (cutTree t) 4 := by
  intro n hn
  obtain ⟨x, _, rfl⟩ := List.mem_map.1 hn
  exact cutNode_sz x
theorem cutTree_len (t : List NODE) : (cutTree t).length ≤ 15 := by simp [cutTree]; omega
theorem cutM_sz (m : MODEL) : MSz (cutM m) 4 := by
  intro t ht
  obtain ⟨x, _, rfl⟩ := List.mem_map.1 ht
  exact cutTree_sz x
theorem cutM_tlen (m : MODEL) : ∀ t ∈ (cutM m).2, t.length ≤ 15 := by
  intro t ht
  obtain ⟨x, _, rfl⟩ := List.mem_map.1 ht
  exact cutTree_len x

theorem Few07_inner {m : MODEL} {i : Nat} (hi : i < m.2.length) (hl : m.2[i].length ≤ 9223372036854775807) (hi2 : i < 4611686018427387904) (z w : Int × List (List NODE)) :
    lp dendronlaw07_Few_s7 K0 (((i : Int), [], 0, ()), ((m.1, m.2, ()), (z.1, z.2, ()), (w.1, w.2, ()), ())) = some (((i : Int), cutTree m.2[i], ()), ((m.1, m.2, ()), (z.1, z.2, ()), (w.1, w.2, ()), ())) := by
  have hn : min m.2[i].length 15 ≤ m.2[i].length := Nat.min_le_left _ _
  exact lp_up (step := dendronlaw07_Few_s7) (fun k => (((i : Int), (m.2[i].take k).map cutNode, (k : Int), ()), ((m.1, m.2, ()), (z.1, z.2, ()), (w.1, w.2, ()), ()))) (min m.2[i].length 15) (by omega) (by
    intro g k hk
    have h1 : k < m.2[i].length := by omega
    have d0 : (0 : Int) ≤ (i : Int) := by omega
    have d1 : (k : Int) < ((m.2[i].length : Nat) : Int) := by omega
    have d2 : (k : Int) < 15 := by omega
    have d3 : (0 : Int) ≤ (k : Int) := by omega
    have d4 : (((m.2[i].take k).map cutNode).length + 1) * 208 ≤ 140737488355328 := by simp; omega
    rw [dendronlaw07_Few_s7, cnd d0, Int.toNat_natCast, List.getElem?_eq_getElem hi, Option.bind_some, cnd d1, cnd d2, cnd d0, Option.bind_some, cnd d3, Int.toNat_natCast, List.getElem?_eq_getElem h1, Option.bind_some, number07_ok, Option.bind_some, number07_ok, Option.bind_some, number07_ok, Option.bind_some, blt d4, cond_true, iadd1 (by omega), map_take_succ _ h1]
    rfl) (by
    intro g
    have d0 : (0 : Int) ≤ (i : Int) := by omega
    by_cases h : m.2[i].length ≤ 15
    · have c1 : ¬ ((min m.2[i].length 15 : Nat) : Int) < ((m.2[i].length : Nat) : Int) := by omega
      rw [dendronlaw07_Few_s7, cnd d0, Int.toNat_natCast, List.getElem?_eq_getElem hi, Option.bind_some, cnd' c1, Nat.min_eq_left h, List.take_of_length_le (Nat.le_refl _), cutTree, List.take_of_length_le h]
    · have c1 : ((min m.2[i].length 15 : Nat) : Int) < ((m.2[i].length : Nat) : Int) := by omega
      have c2 : ¬ ((min m.2[i].length 15 : Nat) : Int) < 15 := by omega
      rw [dendronlaw07_Few_s7, cnd d0, Int.toNat_natCast, List.getElem?_eq_getElem hi, Option.bind_some, cnd c1, cnd' c2, Nat.min_eq_right (by omega), cutTree])

theorem Few07_ok (m : MODEL) (hl : m.2.length ≤ 9223372036854775807) (ht : ∀ t ∈ m.2, t.length ≤ 9223372036854775807) : dendronlaw07_Few m = some (cutM m) := by
  have hn : min m.2.length 6 ≤ m.2.length := Nat.min_le_left _ _
  have key := lp_up (step := dendronlaw07_Few_s3) (fun i => (((i : Int), ()), ((m.1, m.2, ()), (0, [], ()), (m.1, (m.2.take i).map cutTree, ()), ()))) (min m.2.length 6) (r := ((), ((0, [], ()), (m.1, (m.2.take 6).map cutTree, ()), ()))) (by omega) (by
    intro g i hi
    have h1 : i < m.2.length := by omega
    have d0 : (i : Int) < ((m.2.length : Nat) : Int) := by omega
    have d1 : (i : Int) < 6 := by omega
    have hin := Few07_inner h1 (ht _ (List.getElem_mem h1)) (by omega) (0, []) (m.1, (m.2.take i).map cutTree)
    have d4 : (((m.2.take i).map cutTree).length + 1) * 24 ≤ 140737488355328 := by simp; omega
    rw [dendronlaw07_Few_s3, cnd d0, cnd d1, hin, Option.bind_some, blt d4, cond_true, iadd1 (by omega), map_take_succ _ h1]
    rfl) (by
    intro g
    by_cases h : m.2.length ≤ 6
    · have c1 : ¬ ((min m.2.length 6 : Nat) : Int) < ((m.2.length : Nat) : Int) := by omega
      rw [dendronlaw07_Few_s3, cnd' c1, Nat.min_eq_left h, List.take_of_length_le (Nat.le_refl _), List.take_of_length_le h]
    · have c1 : ((min m.2.length 6 : Nat) : Int) < ((m.2.length : Nat) : Int) := by omega
      have c2 : ¬ ((min m.2.length 6 : Nat) : Int) < 6 := by omega
      rw [dendronlaw07_Few_s3, cnd c1, cnd' c2, Nat.min_eq_right (by omega)])
  have key' : lp dendronlaw07_Few_s3 K0 ((0, ()), ((m.1, m.2, ()), (0, [], ()), (m.1, [], ()), ())) = _ := key
  rw [dendronlaw07_Few, key']
  rfl

/-! Trees as trees. -/
inductive TR where
  | leaf (i : Nat)
  | split (i : Nat) (l r : TR)
def TR.top : TR → Nat
  | .leaf i => i
  | .split i _ _ => i
def TR.size : TR → Nat
  | .leaf _ => 1
  | .split _ l r => 1 + l.size + r.size
def TR.deep : TR → Nat
  | .leaf _ => 1
  | .split _ l r => 1 + max l.deep r.deep
/-- A tree of nodes as a tree. -/
def Is (t : List NODE) (f : Int) : TR → Prop
  | .leaf i => ∃ h : i < t.length, nLeaf t[i] = true
  | .split i l r => ∃ h : i < t.length, nLeaf t[i] = false ∧ 0 ≤ nFeat t[i] ∧ nFeat t[i] < f ∧ nL t[i] = (l.top : Int) ∧ nR t[i] = (r.top : Int) ∧ Is t f l ∧ Is t f r
theorem tree_at {t : List NODE} {f : Int} (hr : RangesP t f) (hrk : Ranked t) : ∀ i, i < t.length → ∃ T, Is t f T ∧ T.top = i ∧ T.deep ≤ t.length + 1 := by
  obtain ⟨rk, hrk⟩ := hrk
  have key : ∀ (d i : Nat), i < t.length → rk i ≤ d → ∃ T, Is t f T ∧ T.top = i ∧ T.deep ≤ rk i + 1 := by
    intro d
    induction d with
    | zero =>
      intro i hi hd
      cases hl : nLeaf t[i] with
      | true => exact ⟨.leaf i, ⟨hi, hl⟩, rfl, by simp [TR.deep]⟩
      | false =>
        have := (hrk i hi).2 (nL t[i]).toNat (by rw [kids_split hi hl]; simp)
        omega
    | succ d ih =>
      intro i hi hd
      cases hl : nLeaf t[i] with
      | true => exact ⟨.leaf i, ⟨hi, hl⟩, rfl, by simp [TR.deep]⟩
      | false =>
        obtain ⟨r1, r2, r3, r4, r5, r6⟩ := hr i hi hl
        have k1 := (hrk i hi).2 (nL t[i]).toNat (by rw [kids_split hi hl]; simp)
        have k2 := (hrk i hi).2 (nR t[i]).toNat (by rw [kids_split hi hl]; simp)
        obtain ⟨L, hL, hLt, hLd⟩ := ih (nL t[i]).toNat (by omega) (by omega)
        obtain ⟨R, hR, hRt, hRd⟩ := ih (nR t[i]).toNat (by omega) (by omega)
        refine ⟨.split i L R, ⟨hi, hl, r1, r2, by rw [hLt]; omega, by rw [hRt]; omega, hL, hR⟩, rfl, ?_⟩
        simp only [TR.deep]
        omega
  intro i hi
  obtain ⟨T, h1, h2, h3⟩ := key (rk i) i hi (Nat.le_refl _)
  have := (hrk i hi).1
  exact ⟨T, h1, h2, by omega⟩
/-- A good model's trees. -/
theorem Good.tree {m : MODEL} (h : Good m) {i : Nat} (hi : i < m.2.length) : ∃ T, Is m.2[i] m.1 T ∧ T.top = 0 ∧ T.deep ≤ m.2[i].length + 1 :=
  tree_at (h.ranges hi) (h.shape hi).2 0 (h.1.2.2.2 i hi).1
end Go.Proofs.YtongppphgbkckaaDoor.X


/- Trees: where rows go, what trees say. -/
namespace Go.Proofs.YtongppphgbkckaaDoor.X
open Go
set_option linter.unusedVariables false
set_option linter.unusedSimpArgs false

abbrev zR : RAT := ((false, []), [])
abbrev zN : NODE := (false, 0, zR, 0, 0, false, zR, zR)
def nodeAt (t : List NODE) (i : Nat) : NODE := (t[i]?).getD zN
theorem nodeAt_get {t : List NODE} {i : Nat} (h : i < t.length) : nodeAt t i = t[i] := by simp [nodeAt, h]
def cellAt (row : List CELL) (i : Nat) : CELL := (row[i]?).getD (false, zR)
theorem cellAt_get {row : List CELL} {i : Nat} (h : i < row.length) : cellAt row i = row[i] := by simp [cellAt, h]
/-- Whether an entry goes to the left of a split. -/
def goes (n : NODE) (c : CELL) : Bool := if c.1 then nMiss n else decide (rv c.2 < rv (nCut n))
def goL (t : List NODE) (row : List CELL) (i : Nat) : Bool := goes (nodeAt t i) (cellAt row (nFeat (nodeAt t i)).toNat)

def wayT (t : List NODE) (row : List CELL) : TR → List Nat
  | .leaf i => [i]
  | .split i l r => i :: if goL t row i then wayT t row l else wayT t row r
theorem wayT_len (t : List NODE) (row : List CELL) (T : TR) : (wayT t row T).length ≤ T.deep := by
  induction T with
  | leaf i => simp [wayT, TR.deep]
  | split i l r ihl ihr =>
    simp only [wayT, TR.deep, List.length_cons]
    split <;> omega
theorem Is.top_lt {t : List NODE} {f : Int} {T : TR} (h : Is t f T) : T.top < t.length := by
  cases T with
  | leaf i => exact h.1
  | split i l r => exact h.1
theorem TR.size_lt (T : TR) : T.size < 2 ^ T.deep := by
  induction T with
  | leaf i => simp [TR.size, TR.deep]
  | split i l r ihl ihr =>
    simp only [TR.size, TR.deep]
    have h1 : 2 ^ l.deep ≤ 2 ^ max l.deep r.deep := Nat.pow_le_pow_right (by decide) (Nat.le_max_left _ _)
    have h2 : 2 ^ r.deep ≤ 2 ^ max l.deep r.deep := Nat.pow_le_pow_right (by decide) (Nat.le_max_right _ _)
    rw [Nat.add_comm 1 (max l.deep r.deep), Nat.pow_succ]
    omega
theorem TR.size_le {T : TR} (h : T.deep ≤ 16) : T.size < 65536 := by
  have h1 := T.size_lt
  have h2 : 2 ^ T.deep ≤ 2 ^ 16 := Nat.pow_le_pow_right (by decide) h
  omega
theorem TR.deep_pos (T : TR) : 0 < T.deep := by cases T <;> simp [TR.deep] <;> omega

/-- What a tree says of a row, where a set is known. -/
def expT (t : List NODE) (row : List CELL) (set : Nat) : TR → Rat
  | .leaf i => rv (nVal (nodeAt t i))
  | .split i l r => if set.testBit (nFeat (nodeAt t i)).toNat then (if goL t row i then expT t row set l else expT t row set r)
      else (cov t l.top * expT t row set l + cov t r.top * expT t row set r) / cov t i
theorem TSz.at {t : List NODE} {k : Nat} (h : TSz t k) {i : Nat} (hi : i < t.length) : NSz (nodeAt t i) k := by rw [nodeAt_get hi]; exact h _ (List.getElem_mem hi)
theorem cov_sz {t : List NODE} (hs : TSz t 4) {i : Nat} (hi : i < t.length) : SzQ (cov t i) 4 := (hs.at hi).2.2.szQ (by decide)
theorem expT_sz {t : List NODE} {f : Int} {row : List CELL} {set : Nat} {T : TR} (hs : TSz t 4) (h : Is t f T) : SzQ (expT t row set T) (16 * T.size) := by
  induction T with
  | leaf i => exact ((hs.at h.1).2.1.szQ (by decide)).mono (by simp [TR.size])
  | split i l r ihl ihr =>
    obtain ⟨h1, _, _, _, _, _, h2, h3⟩ := h
    have a := ihl h2
    have b := ihr h3
    simp only [expT, TR.size]
    split
    · split
      · exact a.mono (by omega)
      · exact b.mono (by omega)
    · have := (((cov_sz hs h2.top_lt).mul a).add ((cov_sz hs h3.top_lt).mul b)).div (cov_sz hs h1)
      exact this.mono (by omega)
end Go.Proofs.YtongppphgbkckaaDoor.X


/- Trees: the tree of a list of nodes. -/
namespace Go.Proofs.YtongppphgbkckaaDoor.X
open Go
set_option linter.unusedVariables false
set_option linter.unusedSimpArgs false

def mkT (t : List NODE) : Nat → Nat → TR
  | 0, i => .leaf i
  | d + 1, i => if nLeaf (nodeAt t i) then .leaf i else .split i (mkT t d (nL (nodeAt t i)).toNat) (mkT t d (nR (nodeAt t i)).toNat)
theorem mkT_eq {t : List NODE} {f : Int} : ∀ (d : Nat) (T : TR), Is t f T → T.deep ≤ d → mkT t d T.top = T := by
  intro d
  induction d with
  | zero => intro T _ h; have := T.deep_pos; omega
  | succ d ih =>
    intro T h hd
    cases T with
    | leaf i =>
      obtain ⟨h1, h2⟩ := h
      simp only [TR.top, mkT, nodeAt_get h1, h2, if_true]
    | split i l r =>
      obtain ⟨h1, h2, _, _, h3, h4, h5, h6⟩ := h
      simp only [TR.deep] at hd
      show mkT t (d + 1) i = _
      rw [mkT, nodeAt_get h1, h2, h3, h4, Int.toNat_natCast, Int.toNat_natCast, ih l h5 (by omega), ih r h6 (by omega)]
      rfl
def treeOf (t : List NODE) : TR := mkT t (t.length + 1) 0
theorem Good.treeOf {m : MODEL} (h : Good m) {i : Nat} (hi : i < m.2.length) : Is m.2[i] m.1 (treeOf m.2[i]) ∧ (treeOf m.2[i]).top = 0 ∧ (treeOf m.2[i]).deep ≤ m.2[i].length + 1 := by
  obtain ⟨T, h1, h2, h3⟩ := h.tree hi
  have : X.treeOf m.2[i] = T := by rw [X.treeOf, ← h2]; exact mkT_eq _ T h1 h3
  rw [this]; exact ⟨h1, h2, h3⟩
def treeAt (m : MODEL) (i : Nat) : List NODE := (m.2[i]?).getD []
theorem treeAt_get {m : MODEL} {i : Nat} (h : i < m.2.length) : treeAt m i = m.2[i] := by simp [treeAt, h]
def sayM (m : MODEL) (row : List CELL) (set : Nat) : Rat := rsum (fun i => expT (treeAt m i) row set (treeOf (treeAt m i))) m.2.length
theorem MSz.at {m : MODEL} {k : Nat} (h : MSz m k) {i : Nat} (hi : i < m.2.length) : TSz (treeAt m i) k := by rw [treeAt_get hi]; exact h _ (List.getElem_mem hi)
theorem Good.isAt {m : MODEL} (h : Good m) {i : Nat} (hi : i < m.2.length) : Is (treeAt m i) m.1 (X.treeOf (treeAt m i)) := by rw [treeAt_get hi]; exact (h.treeOf hi).1
theorem deep16 {m : MODEL} (h : Good m) (hl : ∀ t ∈ m.2, t.length ≤ 15) {i : Nat} (hi : i < m.2.length) : (treeOf (treeAt m i)).deep ≤ 16 := by
  rw [treeAt_get hi]
  have := (h.treeOf hi).2.2
  have := hl _ (List.getElem_mem hi)
  omega
theorem expT_at {m : MODEL} {row : List CELL} {set : Nat} (h : Good m) (hs : MSz m 4) (hl : ∀ t ∈ m.2, t.length ≤ 15) {i : Nat} (hi : i < m.2.length) : SzQ (expT (treeAt m i) row set (treeOf (treeAt m i))) 1048576 := by
  have := TR.size_le (deep16 h hl hi)
  exact (expT_sz (hs.at hi) (h.isAt hi)).mono (by omega)
theorem sayM_sz {m : MODEL} {row : List CELL} {set : Nat} (h : Good m) (hs : MSz m 4) (hl : ∀ t ∈ m.2, t.length ≤ 15) {n : Nat} (hn : n ≤ m.2.length) : SzQ (rsum (fun i => expT (treeAt m i) row set (treeOf (treeAt m i))) n) (1 + n * 1048577) :=
  rsum_sz fun i hi => expT_at h hs hl (by omega)
end Go.Proofs.YtongppphgbkckaaDoor.X


/- Route: to which side an entry goes. -/
namespace Go.Proofs.YtongppphgbkckaaDoor.X
open Go
set_option linter.unusedVariables false
set_option linter.unusedSimpArgs false

def CSz (row : List CELL) (k : Nat) : Prop := ∀ c ∈ row, SzR c.2 k
theorem goes_ok {n : NODE} {c : CELL} {k j : Nat} (hn : SzR (nCut n) k) (hk : k < 1099511627776) (hc : SzR c.2 j) (hj : j < 1099511627776) : route_goes n c = some (goes n c) := by
  unfold route_goes goes
  cases h : c.1 with
  | true => rfl
  | false =>
    rw [cond_false, ratio_Cmp_ok (hc.sm hj) (hn.sm hk), Option.bind_some, if_neg (by decide)]
    congr 1
    by_cases h : rv c.2 < rv (nCut n)
    · rw [decide_eq_true (rcmp_neg.2 h), decide_eq_true h]
    · rw [decide_eq_false (fun e => h (rcmp_neg.1 e)), decide_eq_false h]
theorem Left_ok {n : NODE} {c : CELL} {k j : Nat} (hn : SzR (nCut n) k) (hk : k < 1099511627776) (hc : SzR c.2 j) (hj : j < 1099511627776) : route_Left n c = some (!nLeaf n && goes n c) := by
  unfold route_Left
  rw [goes_ok hn hk hc hj]
  show _ = some (!n.1 && goes n c)
  cases h : n.1 with
  | true => rfl
  | false => rfl
end Go.Proofs.YtongppphgbkckaaDoor.X


/- Route: ways, and what is predicted. -/
namespace Go.Proofs.YtongppphgbkckaaDoor.X
open Go
set_option linter.unusedVariables false
set_option linter.unusedSimpArgs false

theorem goL_ok {t : List NODE} {f : Int} {row : List CELL} {i : Nat} (hs : TSz t 4) (hc : CSz row 9) (hi : i < t.length) (h0 : 0 ≤ nFeat t[i]) (h1 : nFeat t[i] < (row.length : Int)) :
    ∃ c, row[(nFeat t[i]).toNat]? = some c ∧ SzR c.2 9 ∧ goes t[i] c = goL t row i := by
  have hlt : (nFeat t[i]).toNat < row.length := by omega
  refine ⟨row[(nFeat t[i]).toNat], List.getElem?_eq_getElem hlt, hc _ (List.getElem_mem hlt), ?_⟩
  rw [goL, nodeAt_get hi, cellAt_get hlt]
theorem next_ok {t : List NODE} {row : List CELL} {i : Nat} (hs : TSz t 4) (hc : CSz row 9) (hi : i < t.length) (h0 : 0 ≤ nFeat t[i]) (h1 : nFeat t[i] < (row.length : Int)) :
    route_next t[i] row = some (if goL t row i then nL t[i] else nR t[i]) := by
  obtain ⟨c, h2, h3, h4⟩ := goL_ok (f := 0) hs hc hi h0 h1
  have hz := hs _ (List.getElem_mem hi)
  rw [route_next, cnd h0, h2, Option.bind_some, goes_ok hz.1 (by decide) h3 (by decide), Option.bind_some, h4]
  cases goL t row i <;> rfl

theorem Way_lp {t : List NODE} {row : List CELL} (hs : TSz t 4) (hc : CSz row 9) : ∀ (T : TR) (m : Nat) (out : List Int), Is t (row.length : Int) T → T.deep ≤ m → T.deep + out.length ≤ 1000000 →
    lp route_Way_s5 m ((t, row, (T.top : Int), out, ()), ()) = some ((out ++ ints (wayT t row T).tail, ()), ()) := by
  intro T
  induction T with
  | leaf i =>
    intro m out h hm ho
    obtain ⟨h1, h2⟩ := h
    obtain ⟨m, rfl⟩ : ∃ k, m = k + 1 := ⟨m - 1, by simp only [TR.deep] at hm; omega⟩
    have d0 : (0 : Int) ≤ (i : Int) := by omega
    show route_Way_s5 (lp route_Way_s5 m) _ = _
    rw [show ((TR.leaf i).top : Int) = (i : Int) from rfl, route_Way_s5, cnd d0, Int.toNat_natCast, List.getElem?_eq_getElem h1, Option.bind_some, show t[i].1 = true from h2]
    simp [wayT, ints]
  | split i l r ihl ihr =>
    intro m out h hm ho
    obtain ⟨h1, h2, f0, f1, h3, h4, h5, h6⟩ := h
    simp only [TR.deep] at hm ho
    obtain ⟨m, rfl⟩ : ∃ k, m = k + 1 := ⟨m - 1, by omega⟩
    have d0 : (0 : Int) ≤ (i : Int) := by omega
    have head : ∀ U : TR, wayT t row U = U.top :: (wayT t row U).tail := by intro U; cases U <;> rfl
    show route_Way_s5 (lp route_Way_s5 m) _ = _
    rw [show ((TR.split i l r).top : Int) = (i : Int) from rfl, route_Way_s5, cnd d0, Int.toNat_natCast, List.getElem?_eq_getElem h1, Option.bind_some, show (!t[i].1) = true by rw [show t[i].1 = false from h2]; rfl, cond_true, cnd d0, Option.bind_some, next_ok hs hc h1 f0 f1, Option.bind_some, blt (by omega), cond_true]
    simp only [wayT, List.tail_cons]
    cases goL t row i with
    | true =>
      rw [if_pos rfl, if_pos rfl, h3, ihl m _ h5 (by omega) (by simp; omega)]
      rw [head l]; simp [ints]
    | false =>
      rw [if_neg (by decide), if_neg (by decide), h4, ihr m _ h6 (by omega) (by simp; omega)]
      rw [head r]; simp [ints]
theorem wayT_head (t : List NODE) (row : List CELL) (T : TR) : wayT t row T = T.top :: (wayT t row T).tail := by cases T <;> rfl

theorem TreeV_ok {t : List NODE} {f : Int} (ht : t.length ≤ 15) (hs : TSz t 4) : ∃ b, valid_Tree t f = some b ∧ (b = true ↔ Good (f, [t])) := by
  obtain ⟨b, h1, h2⟩ := Ok_ok (m := (f, [t])) (k := 4) (by simp) (by intro u hu; simp at hu; subst hu; omega) (by intro u hu; simp at hu; subst hu; exact hs) (by decide)
  exact ⟨b, by rw [valid_Tree, h1]; rfl, h2⟩
theorem route_Way_ok {t : List NODE} {row : List CELL} (ht : t.length ≤ 15) (hs : TSz t 4) (hc : CSz row 9) :
    (¬ Good ((row.length : Int), [t]) ∧ valid_Tree t (row.length : Int) = some false ∧ route_Way t row = some ([], 1)) ∨
    (Good ((row.length : Int), [t]) ∧ valid_Tree t (row.length : Int) = some true ∧ route_Way t row = some (ints (wayT t row (treeOf t)), 0)) := by
  obtain ⟨b, h1, h2⟩ := TreeV_ok (f := (row.length : Int)) ht hs
  cases b with
  | false => exact .inl ⟨fun h => by have := h2.2 h; simp at this, h1, by rw [route_Way, h1]; rfl⟩
  | true =>
    have hg := h2.1 rfl
    obtain ⟨g1, g2, g3⟩ := hg.treeOf (i := 0) (by simp)
    have g1 : Is t (row.length : Int) (treeOf t) := g1
    have g2 : (treeOf t).top = 0 := g2
    have g3 : (treeOf t).deep ≤ t.length + 1 := g3
    refine .inr ⟨hg, h1, ?_⟩
    have key := Way_lp hs hc (treeOf t) K0 [0] g1 (by unfold K0; omega) (by simp; omega)
    rw [g2] at key
    have key : lp route_Way_s5 K0 ((t, row, 0, [0], ()), ()) = _ := key
    rw [route_Way, h1, Option.bind_some, Bool.not_true, cond_false, key, Option.bind_some]
    rw [wayT_head t row (treeOf t), g2]
    rfl
end Go.Proofs.YtongppphgbkckaaDoor.X


/- Route: RouteWays, RoutePredicts. -/
namespace Go.Proofs.YtongppphgbkckaaDoor.X
open Go
set_option linter.unusedVariables false
set_option linter.unusedSimpArgs false

theorem cutRow_sz (l : List CELL) : CSz (l.map cutCell) 9 := by
  intro c hc
  obtain ⟨x, _, rfl⟩ := List.mem_map.1 hc
  exact ⟨Nat.le_trans (cutR_sz 3 _).1 (by decide), Nat.le_trans (cutR_sz 3 _).2 (by decide)⟩
theorem fits_ok {m : MODEL} {row : List CELL} (hl : m.2.length < 4294967296) (ht : ∀ t ∈ m.2, t.length < 4294967296) (hs : MSz m 4) :
    ∃ e : Int, route_fits m row = some e ∧ route_Fits m row = some e ∧ dendronlaw10_Why m row = some e ∧ (e = 0 ↔ Good m ∧ (row.length : Int) = m.1) := by
  obtain ⟨b, h1, h2⟩ := Ok_ok hl ht hs (by decide)
  have key : ∃ e : Int, route_fits m row = some e ∧ (e = 0 ↔ Good m ∧ (row.length : Int) = m.1) := by
    cases b with
    | false => exact ⟨1, by rw [route_fits, h1]; rfl, by constructor; · intro h; exact absurd h (by decide)
                                                         · intro h; have := h2.2 h.1; simp at this⟩
    | true =>
      by_cases h : (row.length : Int) = m.1
      · exact ⟨0, by rw [route_fits, h1, Option.bind_some, Bool.not_true, cond_false, decide_eq_true h]; rfl, by simp [h2.1 rfl, h]⟩
      · exact ⟨14, by rw [route_fits, h1, Option.bind_some, Bool.not_true, cond_false, decide_eq_false h]; rfl, by simp [h]⟩
  obtain ⟨e, h3, h4⟩ := key
  have h5 : dendronlaw10_Why m row = route_fits m row := rfl
  exact ⟨e, h3, by rw [route_Fits, h3]; rfl, by rw [h5, h3], h4⟩

/-- A model that may be asked. -/
structure Askd (m : MODEL) (row : List CELL) : Prop where
  good : Good m
  len : (row.length : Int) = m.1
  ms : MSz m 4
  ml : m.2.length ≤ 6
  mt : ∀ t ∈ m.2, t.length ≤ 15
  cs : CSz row 9
theorem Askd.tree {m : MODEL} {row : List CELL} (h : Askd m row) {i : Nat} (hi : i < m.2.length) : TSz m.2[i] 4 ∧ Is m.2[i] (row.length : Int) (treeOf (treeAt m i)) ∧ (treeOf (treeAt m i)).top = 0 ∧ (treeOf (treeAt m i)).deep ≤ 16 ∧ treeAt m i = m.2[i] := by
  have h1 := h.good.treeOf hi
  have h2 := deep16 h.good h.mt hi
  rw [treeAt_get hi] at h2 ⊢
  exact ⟨h.ms _ (List.getElem_mem hi), by rw [h.len]; exact h1.1, h1.2.1, h2, rfl⟩
theorem sum_step {f : Nat → Rat} {n k : Nat} {q : RAT} (hs : SzQ (rsum f n) k) (hk : k < 1099511627776) (hq : Sm q) (e : rv q = f n) : ratio_Add (((canQ (rsum f n)).1.1, (canQ (rsum f n)).1.2), (canQ (rsum f n)).2) q = some (canQ (rsum f (n + 1))) := by
  have h1 := ratio_Add_ok (hs.sm hk) hq
  rw [rv_canQ, e] at h1
  exact h1

end Go.Proofs.YtongppphgbkckaaDoor.X


/- Route: RoutePredicts. -/
namespace Go.Proofs.YtongppphgbkckaaDoor.X
open Go
set_option linter.unusedVariables false
set_option linter.unusedSimpArgs false

end Go.Proofs.YtongppphgbkckaaDoor.X


/- Expect: what is said where a set is known. -/
namespace Go.Proofs.YtongppphgbkckaaDoor.X
open Go
set_option linter.unusedVariables false
set_option linter.unusedSimpArgs false

theorem testBit_div (n k : Nat) : (n / 2 ^ k) % 2 = 1 ↔ n.testBit k = true := by
  rw [Nat.testBit_eq_decide_div_mod_eq, decide_eq_true_iff]
theorem known_ok {set k : Nat} (hs : set < 18446744073709551616) (hk : k ≤ 64) : expect_known (set : Int) (k : Int) = some (set.testBit k) := by
  have h2 : (set / 2 ^ k : Nat) < 18446744073709551616 := Nat.lt_of_le_of_lt (Nat.div_le_self _ _) hs
  have h3 := iand_nat (x := set / 2 ^ k) (y := 1) h2 (by decide)
  rw [expect_known, cnd' (by omega), shr_nat set k hk]
  have h3 : iand .u64 ((set / 2 ^ k : Nat) : Int) 1 = ((set / 2 ^ k &&& 1 : Nat) : Int) := h3
  rw [h3, Nat.and_one_is_mod]
  congr 1
  by_cases h : set.testBit k = true
  · rw [h, decide_eq_true]
    have := (testBit_div set k).2 h
    omega
  · have h' : set.testBit k = false := by simpa using h
    rw [h', decide_eq_false]
    intro e
    exact h ((testBit_div set k).1 (by omega))
theorem over_ok {a b : RAT} (ha : Sm a) (hb : Sm b) (h : rv b ≠ 0) : expect_over a b = some (canQ (rv a / rv b)) := by
  rw [expect_over, ratio_Div_ok ha hb, if_neg h]; rfl
theorem mean_ok {t : List NODE} {i a b : Nat} {x y : RAT} {p q : Rat} {k : Nat} (hs : TSz t 4) (hcov : CoversP t) (hi : i < t.length) (ha : a < t.length) (hb : b < t.length) (hL : nL t[i] = (a : Int)) (hR : nR t[i] = (b : Int)) (hx : rv x = p) (hy : rv y = q) (hxs : Sm x) (hys : Sm y)
    (hp : SzQ p k) (hq : SzQ q k) (hk : k < 1000000000) : expect_mean t t[i] x y = some (canQ ((cov t a * p + cov t b * q) / cov t i)) := by
  have za := (hs _ (List.getElem_mem ha)).2.2
  have zb := (hs _ (List.getElem_mem hb)).2.2
  have zi := (hs _ (List.getElem_mem hi)).2.2
  have m1 := ratio_Mul_ok (za.sm (by decide)) hxs
  have m2 := ratio_Mul_ok (zb.sm (by decide)) hys
  rw [hx] at m1
  rw [hy] at m2
  have s1 : SzQ (rv (nCov t[a]) * p) (4 + k) := (za.szQ (by decide)).mul hp
  have s2 : SzQ (rv (nCov t[b]) * q) (4 + k) := (zb.szQ (by decide)).mul hq
  have s3 := s1.add s2
  have m3 := ratio_Add_ok (s1.sm (by omega)) (s2.sm (by omega))
  rw [rv_canQ, rv_canQ] at m3
  have hne : rv (nCov t[i]) ≠ 0 := by
    have := hcov i hi
    intro e
    rw [e] at this
    exact absurd this (by decide)
  have m4 := over_ok (s3.sm (by omega)) (zi.sm (by decide)) hne
  rw [rv_canQ] at m4
  rw [expect_mean, show t[i].2.2.2.1 = (a : Int) from hL, cnd (by omega), Int.toNat_natCast, List.getElem?_eq_getElem ha, Option.bind_some, m1, Option.bind_some, show t[i].2.2.2.2.1 = (b : Int) from hR, cnd (by omega), Int.toNat_natCast, List.getElem?_eq_getElem hb, Option.bind_some, m2, Option.bind_some, m3, Option.bind_some, m4, Option.bind_some, cov_get ha, cov_get hb, cov_get hi]

theorem expect_value_ok {t : List NODE} {row : List CELL} {set : Nat} (hs : TSz t 4) (hc : CSz row 9) (hcov : CoversP t) (hset : set < 18446744073709551616) (hf64 : row.length ≤ 64) : ∀ (n : Nat) (T : TR), Is t (row.length : Int) T → T.deep ≤ n → T.size ≤ 1000000 →
    expect_value n t (T.top : Int) row (set : Int) = some (canQ (expT t row set T)) := by
  intro n
  induction n with
  | zero => intro T _ hd; have := T.deep_pos; omega
  | succ n ih =>
    intro T h hd hz
    show expect_value_b (expect_value n) t T.top row set = _
    cases T with
    | leaf i =>
      obtain ⟨h1, h2⟩ := h
      have d0 : (0 : Int) ≤ (i : Int) := by omega
      have z := hs _ (List.getElem_mem h1)
      rw [expect_value_b, show ((TR.leaf i).top : Int) = (i : Int) from rfl, cnd d0, Int.toNat_natCast, List.getElem?_eq_getElem h1, Option.bind_some, show t[i].1 = true from h2, cond_true, ratio_Clean_ok (z.2.1.sm (by decide)), Option.bind_some, expT, nodeAt_get h1]
    | split i l r =>
      have h0 := h
      obtain ⟨h1, h2, f0, f1, h3, h4, h5, h6⟩ := h
      have d0 : (0 : Int) ≤ (i : Int) := by omega
      simp only [TR.deep] at hd
      simp only [TR.size] at hz
      obtain ⟨c, g1, g2, g3⟩ := goL_ok (f := 0) hs hc h1 f0 f1
      have z := hs _ (List.getElem_mem h1)
      have el : expect_value n t t[i].2.2.2.1 row set = some (canQ (expT t row set l)) := by rw [show t[i].2.2.2.1 = _ from h3]; exact ih l h5 (by omega) (by omega)
      have er : expect_value n t t[i].2.2.2.2.1 row set = some (canQ (expT t row set r)) := by rw [show t[i].2.2.2.2.1 = _ from h4]; exact ih r h6 (by omega) (by omega)
      have hft : ((nFeat t[i]).toNat : Int) = nFeat t[i] := by omega
      have hkn := known_ok (k := (nFeat t[i]).toNat) hset (by omega)
      rw [hft] at hkn
      rw [expect_value_b, show ((TR.split i l r).top : Int) = (i : Int) from rfl, cnd d0, Int.toNat_natCast, List.getElem?_eq_getElem h1, Option.bind_some, show t[i].1 = false from h2, cond_false, hkn, Option.bind_some, expT, nodeAt_get h1]
      cases hb : set.testBit (nFeat t[i]).toNat with
      | false =>
        have sl := expT_sz (row := row) (set := set) hs h5
        have sr := expT_sz (row := row) (set := set) hs h6
        have sl' := sl.mono (m := 16000000) (by omega)
        have sr' := sr.mono (m := 16000000) (by omega)
        rw [Bool.not_false, cond_true, el, Option.bind_some, er, Option.bind_some, mean_ok hs hcov h1 h5.top_lt h6.top_lt h3 h4 (rv_canQ _) (rv_canQ _) (sl'.sm (by decide)) (sr'.sm (by decide)) sl' sr' (by decide), Option.bind_some, if_neg (by decide)]
      | true =>
        rw [Bool.not_true, cond_false, cnd f0, g1, Option.bind_some, Left_ok z.1 (by decide) g2 (by decide), Option.bind_some, g3, show (!nLeaf t[i]) = true by rw [h2]; rfl, Bool.true_and, if_pos rfl]
        cases goL t row i with
        | true => rw [cond_true, el, Option.bind_some, if_pos rfl]
        | false => rw [cond_false, er, Option.bind_some, if_neg (by decide)]

end Go.Proofs.YtongppphgbkckaaDoor.X


/- Expect: ExpectBases, ExpectAll. -/
namespace Go.Proofs.YtongppphgbkckaaDoor.X
open Go
set_option linter.unusedVariables false
set_option linter.unusedSimpArgs false

theorem Askd.cov {m : MODEL} {row : List CELL} (h : Askd m row) {i : Nat} (hi : i < m.2.length) : CoversP m.2[i] := h.good.covers hi
theorem Askd.f64 {m : MODEL} {row : List CELL} (h : Askd m row) : row.length ≤ 64 := by
  have := h.good.1.2.1
  have := h.len
  omega
theorem eValue_ok {m : MODEL} {row : List CELL} (h : Askd m row) {set : Nat} (hset : set < 18446744073709551616) : expect_Value m row (set : Int) = some (canQ (sayM m row set), 0) := by
  obtain ⟨e, _, h1, _, h2⟩ := fits_ok (row := row) (by have := h.ml; omega) (fun t ht => by have := h.mt t ht; omega) h.ms
  have e0 : e = 0 := h2.2 ⟨h.good, h.len⟩
  subst e0
  have ml := h.ml
  obtain ⟨F, eF⟩ : ∃ F : Nat → Rat, F = fun i => expT (treeAt m i) row set (treeOf (treeAt m i)) := ⟨_, rfl⟩
  have hF : ∀ n, n ≤ m.2.length → SzQ (rsum F n) (1 + n * 1048577) := fun n hn => by rw [eF]; exact sayM_sz h.good h.ms h.mt hn
  have key := lp_up (step := expect_Value_s6) (fun i => ((row, (set : Int), m.2, ((m.2.length : Nat) : Int), (i : Int), ()), ((false, [], [], ()), ((canQ (rsum F i)).1.1, (canQ (rsum F i)).1.2, (canQ (rsum F i)).2, ()), ()))) m.2.length (by omega) (by
    intro g i hi
    have d0 : (i : Int) < ((m.2.length : Nat) : Int) := by omega
    have d1 : (0 : Int) ≤ (i : Int) := by omega
    obtain ⟨t1, t2, t3, t4, t5⟩ := h.tree hi
    have hz := TR.size_le t4
    have hv := expect_value_ok t1 h.cs (h.cov hi) hset h.f64 R0 _ t2 (by unfold R0; omega) (by omega)
    rw [t3] at hv
    have hv : expect_value R0 m.2[i] 0 row set = some (canQ (expT m.2[i] row set (treeOf (treeAt m i)))) := hv
    have hq : SzQ (expT m.2[i] row set (treeOf (treeAt m i))) 1048576 := (expT_sz t1 t2).mono (by omega)
    have ha := sum_step (hF i (by omega)) (by omega) (hq.sm (by decide)) (by rw [rv_canQ, eF]; show _ = expT (treeAt m i) row set _; rw [t5])
    rw [expect_Value_s6, cnd d0, cnd d1, Int.toNat_natCast, List.getElem?_eq_getElem hi, Option.bind_some, hv, Option.bind_some, ha, Option.bind_some, iadd1 (by omega)]
    rfl) (by
    intro g
    rw [expect_Value_s6, cnd' (by omega)])
  rw [expect_Value, h1, Option.bind_some, show (!decide ((0 : Int) = 0)) = false by decide, cond_false, ratio_Zero_ok, Option.bind_some]
  have key' : lp expect_Value_s6 K0 ((row, (set : Int), m.2, ((m.2.length : Nat) : Int), 0, ()), ((false, [], [], ()), ((canQ 0).1.1, (canQ 0).1.2, (canQ 0).2, ()), ())) = _ := key
  rw [key']
  rw [sayM, ← eF]
  rfl
theorem eValue_bad {m : MODEL} {row : List CELL} {e set : Int} (h : route_Fits m row = some e) (he : e ≠ 0) : expect_Value m row set = some (zR, e) := by
  rw [expect_Value, h, Option.bind_some, decide_eq_false he]; rfl
theorem Small_ok (m0 : MODEL) (row0 : List CELL) (hl : m0.2.length ≤ 9223372036854775807) (ht : ∀ t ∈ m0.2, t.length ≤ 9223372036854775807) (hr : row0.length ≤ 9223372036854775807) :
    ∃ m row, dendronlaw11_Small m0 row0 = some (m, row) ∧ MSz m 4 ∧ m.2.length ≤ 3 ∧ (∀ t ∈ m.2, t.length ≤ 15) ∧ CSz row 9 := by
  have hf := Few07_ok m0 hl ht
  have ms := cutM_sz m0
  have mt := cutM_tlen m0
  have h9 := Few09_ok row0 70 hr (by decide)
  have h9 : dendronlaw09_Few row0 70 = some ((row0.take 70).map cutCell) := h9
  have cs := cutRow_sz (row0.take 70)
  by_cases h3 : ((cutM m0).2.length : Int) > 3
  · refine ⟨((cutM m0).1, (cutM m0).2.take 3), (row0.take 70).map cutCell, ?_, fun t h => ms t (List.mem_of_mem_take h), by simp; omega, fun t h => mt t (List.mem_of_mem_take h), cs⟩
    rw [dendronlaw11_Small, hf, Option.bind_some, cnd h3, cnd (by omega), h9]; rfl
  · refine ⟨cutM m0, (row0.take 70).map cutCell, ?_, ms, by omega, mt, cs⟩
    rw [dendronlaw11_Small, hf, Option.bind_some, cnd' h3, h9]; rfl
theorem law11_awake_ok : dendronlaw11_awake = some true := by decide +kernel

end Go.Proofs.YtongppphgbkckaaDoor.X


/- Expect: ExpectReach. -/
namespace Go.Proofs.YtongppphgbkckaaDoor.X
open Go
set_option linter.unusedVariables false
set_option linter.unusedSimpArgs false

def rprod (f : Nat → Rat) : Nat → Rat
  | 0 => 1
  | n + 1 => rprod f n * f n
theorem rprod_sz {f : Nat → Rat} {k n : Nat} (h : ∀ i, i < n → SzQ (f i) k) : SzQ (rprod f n) (1 + n * k) := by
  induction n with
  | zero => simpa [rprod] using SzQ.one
  | succ n ih =>
    have := (ih fun i hi => h i (by omega)).mul (h n (by omega))
    simp only [rprod]
    exact this.mono (by rw [Nat.add_mul]; omega)
abbrev zPart : PART := (0, zR, false)
def partAt (l : List PART) (i : Nat) : PART := (l[i]?).getD zPart
theorem partAt_get {l : List PART} {i : Nat} (h : i < l.length) : partAt l i = l[i] := by simp [partAt, h]
/-- Whether a set has a part's feature. -/
def hasP (set : Nat) (p : PART) : Bool := decide (0 ≤ p.1) && decide (p.1 < 64) && set.testBit p.1.toNat
def shareP (set : Nat) (l : List PART) (i : Nat) : Rat := if hasP set (partAt l i) then 1 else rv (partAt l i).2.1
def badP (set : Nat) (l : List PART) (i : Nat) : Bool := hasP set (partAt l i) && !(partAt l i).2.2
def reachP (set : Nat) (l : List PART) : Rat := rprod (shareP set l) l.length
def PSz (l : List PART) (k : Nat) : Prop := ∀ p ∈ l, SzR p.2.1 k
theorem shareP_sz {l : List PART} {k : Nat} (h : PSz l k) (hk : 0 < k) (set : Nat) {i : Nat} (hi : i < l.length) : SzQ (shareP set l i) k := by
  unfold shareP
  split
  · exact SzQ.one.mono hk
  · rw [partAt_get hi]; exact (h _ (List.getElem_mem hi)).szQ hk
theorem hasP_cases (set : Nat) (p : PART) : (p.1 < 0 ∧ hasP set p = false) ∨ (¬ p.1 < 0 ∧ p.1 ≥ 64 ∧ hasP set p = false) ∨ (¬ p.1 < 0 ∧ ¬ p.1 ≥ 64 ∧ hasP set p = set.testBit p.1.toNat) := by
  unfold hasP
  by_cases h1 : p.1 < 0
  · exact .inl ⟨h1, by rw [decide_eq_false (by omega)]; rfl⟩
  · by_cases h2 : p.1 ≥ 64
    · exact .inr (.inl ⟨h1, h2, by rw [decide_eq_false (p := p.1 < 64) (by omega)]; simp⟩)
    · exact .inr (.inr ⟨h1, h2, by rw [decide_eq_true (by omega), decide_eq_true (by omega)]; rfl⟩)

theorem prod_step {f : Nat → Rat} {n k : Nat} {q : RAT} (hs : SzQ (rprod f n) k) (hk : k < 1099511627776) (hq : Sm q) (e : rv q = f n) : ratio_Mul (((canQ (rprod f n)).1.1, (canQ (rprod f n)).1.2), (canQ (rprod f n)).2) q = some (canQ (rprod f (n + 1))) := by
  have h1 := ratio_Mul_ok (hs.sm hk) hq
  rw [rv_canQ, e] at h1
  exact h1

theorem Reach_ok {l : LEG} {set : Nat} {k : Nat} (hz : PSz l.2.2 k) (hk : 0 < k) (hset : set < 18446744073709551616) (hlen : l.2.2.length < 1000000) (hsz : 1 + l.2.2.length * k < 1099511627776) :
    expect_Reach l (set : Int) = some (canQ (if ∀ i, i < l.2.2.length → badP set l.2.2 i = false then reachP set l.2.2 else 0)) := by
  obtain ⟨ps, eps⟩ : ∃ ps, ps = l.2.2 := ⟨_, rfl⟩
  rw [← eps] at hz hlen hsz ⊢
  have hF : ∀ n, n ≤ ps.length → SzQ (rprod (shareP set ps) n) (1 + n * k) := fun n hn => rprod_sz fun i hi => shareP_sz hz hk set (by omega)
  have hF' : ∀ n, n ≤ ps.length → 1 + n * k < 1099511627776 := fun n hn => by
    have := Nat.mul_le_mul_right k hn; omega
  rcases lp_all (step := expect_Reach_s3) (fun i => (((set : Int), ps, ((ps.length : Nat) : Int), (i : Int), ()), ((false, [], [], ()), ((canQ (rprod (shareP set ps) i)).1.1, (canQ (rprod (shareP set ps) i)).1.2, (canQ (rprod (shareP set ps) i)).2, ()), ()))) ps.length (fun i => badP set ps i = false)
      (fun i => .inr ((), (((canQ 0).1.1, (canQ 0).1.2, (canQ 0).2, ()), ()))) (.inl ((), ((false, [], [], ()), ((canQ (reachP set ps)).1.1, (canQ (reachP set ps)).1.2, (canQ (reachP set ps)).2, ()), ()))) (by omega) (by
      intro i hi
      have d0 : (i : Int) < ((ps.length : Nat) : Int) := by omega
      have d1 : (0 : Int) ≤ (i : Int) := by omega
      have hp : partAt ps i = ps[i] := partAt_get hi
      have hsm : SzR ps[i].2.1 k := hz _ (List.getElem_mem hi)
      have hklt : k < 1099511627776 := by have := hF' 1 (by omega); omega
      have mul : hasP set ps[i] = false → ratio_Mul (((canQ (rprod (shareP set ps) i)).1.1, (canQ (rprod (shareP set ps) i)).1.2), (canQ (rprod (shareP set ps) i)).2) ps[i].2.1 = some (canQ (rprod (shareP set ps) (i + 1))) := fun h =>
        prod_step (hF i (by omega)) (hF' i (by omega)) (hsm.sm hklt) (by rw [shareP, hp, h]; rfl)
      have bad0 : hasP set ps[i] = false → badP set ps i = false := fun h => by rw [badP, hp, h]; rfl
      rcases hasP_cases set ps[i] with ⟨h1, h2⟩ | ⟨h1, h2, h3⟩ | ⟨h1, h2, h3⟩
      · refine .inl ⟨bad0 h2, fun g => ?_⟩
        rw [expect_Reach_s3, cnd d0, cnd d1, Int.toNat_natCast, List.getElem?_eq_getElem hi, Option.bind_some, cnd h1, mul h2, Option.bind_some, iadd1 (by omega)]
        rfl
      · refine .inl ⟨bad0 h3, fun g => ?_⟩
        rw [expect_Reach_s3, cnd d0, cnd d1, Int.toNat_natCast, List.getElem?_eq_getElem hi, Option.bind_some, cnd' h1, cnd h2, mul h3, Option.bind_some, iadd1 (by omega)]
        rfl
      · have hkn := known_ok (k := ps[i].1.toNat) hset (by omega)
        rw [show ((ps[i].1.toNat : Nat) : Int) = ps[i].1 by omega, ← h3] at hkn
        cases hb : hasP set ps[i] with
        | false =>
          refine .inl ⟨bad0 hb, fun g => ?_⟩
          rw [expect_Reach_s3, cnd d0, cnd d1, Int.toNat_natCast, List.getElem?_eq_getElem hi, Option.bind_some, cnd' h1, cnd' h2, hkn, hb, Option.bind_some, Bool.not_false, cond_true, mul hb, Option.bind_some, iadd1 (by omega)]
          rfl
        | true =>
          cases hok : ps[i].2.2 with
          | true =>
            refine .inl ⟨by rw [badP, hp, hok]; simp, fun g => ?_⟩
            have e : rprod (shareP set ps) (i + 1) = rprod (shareP set ps) i := by rw [rprod, shareP, hp, hb, if_pos rfl, Rat.mul_one]
            rw [expect_Reach_s3, cnd d0, cnd d1, Int.toNat_natCast, List.getElem?_eq_getElem hi, Option.bind_some, cnd' h1, cnd' h2, hkn, hb, Option.bind_some, Bool.not_true, cond_false, hok, Bool.not_true, cond_false, iadd1 (by omega), e]
            rfl
          | false =>
            refine .inr ⟨by rw [badP, hp, hok, hb]; decide, fun g => ?_⟩
            rw [expect_Reach_s3, cnd d0, cnd d1, Int.toNat_natCast, List.getElem?_eq_getElem hi, Option.bind_some, cnd' h1, cnd' h2, hkn, hb, Option.bind_some, Bool.not_true, cond_false, hok, Bool.not_false, cond_true, ratio_Zero_ok, Option.bind_some]) (by
      intro g
      rw [expect_Reach_s3, cnd' (by omega)]
      rfl) with ⟨h, hlp⟩ | ⟨i, hi, h, hlp⟩
  · have hlp : lp expect_Reach_s3 K0 (((set : Int), ps, ((ps.length : Nat) : Int), 0, ()), ((false, [], [], ()), ((canQ 1).1.1, (canQ 1).1.2, (canQ 1).2, ()), ())) = _ := hlp
    rw [expect_Reach, ratio_One_ok, Option.bind_some, ← eps, hlp, Option.bind_some, if_pos h]
  · have hlp : lp expect_Reach_s3 K0 (((set : Int), ps, ((ps.length : Nat) : Int), 0, ()), ((false, [], [], ()), ((canQ 1).1.1, (canQ 1).1.2, (canQ 1).2, ()), ())) = _ := hlp
    rw [expect_Reach, ratio_One_ok, Option.bind_some, ← eps, hlp, Option.bind_some, if_neg (fun hh => h (hh i hi))]

end Go.Proofs.YtongppphgbkckaaDoor.X


/- Route: cuts. -/
namespace Go.Proofs.YtongppphgbkckaaDoor.X
open Go
set_option linter.unusedVariables false
set_option linter.unusedSimpArgs false

def qcan (qs : List Rat) : List RAT := qs.map canQ
@[simp] theorem qcan_len (qs : List Rat) : (qcan qs).length = qs.length := by simp [qcan]
theorem over_set {α : Type} (l : List α) (x : α) {k : Nat} (hk : k ≤ l.length) :
    (over (l ++ [x]) (k + 1) (((l ++ [x]).drop k).take ((l ++ [x]).drop (k + 1)).length)).set k x = l.take k ++ x :: l.drop k := by
  have e1 : ((l ++ [x]).drop k).take ((l ++ [x]).drop (k + 1)).length = l.drop k := by
    rw [List.length_drop, List.length_append, List.length_singleton, List.drop_append_of_le_length hk, List.take_append_of_le_length (by rw [List.length_drop]; omega), List.take_of_length_le (by rw [List.length_drop]; omega)]
  rw [e1, over]
  have e2 : (l ++ [x]).drop (k + 1 + (l.drop k).length) = [] := by
    apply List.drop_of_length_le
    rw [List.length_append, List.length_drop, List.length_singleton]; omega
  rw [e2, List.append_nil]
  have e3 : (l ++ [x]).take (k + 1) = (l ++ [x]).take k ++ [(l ++ [x])[k]'(by simp; omega)] := List.take_succ_eq_append_getElem (by simp; omega)
  rw [e3, List.take_append_of_le_length hk, List.append_assoc, List.set_append, if_neg (by rw [List.length_take]; omega), List.length_take, Nat.min_eq_left hk, Nat.sub_self]
  rfl
end Go.Proofs.YtongppphgbkckaaDoor.X


/- Trees: means below nodes, leaves, all nodes. -/
namespace Go.Proofs.YtongppphgbkckaaDoor.X
open Go
set_option linter.unusedVariables false
set_option linter.unusedSimpArgs false

/-- What the leaves below a node say on the mean. -/
def mT (t : List NODE) (T : TR) : Rat := expT t [] 0 T
theorem mT_split (t : List NODE) (i : Nat) (l r : TR) : mT t (.split i l r) = (cov t l.top * mT t l + cov t r.top * mT t r) / cov t i := by
  simp only [mT, expT, Nat.zero_testBit]; rw [if_neg (by decide)]
theorem mT_sz {t : List NODE} {f : Int} {T : TR} (hs : TSz t 4) (h : Is t f T) : SzQ (mT t T) (16 * T.size) := expT_sz hs h
def leavesT : TR → List Nat
  | .leaf i => [i]
  | .split _ l r => leavesT l ++ leavesT r
theorem leavesT_len (T : TR) : (leavesT T).length ≤ T.size := by
  induction T with
  | leaf i => simp [leavesT, TR.size]
  | split i l r ihl ihr => simp only [leavesT, TR.size, List.length_append]; omega
def lsum : List Rat → Rat
  | [] => 0
  | x :: r => x + lsum r
theorem lsum_append (a b : List Rat) : lsum (a ++ b) = lsum a + lsum b := by
  induction a with
  | nil => simp [lsum, Rat.zero_add]
  | cons x a ih => simp only [List.cons_append, lsum, ih, Rat.add_assoc]
theorem lsum_take_succ {l : List Rat} {i : Nat} (h : i < l.length) : lsum (l.take (i + 1)) = lsum (l.take i) + l[i] := by
  rw [List.take_succ_eq_append_getElem h, lsum_append]; simp [lsum, Rat.add_zero]
theorem lsum_sz {l : List Rat} {k : Nat} (h : ∀ x ∈ l, SzQ x k) : SzQ (lsum l) (1 + l.length * (k + 1)) := by
  induction l with
  | nil => simpa [lsum] using SzQ.zero
  | cons x l ih =>
    have h1 := h x List.mem_cons_self
    have h2 := ih fun y hy => h y (List.mem_cons_of_mem _ hy)
    exact (h1.add h2).mono (by simp only [List.length_cons, Nat.add_mul]; omega)
theorem CoversP.ne {t : List NODE} (h : CoversP t) : ∀ i, i < t.length → cov t i ≠ 0 := by
  intro i hi e
  have := h i hi
  rw [cov_get hi] at e
  rw [e] at this
  exact absurd this (by decide)

/-- A tree below one of another's nodes. -/
def InT (U : TR) : TR → Prop
  | .leaf i => U = .leaf i
  | .split i l r => U = .split i l r ∨ InT U l ∨ InT U r
theorem InT.self (T : TR) : InT T T := by cases T <;> simp [InT]
theorem InT.left {U : TR} {T : TR} {i : Nat} {l r : TR} (h : InT (.split i l r) T) : InT l T ∧ InT r T := by
  induction T with
  | leaf j => simp [InT] at h
  | split j a b iha ihb =>
    rcases h with h | h | h
    · injection h with h1 h2 h3; subst h2; subst h3; exact ⟨.inr (.inl (InT.self _)), .inr (.inr (InT.self _))⟩
    · have := iha h; exact ⟨.inr (.inl this.1), .inr (.inl this.2)⟩
    · have := ihb h; exact ⟨.inr (.inr this.1), .inr (.inr this.2)⟩
theorem InT.is {t : List NODE} {f : Int} {U T : TR} (h : InT U T) (hT : Is t f T) : Is t f U := by
  induction T with
  | leaf j => cases h; exact hT
  | split j a b iha ihb =>
    rcases h with h | h | h
    · subst h; exact hT
    · exact iha h hT.2.2.2.2.2.2.1
    · exact ihb h hT.2.2.2.2.2.2.2
theorem InT.deep {U T : TR} (h : InT U T) : U.deep ≤ T.deep := by
  induction T with
  | leaf j => cases h; exact Nat.le_refl _
  | split j a b iha ihb =>
    simp only [TR.deep]
    rcases h with h | h | h
    · subst h; simp only [TR.deep]; omega
    · have := iha h; omega
    · have := ihb h; omega
theorem InT.size {U T : TR} (h : InT U T) : U.size ≤ T.size := by
  induction T with
  | leaf j => cases h; exact Nat.le_refl _
  | split j a b iha ihb =>
    simp only [TR.size]
    rcases h with h | h | h
    · subst h; simp only [TR.size]; omega
    · have := iha h; omega
    · have := ihb h; omega
theorem InT.uniq {t : List NODE} {f : Int} {U U' T : TR} (h : InT U T) (h' : InT U' T) (hT : Is t f T) (e : U.top = U'.top) : U = U' := by
  have h1 := mkT_eq T.deep U (h.is hT) h.deep
  have h2 := mkT_eq T.deep U' (h'.is hT) h'.deep
  rw [← h1, ← h2, e]
/-! The nodes in the order in which they are looked at. -/
def kidsT : TR → List TR
  | .leaf _ => []
  | .split _ l r => [l, r]
def sizes : List TR → Nat
  | [] => 0
  | U :: r => U.size + sizes r
theorem sizes_append (a b : List TR) : sizes (a ++ b) = sizes a + sizes b := by
  induction a with
  | nil => simp [sizes]
  | cons x a ih => simp only [List.cons_append, sizes, ih]; omega
theorem sizes_kids (U : TR) : U.size = 1 + sizes (kidsT U) := by cases U <;> simp [kidsT, sizes, TR.size]; omega
/-- A list of trees, the first so many of which have their children behind them. -/
structure Down (T : TR) (L : List TR) (n : Nat) : Prop where
  le : n ≤ L.length
  all : ∀ U ∈ L, InT U T
  kid : ∀ p (h : p < L.length), p < n → ∀ c ∈ kidsT L[p], ∃ q, ∃ hq : q < L.length, p < q ∧ L[q] = c
  top : T ∈ L
  size : n + sizes (L.drop n) = T.size
theorem Down.init (T : TR) : Down T [T] 0 := ⟨by simp, by simp [InT.self], by intro p h hp; omega, by simp, by simp [sizes]⟩
theorem Down.step {T : TR} {L : List TR} {n : Nat} (h : Down T L n) (hn : n < L.length) : Down T (L ++ kidsT L[n]) (n + 1) := by
  have hm : L[n] ∈ L := List.getElem_mem hn
  refine ⟨by simp; omega, fun U hU => ?_, fun p hp hpn c hc => ?_, by simp [h.top], ?_⟩
  · rcases List.mem_append.1 hU with hU | hU
    · exact h.all U hU
    · have hi := h.all _ hm
      cases e : L[n] with
      | leaf j => rw [e] at hU; simp [kidsT] at hU
      | split j l r =>
        rw [e] at hU hi
        simp [kidsT] at hU
        have := hi.left (U := .leaf 0)
        rcases hU with rfl | rfl
        · exact this.1
        · exact this.2
  · have hpL : p < L.length := by omega
    rw [List.getElem_append_left hpL] at hc
    by_cases e : p = n
    · subst e
      obtain ⟨q, hq, rfl⟩ := List.getElem_of_mem hc
      exact ⟨L.length + q, by simp; omega, by omega, by rw [List.getElem_append_right (by omega)]; simp⟩
    · obtain ⟨q, hq, h1, h2⟩ := h.kid p hpL (by omega) c hc
      exact ⟨q, by simp; omega, h1, by rw [List.getElem_append_left hq]; exact h2⟩
  · have h1 := h.size
    rw [List.drop_eq_getElem_cons hn] at h1
    simp only [sizes] at h1
    rw [sizes_kids L[n]] at h1
    rw [List.drop_append_of_le_length (by omega), sizes_append]
    omega
theorem Down.len {T : TR} {L : List TR} {n : Nat} (h : Down T L n) : n ≤ T.size := by have := h.size; omega
theorem sizes_len (L : List TR) : L.length ≤ sizes L := by
  induction L with
  | nil => simp [sizes]
  | cons x L ih =>
    have : 0 < x.size := by cases x <;> simp [TR.size] <;> omega
    simp only [List.length_cons, sizes]; omega
theorem Down.llen {T : TR} {L : List TR} {n : Nat} (h : Down T L n) : L.length ≤ T.size := by
  have h1 := h.size
  have h2 := sizes_len (L.drop n)
  have h3 := h.le
  simp only [List.length_drop] at h2
  omega
theorem Down.has {T : TR} {L : List TR} (h : Down T L L.length) : ∀ U, InT U T → U ∈ L := by
  have key : ∀ A, A ∈ L → ∀ U, InT U A → U ∈ L := by
    intro A
    induction A with
    | leaf i => intro hA U hU; cases hU; exact hA
    | split i l r ihl ihr =>
      intro hA U hU
      obtain ⟨p, hp, e⟩ := List.getElem_of_mem hA
      have hk := h.kid p hp hp
      rw [e] at hk
      obtain ⟨q1, hq1, _, e1⟩ := hk l (by simp [kidsT])
      obtain ⟨q2, hq2, _, e2⟩ := hk r (by simp [kidsT])
      rcases hU with hU | hU | hU
      · subst hU; exact hA
      · exact ihl (e1 ▸ List.getElem_mem hq1) U hU
      · exact ihr (e2 ▸ List.getElem_mem hq2) U hU
  exact key T h.top
end Go.Proofs.YtongppphgbkckaaDoor.X


/- Expect: ExpectNodes. -/
namespace Go.Proofs.YtongppphgbkckaaDoor.X
open Go
set_option linter.unusedVariables false
set_option linter.unusedSimpArgs false

def tops (L : List TR) : List Int := ints (L.map TR.top)
theorem tops_len (L : List TR) : (tops L).length = L.length := by simp [tops, ints]
theorem tops_get {L : List TR} {n : Nat} (h : n < L.length) : (tops L)[n]? = some ((L[n].top : Nat) : Int) := by
  have := ints_get (o := L.map TR.top) (i := n) (by simpa using h)
  rw [tops, this]; simp
theorem tops_append (a b : List TR) : tops (a ++ b) = tops a ++ tops b := by simp [tops, ints]

theorem down_ok {t : List NODE} {f : Int} {T : TR} (h : Is t f T) (h0 : T.top = 0) (hz : T.size ≤ 1000000) :
    ∃ L, Down T L L.length ∧ expect_down t = some (tops L) := by
  obtain ⟨r, ⟨L, hL, rfl⟩, hlp⟩ := lp_wf (step := expect_down_s3) (fun s => ∃ L : List TR, ∃ n : Nat, Down T L n ∧ s = ((t, tops L, (n : Int), ()), ())) (fun s => T.size - s.1.2.2.1.toNat)
    (fun r => ∃ L, Down T L L.length ∧ r = ((tops L, ()), ())) (v := ((t, [0], 0, ()), ())) ⟨[T], 0, Down.init T, by simp [tops, ints, h0]⟩ (by simp; omega) (by
      rintro s ⟨L, n, hD, rfl⟩
      have hll := hD.llen
      have hle := hD.le
      have d1 : (0 : Int) ≤ (n : Int) := by omega
      have tl := tops_len L
      by_cases hn : n < L.length
      · have hst := hD.step hn
        have hns := hst.len
        have d0 : (n : Int) < ((tops L).length : Int) := by omega
        have hI := (hD.all _ (List.getElem_mem hn)).is h
        refine .inr ⟨((t, tops (L ++ kidsT L[n]), ((n + 1 : Nat) : Int), ()), ()), ⟨_, _, hst, rfl⟩, ?_, fun g => ?_⟩
        · simp only [Int.toNat_natCast]; omega
        · rw [expect_down_s3, cnd d0, cnd2 d1 d0, Int.toNat_natCast, tops_get hn, Option.bind_some, cnd (by omega), Int.toNat_natCast]
          cases e : L[n] with
          | leaf i =>
            rw [e] at hI
            obtain ⟨h1, h2⟩ := hI
            rw [show (TR.leaf i).top = i from rfl, List.getElem?_eq_getElem h1, Option.bind_some, show t[i].1 = true from h2, Bool.not_true, cond_false, iadd1 (by omega)]
            simp only [kidsT, List.append_nil]
            rfl
          | split i l r =>
            rw [e] at hI
            obtain ⟨h1, h2, f0, f1, h3, h4, h5, h6⟩ := hI
            rw [show (TR.split i l r).top = i from rfl, List.getElem?_eq_getElem h1, Option.bind_some, show (!t[i].1) = true by rw [show t[i].1 = false from h2]; rfl, cond_true, blt (by omega), cond_true, show t[i].2.2.2.1 = _ from h3, show t[i].2.2.2.2.1 = _ from h4, iadd1 (by omega), tops_append]
            rfl
      · have e : n = L.length := by omega
        subst e
        refine .inl ⟨_, ⟨L, hD, rfl⟩, fun g => ?_⟩
        rw [expect_down_s3, cnd' (by omega)])
  exact ⟨L, hL, by rw [expect_down, hlp, Option.bind_some]⟩

def meansL (t : List NODE) (T : TR) (out : List RAT) : Prop := out.length = t.length ∧ ∀ U, InT U T → out[U.top]? = some (canQ (mT t U))

theorem nodes_lp {t : List NODE} {f : Int} {T : TR} {L : List TR} (hs : TSz t 4) (hcov : CoversP t) (h : Is t f T) (hD : Down T L L.length) (hz : T.size ≤ 1000000) :
    ∃ out, meansL t T out ∧ lp expect_Nodes_s6 K0 ((t, List.replicate t.length zR, tops L, (L.length : Int) - 1, ()), ()) = some ((out, ()), ()) := by
  have hll := hD.llen
  obtain ⟨r, ⟨out, ho, rfl⟩, hlp⟩ := lp_inv (step := expect_Nodes_s6)
    (fun k s => ∃ out : List RAT, out.length = t.length ∧ (∀ p (hp : p < L.length), L.length ≤ p + k → out[L[p].top]? = some (canQ (mT t L[p]))) ∧ s = ((t, out, tops L, (L.length : Int) - 1 - (k : Int), ()), ()))
    (fun r => ∃ out, meansL t T out ∧ r = ((out, ()), ())) L.length (v := ((t, List.replicate t.length zR, tops L, (L.length : Int) - 1, ()), ()))
    ⟨List.replicate t.length zR, List.length_replicate .., fun p hp hk => by omega, by simp⟩ (by omega) (by
      rintro k s hk ⟨out, hol, hout, rfl⟩
      obtain ⟨p, hp⟩ : ∃ p, p = L.length - 1 - k := ⟨_, rfl⟩
      have hpl : p < L.length := by omega
      have ep : (L.length : Int) - 1 - (k : Int) = (p : Int) := by omega
      have hIn := hD.all _ (List.getElem_mem hpl)
      have hI := hIn.is h
      have hsz := hIn.size
      have htop := hI.top_lt
      have d1 : (0 : Int) ≤ (p : Int) := by omega
      have tl := tops_len L
      have d0 : (p : Int) < ((tops L).length : Int) := by omega
      have d2 : ((L[p].top : Nat) : Int) < (out.length : Int) := by omega
      have i1 : isub .i64 (p : Int) 1 = (L.length : Int) - 1 - ((k + 1 : Nat) : Int) := by rw [isub_i] <;> omega
      -- what is written stays right
      have new : ∀ q (hq : q < L.length), L.length ≤ q + (k + 1) → (out.set L[p].top (canQ (mT t L[p])))[L[q].top]? = some (canQ (mT t L[q])) := by
        intro q hq hqk
        rw [List.getElem?_set]
        by_cases e : L[p].top = L[q].top
        · have := hIn.uniq (hD.all _ (List.getElem_mem hq)) h e
          rw [if_pos e, if_pos (by omega), ← this]
        · rw [if_neg e]
          have : q ≠ p := by rintro rfl; exact e rfl
          exact hout q hq (by omega)
      refine ⟨((t, out.set L[p].top (canQ (mT t L[p])), tops L, (L.length : Int) - 1 - ((k + 1 : Nat) : Int), ()), ()), ⟨_, by simp [hol], new, rfl⟩, fun g => ?_⟩
      have hkid := hD.kid p hpl hpl
      rw [ep, expect_Nodes_s6, cnd (by omega), cnd2 d1 d0, Int.toNat_natCast, tops_get hpl, Option.bind_some, cnd (by omega), Int.toNat_natCast, i1]
      cases e : L[p] with
      | leaf i =>
        rw [e] at hI d2
        obtain ⟨h1, h2⟩ := hI
        have z := hs _ (List.getElem_mem h1)
        have et : (TR.leaf i).top = i := rfl
        rw [et] at d2 ⊢
        rw [List.getElem?_eq_getElem h1, Option.bind_some, show t[i].1 = true from h2, cond_true, cnd2 d1 d0, Option.bind_some, ratio_Clean_ok (z.2.1.sm (by decide)), Option.bind_some, cnd2 (by omega) d2, Int.toNat_natCast, List.getElem?_eq_getElem (by omega), Option.bind_some]
        simp only [mT, expT, nodeAt_get h1]
      | split i l r =>
        rw [e] at hI d2 hsz hkid
        simp only [TR.size] at hsz
        obtain ⟨h1, h2, f0, f1, h3, h4, h5, h6⟩ := hI
        have et : (TR.split i l r).top = i := rfl
        rw [et] at d2 ⊢
        obtain ⟨q1, hq1, hl1, e1⟩ := hkid l (by simp [kidsT])
        obtain ⟨q2, hq2, hl2, e2⟩ := hkid r (by simp [kidsT])
        have o1 := hout q1 hq1 (by omega)
        have o2 := hout q2 hq2 (by omega)
        rw [e1] at o1
        rw [e2] at o2
        have t1 := h5.top_lt
        have t2 := h6.top_lt
        have sl := (mT_sz hs h5).mono (m := 16000000) (by omega)
        have sr := (mT_sz hs h6).mono (m := 16000000) (by omega)
        have hm := mean_ok hs hcov h1 t1 t2 h3 h4 (rv_canQ (mT t l)) (rv_canQ (mT t r)) (sl.sm (by decide)) (sr.sm (by decide)) sl sr (by decide)
        rw [List.getElem?_eq_getElem h1, Option.bind_some, show t[i].1 = false from h2, cond_false, cnd2 d1 d0, Option.bind_some, show t[i].2.2.2.1 = _ from h3, cnd2 (by omega) (by omega), Int.toNat_natCast, o1, Option.bind_some, show t[i].2.2.2.2.1 = _ from h4, cnd2 (by omega) (by omega), Int.toNat_natCast, o2, Option.bind_some, hm, Option.bind_some, cnd2 (by omega) d2, Int.toNat_natCast, List.getElem?_eq_getElem (by omega), Option.bind_some, mT_split]) (by
      rintro s ⟨out, hol, hout, rfl⟩
      refine ⟨_, ⟨out, ⟨hol, fun U hU => ?_⟩, rfl⟩, fun g => ?_⟩
      · obtain ⟨p, hp, e⟩ := List.getElem_of_mem (hD.has U hU)
        rw [← e]
        exact hout p hp (by omega)
      · rw [expect_Nodes_s6, cnd' (by omega)])
  exact ⟨out, ho, hlp⟩

theorem Nodes_ok {t : List NODE} {f : Int} (ht : t.length ≤ 15) (hs : TSz t 4) (hg : Good (f, [t])) : ∃ out, meansL t (treeOf t) out ∧ expect_Nodes t f = some (out, 0) := by
  obtain ⟨b, h1, h2⟩ := TreeV_ok (f := f) ht hs
  have hb : b = true := h2.2 hg
  subst hb
  obtain ⟨g1, g2, g3⟩ := hg.treeOf (i := 0) (by simp)
  have g1 : Is t f (treeOf t) := g1
  have g2 : (treeOf t).top = 0 := g2
  have g3 : (treeOf t).deep ≤ t.length + 1 := g3
  have hz := TR.size_le (T := treeOf t) (by omega)
  obtain ⟨L, hD, hd⟩ := down_ok g1 g2 (by omega)
  have hll := hD.llen
  have hcov : CoversP t := hg.covers (i := 0) (by simp)
  obtain ⟨out, ho, hlp⟩ := nodes_lp hs hcov g1 hD (by omega)
  have c1 : (decide ((t.length : Int) = (t.length : Int)) && decide (0 ≤ (t.length : Int)) && decide (((56 : Nat) : Int) * (t.length : Int) ≤ 281474976710656) && decide ((t.length : Int) ≤ 9223372036854775807)) = true := by
    rw [decide_eq_true rfl, decide_eq_true (by omega), decide_eq_true (by omega), decide_eq_true (by omega)]; rfl
  have i1 : isub .i64 ((tops L).length : Int) 1 = (L.length : Int) - 1 := by rw [tops_len, isub_i] <;> omega
  refine ⟨out, ho, ?_⟩
  rw [expect_Nodes, h1, Option.bind_some, Bool.not_true, cond_false, c1, cond_true, hd, Option.bind_some, i1, Int.toNat_natCast, hlp, Option.bind_some]
end Go.Proofs.YtongppphgbkckaaDoor.X


/- Expect: legs: what leads to a leaf. -/
namespace Go.Proofs.YtongppphgbkckaaDoor.X
open Go
set_option linter.unusedVariables false
set_option linter.unusedSimpArgs false

theorem over_set' {α : Type} (l : List α) (x y : α) {k : Nat} (hk : k ≤ l.length) :
    (over (l ++ [x]) (k + 1) (((l ++ [x]).drop k).take ((l ++ [x]).drop (k + 1)).length)).set k y = l.take k ++ y :: l.drop k := by
  have h := over_set l x hk
  obtain ⟨o, eo⟩ : ∃ o, o = over (l ++ [x]) (k + 1) (((l ++ [x]).drop k).take ((l ++ [x]).drop (k + 1)).length) := ⟨_, rfl⟩
  rw [← eo] at h ⊢
  have e : o.set k y = (o.set k x).set k y := by rw [List.set_set]
  rw [e, h, List.set_append, if_neg (by rw [List.length_take]; omega), List.length_take, Nat.min_eq_left hk, Nat.sub_self]
  rfl
theorem over_shift_len' {α : Type} (l : List α) (x : α) {k : Nat} (hk : k ≤ l.length) :
    (over (l ++ [x]) (k + 1) (((l ++ [x]).drop k).take ((l ++ [x]).drop (k + 1)).length)).length = l.length + 1 := by
  have h := congrArg List.length (over_set l x hk)
  rw [List.length_set] at h
  rw [h]; simp; omega

/-- A part: of which feature, which share, whether the row goes that way. -/
abbrev AP := Nat × Rat × Bool
def encP (p : AP) : PART := ((p.1 : Int), canQ p.2.1, p.2.2)
def encW (w : List AP) : List PART := w.map encP
theorem encW_len (w : List AP) : (encW w).length = w.length := by simp [encW]
theorem encW_get {w : List AP} {i : Nat} (h : i < w.length) : (encW w)[i]? = some (encP w[i]) := by simp [encW, h]
def along (f : Nat) (q : Rat) (ok : Bool) : List AP → List AP
  | [] => [(f, q, ok)]
  | p :: w => if p.1 < f then p :: along f q ok w else if p.1 = f then (f, p.2.1 * q, p.2.2 && ok) :: w else (f, q, ok) :: p :: w
/-- The place where a feature stands, or would. -/
def spot (f : Nat) : List AP → Nat
  | [] => 0
  | p :: w => if p.1 < f then spot f w + 1 else 0
theorem spot_le (f : Nat) (w : List AP) : spot f w ≤ w.length := by
  induction w with
  | nil => simp [spot]
  | cons p w ih => simp only [spot, List.length_cons]; split <;> omega
theorem spot_lt {f : Nat} {w : List AP} {i : Nat} (h : i < spot f w) : ∃ hi : i < w.length, w[i].1 < f := by
  induction w generalizing i with
  | nil => simp [spot] at h
  | cons p w ih =>
    simp only [spot] at h
    split at h
    · rename_i hp
      cases i with
      | zero => exact ⟨by simp, hp⟩
      | succ i => obtain ⟨hi, h2⟩ := ih (i := i) (by omega); exact ⟨by simp; omega, by simpa using h2⟩
    · omega
theorem spot_at {f : Nat} {w : List AP} (h : spot f w < w.length) : ¬ w[spot f w].1 < f := by
  induction w with
  | nil => simp at h
  | cons p w ih =>
    by_cases hp : p.1 < f
    · have e : spot f (p :: w) = spot f w + 1 := by simp only [spot, if_pos hp]
      have h' : spot f w < w.length := by rw [e] at h; simpa using h
      simp only [e, List.getElem_cons_succ]
      exact ih h'
    · have e : spot f (p :: w) = 0 := by simp only [spot, if_neg hp]
      simp only [e, List.getElem_cons_zero]
      exact hp
theorem along_hit {f : Nat} {q : Rat} {ok : Bool} {w : List AP} (h : spot f w < w.length) (e : w[spot f w].1 = f) : along f q ok w = w.set (spot f w) (f, w[spot f w].2.1 * q, w[spot f w].2.2 && ok) := by
  induction w with
  | nil => simp at h
  | cons p w ih =>
    by_cases hp : p.1 < f
    · have es : spot f (p :: w) = spot f w + 1 := by simp only [spot, if_pos hp]
      have h' : spot f w < w.length := by rw [es] at h; simpa using h
      simp only [es, List.getElem_cons_succ] at e ⊢
      rw [along, if_pos hp, ih h' e, List.set_cons_succ]
    · have es : spot f (p :: w) = 0 := by simp only [spot, if_neg hp]
      simp only [es, List.getElem_cons_zero] at e ⊢
      rw [along, if_neg hp, if_pos e, List.set_cons_zero]
theorem along_miss {f : Nat} {q : Rat} {ok : Bool} {w : List AP} (h : ∀ h : spot f w < w.length, w[spot f w].1 ≠ f) : along f q ok w = w.take (spot f w) ++ (f, q, ok) :: w.drop (spot f w) := by
  induction w with
  | nil => simp [along, spot]
  | cons p w ih =>
    by_cases hp : p.1 < f
    · have es : spot f (p :: w) = spot f w + 1 := by simp only [spot, if_pos hp]
      rw [along, if_pos hp, es, List.take_succ_cons, List.drop_succ_cons, List.cons_append, ← ih (fun h' => by
        have := h (by rw [es]; simpa using h')
        simpa only [es, List.getElem_cons_succ] using this)]
    · have es : spot f (p :: w) = 0 := by simp only [spot, if_neg hp]
      have hne : p.1 ≠ f := by
        have := h (by rw [es]; simp)
        simpa only [es, List.getElem_cons_zero] using this
      rw [along, if_neg hp, if_neg hne, es]
      rfl
theorem along_len (f : Nat) (q : Rat) (ok : Bool) (w : List AP) : (along f q ok w).length ≤ w.length + 1 := by
  induction w with
  | nil => simp [along]
  | cons p w ih => simp only [along]; split
                   · simp only [List.length_cons]; omega
                   · split <;> simp
def ASz (w : List AP) (k : Nat) : Prop := ∀ p ∈ w, SzQ p.2.1 k
theorem along_sz {f : Nat} {q : Rat} {ok : Bool} {w : List AP} {k j : Nat} (h : ASz w k) (hq : SzQ q j) : ASz (along f q ok w) (k + j) := by
  induction w with
  | nil => intro p hp; simp [along] at hp; subst hp; exact hq.mono (by omega)
  | cons p w ih =>
    have h1 : SzQ p.2.1 k := h p List.mem_cons_self
    have h2 : ASz w k := fun x hx => h x (List.mem_cons_of_mem _ hx)
    intro x hx
    simp only [along] at hx
    split at hx
    · rcases List.mem_cons.1 hx with rfl | hx
      · exact h1.mono (by omega)
      · exact ih h2 x hx
    · split at hx
      · rcases List.mem_cons.1 hx with rfl | hx
        · exact h1.mul hq
        · exact (h2 x hx).mono (by omega)
      · rcases List.mem_cons.1 hx with rfl | hx
        · exact hq.mono (by omega)
        · exact (h x hx).mono (by omega)

theorem along_ok {w : List AP} {f : Nat} {q : Rat} {ok : Bool} {k j : Nat} (hw : ASz w k) (hq : SzQ q j) (hk : k < 1000000000) (hj : j < 1000000000) (hl : w.length ≤ 1000000) (hf : f < 1000000) :
    expect_along (encW w) (f : Int) (canQ q) ok = some (encW (along f q ok w)) := by
  have el := encW_len w
  have hs := spot_le f w
  obtain ⟨s, es⟩ : ∃ s, s = spot f w := ⟨_, rfl⟩
  have key := lp_up (step := expect_along_s3) (fun i => (((f : Int), ok, encW w, (i : Int), ()), (((canQ q).1.1, (canQ q).1.2, (canQ q).2, ()), ()))) s (r := (((f : Int), ok, encW w, (s : Int), ()), (((canQ q).1.1, (canQ q).1.2, (canQ q).2, ()), ()))) (by omega) (by
    intro g i hi
    obtain ⟨h1, h2⟩ := spot_lt (f := f) (w := w) (i := i) (by omega)
    have d0 : (i : Int) < ((encW w).length : Int) := by omega
    have d1 : (0 : Int) ≤ (i : Int) := by omega
    have d2 : (encP w[i]).1 < (f : Int) := by show ((w[i].1 : Nat) : Int) < _; omega
    rw [expect_along_s3, cnd d0, cnd2 d1 d0, Int.toNat_natCast, encW_get h1, Option.bind_some, cnd d2, iadd1 (by omega)]
    rfl) (by
    intro g
    by_cases h : s < w.length
    · have d0 : (s : Int) < ((encW w).length : Int) := by omega
      have d1 : (0 : Int) ≤ (s : Int) := by omega
      have h3 := spot_at (f := f) (w := w) (by omega)
      have d2 : ¬ (encP w[s]).1 < (f : Int) := by subst es; show ¬ ((w[spot f w].1 : Nat) : Int) < _; omega
      rw [expect_along_s3, cnd d0, cnd2 d1 d0, Int.toNat_natCast, encW_get h, Option.bind_some, cnd' d2]
    · rw [expect_along_s3, cnd' (by omega)])
  have key : lp expect_along_s3 K0 (((f : Int), ok, ([] : List PART) ++ encW w, 0, ()), (((canQ q).1.1, (canQ q).1.2, (canQ q).2, ()), ())) = _ := key
  have c0 : (Nat.ble ((([] : List PART).length + (encW w).length) * 72) 140737488355328 && !false) = true := blt (by simp; omega)
  have miss : (∀ h : spot f w < w.length, w[spot f w].1 ≠ f) → (over (encW w ++ [(0, (((false, []), []), false))]) (s + 1) (((encW w ++ [(0, (((false, []), []), false))]).drop s).take ((encW w ++ [(0, (((false, []), []), false))]).drop (s + 1)).length)).set s ((f : Int), canQ q, ok) = encW (along f q ok w) := by
    intro h
    have e := over_set' (encW w) (0, (((false, []), []), false)) ((f : Int), canQ q, ok) (k := s) (by omega)
    rw [e, along_miss h, ← es]
    simp [encW, encP]
  have ol := over_shift_len' (encW w) (0, (((false, []), []), false)) (k := s) (by omega)
  have i1 : iadd .i64 (s : Int) 1 = ((s + 1 : Nat) : Int) := iadd1 (by omega)
  have d1 : (0 : Int) ≤ (s : Int) := by omega
  have al : (encW w ++ [((0, (((false, []), []), false)) : PART)]).length = w.length + 1 := by simp [encW]
  rw [expect_along, c0, cond_true, key, Option.bind_some]
  dsimp only
  by_cases h : s < w.length
  · have d0 : (s : Int) < ((encW w).length : Int) := by omega
    rw [cnd d0, cnd2 d1 d0, Int.toNat_natCast, encW_get h, Option.bind_some]
    by_cases e : w[s].1 = f
    · have d2 : (encP w[s]).1 = (f : Int) := by show ((w[s].1 : Nat) : Int) = _; omega
      have hsz := hw _ (List.getElem_mem h)
      have hm := ratio_Mul_ok (hsz.sm (by omega)) (hq.sm (by omega))
      rw [rv_canQ, rv_canQ] at hm
      have hm : ratio_Mul (encP w[s]).2.1 (canQ q) = some (canQ (w[s].2.1 * q)) := hm
      obtain ⟨x, ex⟩ : ∃ x : PART, x = ((encP w[s]).1, canQ (w[s].2.1 * q), (encP w[s]).2.2) := ⟨_, rfl⟩
      have ls : ((encW w).set s x).length = w.length := by simp [encW]
      have gx : ((encW w).set s x)[s]? = some x := by rw [List.getElem?_set, if_pos rfl, if_pos (by omega)]
      have d3 : (s : Int) < (((encW w).set s x).length : Int) := by omega
      have fin : (encW w).set s ((f : Int), canQ (w[s].2.1 * q), w[s].2.2 && ok) = encW (along f q ok w) := by
        rw [along_hit (by omega) (by subst es; exact e)]
        subst es
        simp [encW, encP]
      rw [cnd d2, cnd2 d1 d0, Option.bind_some]
      show (ratio_Mul (encP w[s]).2.1 (canQ q)).bind _ = _
      rw [hm, Option.bind_some, cnd2 d1 d0, Option.bind_some, ← ex, cnd2 d1 d3, gx, Option.bind_some, show x.2.2 = w[s].2.2 by rw [ex]; rfl]
      rw [← fin]
      cases hok : w[s].2.2 with
      | true =>
        rw [cond_true, cnd2 d1 d3, Option.bind_some, List.set_set, ex, Bool.true_and]
        simp only
        rw [d2]
      | false =>
        rw [cond_false, cnd2 d1 d3, Option.bind_some, List.set_set, ex, Bool.false_and]
        simp only
        rw [d2]
    · have d2 : ¬ (encP w[s]).1 = (f : Int) := by show ¬ ((w[s].1 : Nat) : Int) = _; omega
      rw [cnd' d2, blt (by omega), cond_true, i1, cnd2 (by omega) (by rw [al]; omega), cnd2 d1 (by rw [al]; omega), Int.toNat_natCast, cnd2 d1 (by rw [ol]; omega), List.getElem?_eq_getElem (by rw [ol]; omega), Option.bind_some]
      show some _ = _
      rw [← miss (fun h' => by subst es; exact e)]
  · rw [cnd' (by omega), blt (by omega), cond_true, i1, cnd2 (by omega) (by rw [al]; omega), cnd2 d1 (by rw [al]; omega), Int.toNat_natCast, Int.toNat_natCast, cnd2 d1 (by rw [ol]; omega), List.getElem?_eq_getElem (by rw [ol]; omega), Option.bind_some]
    show some _ = _
    rw [← miss (fun h' => absurd h' (by omega))]
end Go.Proofs.YtongppphgbkckaaDoor.X


/- Expect: ExpectReaches. -/
namespace Go.Proofs.YtongppphgbkckaaDoor.X
open Go
set_option linter.unusedVariables false
set_option linter.unusedSimpArgs false

abbrev AL := Nat × Rat × List AP
def encL (x : AL) : LEG := ((x.1 : Int), canQ x.2.1, encW x.2.2)
def featT (t : List NODE) (i : Nat) : Nat := (nFeat (nodeAt t i)).toNat
/-- A tree's leaves, with what leads to them behind a way. -/
def legsT (t : List NODE) (row : List CELL) : TR → List AP → List AL
  | .leaf i, w => [(i, rv (nVal (nodeAt t i)), w)]
  | .split i l r, w => legsT t row l (along (featT t i) (cov t l.top / cov t i) (goL t row i) w) ++ legsT t row r (along (featT t i) (cov t r.top / cov t i) (!goL t row i) w)
theorem legsT_len (t : List NODE) (row : List CELL) (T : TR) (w : List AP) : (legsT t row T w).length = (leavesT T).length := by
  induction T generalizing w with
  | leaf i => rfl
  | split i l r ihl ihr => simp only [legsT, leavesT, List.length_append, ihl, ihr]
/-- The ways of a tree's legs are small. -/
def WSz (w : List AP) (m : Nat) (f : Nat) : Prop := ASz w (8 * m + 1) ∧ w.length ≤ m ∧ ∀ p ∈ w, p.1 < f
theorem along_mem {f : Nat} {q : Rat} {ok : Bool} {w : List AP} : ∀ p ∈ along f q ok w, p.1 = f ∨ ∃ p' ∈ w, p'.1 = p.1 := by
  induction w with
  | nil => intro p hp; simp [along] at hp; subst hp; exact .inl rfl
  | cons a w ih =>
    intro p hp
    simp only [along] at hp
    split at hp
    · rcases List.mem_cons.1 hp with rfl | hp
      · exact .inr ⟨p, List.mem_cons_self, rfl⟩
      · rcases ih p hp with h | ⟨p', h1, h2⟩
        · exact .inl h
        · exact .inr ⟨p', List.mem_cons_of_mem _ h1, h2⟩
    · split at hp
      · rcases List.mem_cons.1 hp with rfl | hp
        · exact .inl rfl
        · exact .inr ⟨p, List.mem_cons_of_mem _ hp, rfl⟩
      · rcases List.mem_cons.1 hp with rfl | hp
        · exact .inl rfl
        · exact .inr ⟨p, hp, rfl⟩
theorem WSz.along {w : List AP} {m f g : Nat} {q : Rat} {ok : Bool} (h : WSz w m g) (hq : SzQ q 8) (hf : f < g) : WSz (X.along f q ok w) (m + 1) g := by
  refine ⟨fun p hp => (along_sz h.1 hq p hp).mono (by omega), Nat.le_trans (along_len _ _ _ _) (by have := h.2.1; omega), fun p hp => ?_⟩
  rcases along_mem p hp with e | ⟨p', h1, h2⟩
  · omega
  · have := h.2.2 p' h1; omega
theorem share_sz {t : List NODE} (hs : TSz t 4) {a i : Nat} (ha : a < t.length) (hi : i < t.length) : SzQ (cov t a / cov t i) 8 := (cov_sz hs ha).div (cov_sz hs hi)
theorem legsT_sz {t : List NODE} {row : List CELL} {T : TR} {g : Nat} (hs : TSz t 4) (h : Is t (g : Int) T) : ∀ {w : List AP} {m : Nat}, WSz w m g → ∀ x ∈ legsT t row T w, WSz x.2.2 (m + T.deep) g ∧ SzQ x.2.1 4 := by
  induction T with
  | leaf i =>
    intro w m hw x hx
    simp only [legsT, List.mem_singleton] at hx
    subst hx
    refine ⟨⟨fun p hp => (hw.1 p hp).mono (by simp only [TR.deep]; omega), by have := hw.2.1; simp only [TR.deep]; omega, hw.2.2⟩, (hs.at h.1).2.1.szQ (by decide)⟩
  | split i l r ihl ihr =>
    intro w m hw x hx
    obtain ⟨h1, h2, f0, f1, h3, h4, h5, h6⟩ := h
    have hf : featT t i < g := by rw [featT, nodeAt_get h1]; omega
    simp only [legsT, List.mem_append] at hx
    rcases hx with hx | hx
    · have := ihl h5 (hw.along (ok := goL t row i) (share_sz hs h5.top_lt h1) hf) x hx
      refine ⟨⟨fun p hp => (this.1.1 p hp).mono (by simp only [TR.deep]; omega), by have := this.1.2.1; simp only [TR.deep]; omega, this.1.2.2⟩, this.2⟩
    · have := ihr h6 (hw.along (ok := !goL t row i) (share_sz hs h6.top_lt h1) hf) x hx
      refine ⟨⟨fun p hp => (this.1.1 p hp).mono (by simp only [TR.deep]; omega), by have := this.1.2.1; simp only [TR.deep]; omega, this.1.2.2⟩, this.2⟩

theorem legs_ok {t : List NODE} {row : List CELL} (hs : TSz t 4) (hc : CSz row 9) (hcov : CoversP t) (hrl : row.length ≤ 64) : ∀ (n : Nat) (T : TR) (w : List AP) (m : Nat), Is t (row.length : Int) T → T.deep ≤ n → T.size ≤ 1000000 → WSz w m row.length → m + T.deep ≤ 10000 →
    expect_legs n t row (T.top : Int) (encW w) = some ((legsT t row T w).map encL) := by
  intro n
  induction n with
  | zero => intro T w m _ hd; have := T.deep_pos; omega
  | succ n ih =>
    intro T w m h hd hz hw hm
    show expect_legs_b (expect_legs n) t row T.top (encW w) = _
    have hwl := hw.2.1
    cases T with
    | leaf i =>
      obtain ⟨h1, h2⟩ := h
      have z := hs _ (List.getElem_mem h1)
      rw [expect_legs_b, show ((TR.leaf i).top : Int) = (i : Int) from rfl, cnd (by omega), Int.toNat_natCast, List.getElem?_eq_getElem h1, Option.bind_some, show t[i].1 = true from h2, cond_true, ratio_Clean_ok (z.2.1.sm (by decide)), Option.bind_some, blt (by simp [encW]; omega), cond_true]
      simp only [legsT, List.map_cons, List.map_nil, encL, nodeAt_get h1, List.nil_append]
    | split i l r =>
      obtain ⟨h1, h2, f0, f1, h3, h4, h5, h6⟩ := h
      simp only [TR.deep] at hd hm
      simp only [TR.size] at hz
      have d0 : (0 : Int) ≤ (i : Int) := by omega
      obtain ⟨c, g1, g2, g3⟩ := goL_ok (f := 0) hs hc h1 f0 f1
      have z := hs _ (List.getElem_mem h1)
      have tl := h5.top_lt
      have tr := h6.top_lt
      have zl := hs _ (List.getElem_mem tl)
      have zr := hs _ (List.getElem_mem tr)
      have hne : rv (nCov t[i]) ≠ 0 := by have := hcov.ne i h1; rwa [cov_get h1] at this
      have o1 := over_ok (zl.2.2.sm (by decide)) (z.2.2.sm (by decide)) hne
      have o2 := over_ok (zr.2.2.sm (by decide)) (z.2.2.sm (by decide)) hne
      rw [← cov_get tl, ← cov_get h1] at o1
      rw [← cov_get tr, ← cov_get h1] at o2
      have hft : ((featT t i : Nat) : Int) = nFeat t[i] := by rw [featT, nodeAt_get h1]; omega
      have hf : featT t i < row.length := by omega
      have a1 := along_ok (f := featT t i) (ok := goL t row i) hw.1 (share_sz hs tl h1) (by omega) (by decide) (by omega) (by omega)
      have a2 := along_ok (f := featT t i) (ok := !goL t row i) hw.1 (share_sz hs tr h1) (by omega) (by decide) (by omega) (by omega)
      rw [hft] at a1 a2
      have el := ih l _ (m + 1) h5 (by omega) (by omega) (hw.along (ok := goL t row i) (share_sz hs tl h1) hf) (by omega)
      have er := ih r _ (m + 1) h6 (by omega) (by omega) (hw.along (ok := !goL t row i) (share_sz hs tr h1) hf) (by omega)
      have ll := legsT_len t row l (along (featT t i) (cov t l.top / cov t i) (goL t row i) w)
      have lr := legsT_len t row r (along (featT t i) (cov t r.top / cov t i) (!goL t row i) w)
      have bl := leavesT_len l
      have br := leavesT_len r
      rw [expect_legs_b, show ((TR.split i l r).top : Int) = (i : Int) from rfl, cnd d0, Int.toNat_natCast, List.getElem?_eq_getElem h1, Option.bind_some, show t[i].1 = false from h2, cond_false, show t[i].2.1 = nFeat t[i] from rfl, cnd f0, g1, Option.bind_some, Left_ok z.1 (by decide) g2 (by decide), Option.bind_some, g3, show (!nLeaf t[i]) = true by rw [h2]; rfl, Bool.true_and, show t[i].2.2.2.1 = _ from h3, cnd (by omega), Int.toNat_natCast, List.getElem?_eq_getElem tl, Option.bind_some, o1, Option.bind_some, a1, Option.bind_some, el, Option.bind_some, show t[i].2.2.2.2.1 = _ from h4, cnd (by omega), Int.toNat_natCast, List.getElem?_eq_getElem tr, Option.bind_some, o2, Option.bind_some, a2, Option.bind_some, er, Option.bind_some, blt (by simp only [List.length_map, ll, lr]; omega), cond_true]
      simp only [legsT, List.map_append]

/-! What comes to a leg. -/
def lprod : List Rat → Rat
  | [] => 1
  | x :: r => x * lprod r
theorem lprod_append (a b : List Rat) : lprod (a ++ b) = lprod a * lprod b := by
  induction a with
  | nil => simp [lprod, Rat.one_mul]
  | cons x a ih => simp only [List.cons_append, lprod, ih, Rat.mul_assoc]
theorem rprod_list {f : Nat → Rat} {l : List Rat} (h : ∀ i (hi : i < l.length), f i = l[i]) : ∀ n, n ≤ l.length → rprod f n = lprod (l.take n) := by
  intro n
  induction n with
  | zero => intro _; rfl
  | succ n ih =>
    intro hn
    rw [List.take_succ_eq_append_getElem (by omega), lprod_append, rprod, ih (by omega), h n (by omega)]
    simp [lprod, Rat.mul_one]
def facP (set : Nat) (p : AP) : Rat := if set.testBit p.1 then (if p.2.2 then 1 else 0) else p.2.1
def reachA (set : Nat) (w : List AP) : Rat := lprod (w.map (facP set))
theorem reachA_along (set f : Nat) (q : Rat) (ok : Bool) (w : List AP) : reachA set (along f q ok w) = reachA set w * facP set (f, q, ok) := by
  induction w with
  | nil => simp [reachA, along, lprod, Rat.mul_one, Rat.one_mul]
  | cons p w ih =>
    simp only [reachA] at ih
    simp only [along]
    split
    · simp only [reachA, List.map_cons, lprod, ih]; grind
    · split
      · rename_i e
        simp only [reachA, List.map_cons, lprod]
        have : facP set (f, p.2.1 * q, p.2.2 && ok) = facP set p * facP set (f, q, ok) := by
          simp only [facP, e]
          cases set.testBit f <;> cases p.2.2 <;> cases ok <;> simp <;> grind
        rw [this]; grind
      · simp only [reachA, List.map_cons, lprod]; grind
theorem facP_sz {set : Nat} {p : AP} {k : Nat} (h : SzQ p.2.1 k) (hk : 0 < k) : SzQ (facP set p) k := by
  unfold facP
  split
  · split
    · exact SzQ.one.mono hk
    · exact SzQ.zero.mono hk
  · exact h
theorem reachA_sz {set : Nat} {w : List AP} {k : Nat} (h : ASz w k) (hk : 0 < k) : SzQ (reachA set w) (1 + w.length * k) := by
  induction w with
  | nil => simpa [reachA, lprod] using SzQ.one
  | cons p w ih =>
    have h1 := facP_sz (set := set) (h p List.mem_cons_self) hk
    have h2 := ih fun x hx => h x (List.mem_cons_of_mem _ hx)
    exact (h1.mul h2).mono (by simp only [List.length_cons, Nat.add_mul]; omega)
theorem lprod_zero {l : List Rat} (h : (0 : Rat) ∈ l) : lprod l = 0 := by
  induction l with
  | nil => cases h
  | cons x l ih =>
    simp only [lprod]
    rcases List.mem_cons.1 h with h | h
    · rw [← h, Rat.zero_mul]
    · rw [ih h, Rat.mul_zero]
theorem reach_enc {set : Nat} {w : List AP} (hf : ∀ p ∈ w, p.1 < 64) : (if ∀ i, i < (encW w).length → badP set (encW w) i = false then reachP set (encW w) else 0) = reachA set w := by
  have hp : ∀ i (hi : i < w.length), partAt (encW w) i = encP w[i] := fun i hi => by
    have : i < (encW w).length := by rw [encW_len]; exact hi
    rw [partAt_get this]
    have h2 := encW_get hi
    rw [List.getElem?_eq_getElem this] at h2
    exact Option.some.inj h2
  have hh : ∀ i (hi : i < w.length), hasP set (encP w[i]) = set.testBit w[i].1 := fun i hi => by
    have := hf _ (List.getElem_mem hi)
    have e1 : (encP w[i]).1 = ((w[i].1 : Nat) : Int) := rfl
    unfold hasP
    rw [e1, decide_eq_true (by omega), decide_eq_true (by omega), Int.toNat_natCast]; rfl
  split
  · rename_i hall
    unfold reachP reachA
    rw [encW_len]
    have := rprod_list (f := shareP set (encW w)) (l := w.map (facP set)) (fun i hi => by
      have hi' : i < w.length := by simpa using hi
      rw [List.getElem_map]
      have hb := hall i (by rw [encW_len]; exact hi')
      rw [badP, hp i hi', hh i hi'] at hb
      rw [shareP, hp i hi', hh i hi', facP]
      cases ht : set.testBit w[i].1 with
      | false =>
        rw [if_neg (by decide), if_neg (by decide)]
        exact rv_canQ _
      | true =>
        rw [ht] at hb
        have : w[i].2.2 = true := by simpa [encP] using hb
        rw [if_pos rfl, if_pos rfl, this, if_pos rfl]) w.length (by simp)
    rw [this, List.take_of_length_le (by simp)]
  · rename_i hne
    have : ∃ i, ∃ hi : i < w.length, badP set (encW w) i = true := by
      apply Classical.byContradiction
      intro hcon
      apply hne
      intro i hi
      rw [encW_len] at hi
      cases hb : badP set (encW w) i with
      | false => rfl
      | true => exact absurd ⟨i, hi, hb⟩ hcon
    obtain ⟨i, hi, hb⟩ := this
    rw [badP, hp i hi, hh i hi] at hb
    symm
    apply lprod_zero
    refine List.mem_map.2 ⟨w[i], List.getElem_mem hi, ?_⟩
    have hb1 : set.testBit w[i].1 = true := by simp only [Bool.and_eq_true] at hb; exact hb.1
    have hb2 : w[i].2.2 = false := by simp only [Bool.and_eq_true] at hb; simpa [encP] using hb.2
    rw [facP, hb1, if_pos rfl, hb2, if_neg (by decide)]
theorem ReachA_ok {x : AL} {set m : Nat} (hw : WSz x.2.2 m 64) (hset : set < 18446744073709551616) (hm : m ≤ 10000) : expect_Reach (encL x) (set : Int) = some (canQ (reachA set x.2.2)) := by
  have hl := hw.2.1
  have hmul : x.2.2.length * (8 * m + 1) ≤ 10000 * (8 * 10000 + 1) := Nat.mul_le_mul (by omega) (by omega)
  have hR := Reach_ok (l := encL x) (set := set) (k := 8 * m + 1) (fun p hp => by
    obtain ⟨a, ha, rfl⟩ := List.mem_map.1 hp
    exact (hw.1 a ha).szR) (by omega) hset (by show (encW x.2.2).length < _; rw [encW_len]; omega) (by show 1 + (encW x.2.2).length * _ < _; rw [encW_len]; omega)
  rw [hR]
  exact congrArg (fun q => some (canQ q)) (reach_enc hw.2.2)
/-- What comes to all leaves, times their values. -/
def legV (set : Nat) (x : AL) : Rat := reachA set x.2.2 * x.2.1
theorem legs_say {t : List NODE} {f : Int} {row : List CELL} {set : Nat} {T : TR} (hc : ∀ i, i < t.length → cov t i ≠ 0) (h : Is t f T) : ∀ w, lsum ((legsT t row T w).map (legV set)) = reachA set w * expT t row set T := by
  induction T with
  | leaf i => intro w; simp only [legsT, List.map_cons, List.map_nil, lsum, legV, expT, Rat.add_zero]
  | split i l r ihl ihr =>
    intro w
    obtain ⟨h1, h2, f0, f1, h3, h4, h5, h6⟩ := h
    have c := hc i h1
    simp only [legsT, List.map_append, lsum_append, ihl h5, ihr h6, reachA_along, expT]
    have e : (nFeat (nodeAt t i)).toNat = featT t i := rfl
    rw [e]
    simp only [facP]
    obtain ⟨a, ea⟩ : ∃ a, a = expT t row set l := ⟨_, rfl⟩
    obtain ⟨b, eb⟩ : ∃ b, b = expT t row set r := ⟨_, rfl⟩
    obtain ⟨p, ep⟩ : ∃ p, p = cov t l.top := ⟨_, rfl⟩
    obtain ⟨q, eq⟩ : ∃ q, q = cov t r.top := ⟨_, rfl⟩
    obtain ⟨d, ed⟩ : ∃ d, d = cov t i := ⟨_, rfl⟩
    obtain ⟨z, ez⟩ : ∃ z, z = reachA set w := ⟨_, rfl⟩
    rw [← ea, ← eb, ← ep, ← eq, ← ed, ← ez]
    cases set.testBit (featT t i) <;> cases goL t row i <;> simp <;> grind
end Go.Proofs.YtongppphgbkckaaDoor.X


/- Expect: ExpectReaches. -/
namespace Go.Proofs.YtongppphgbkckaaDoor.X
open Go
set_option linter.unusedVariables false
set_option linter.unusedSimpArgs false

theorem WSz.nil (f : Nat) : WSz [] 0 f := ⟨fun p hp => absurd hp (by simp), Nat.le_refl _, fun p hp => absurd hp (by simp)⟩
/-- A good tree's legs. -/
theorem Legs_ok {t : List NODE} {row : List CELL} (ht : t.length ≤ 15) (hs : TSz t 4) (hc : CSz row 9) (hg : Good ((row.length : Int), [t])) (hrl : row.length ≤ 64) :
    expect_Legs t row = some ((legsT t row (treeOf t) []).map encL, 0) ∧ (∀ x ∈ legsT t row (treeOf t) [], WSz x.2.2 16 row.length ∧ SzQ x.2.1 4) ∧ (legsT t row (treeOf t) []).length ≤ 65536 := by
  obtain ⟨b, h1, h2⟩ := TreeV_ok (f := (row.length : Int)) ht hs
  have hb : b = true := h2.2 hg
  subst hb
  obtain ⟨g1, g2, g3⟩ := hg.treeOf (i := 0) (by simp)
  have g1 : Is t (row.length : Int) (treeOf t) := g1
  have g2 : (treeOf t).top = 0 := g2
  have g3 : (treeOf t).deep ≤ t.length + 1 := g3
  have hz := TR.size_le (T := treeOf t) (by omega)
  have hcov : CoversP t := hg.covers (i := 0) (by simp)
  have hl := legs_ok hs hc hcov hrl R0 (treeOf t) [] 0 g1 (by unfold R0; omega) (by omega) (WSz.nil _) (by omega)
  rw [g2] at hl
  have hl : expect_legs R0 t row 0 [] = _ := hl
  have hn := legsT_len t row (treeOf t) []
  have hn2 := leavesT_len (treeOf t)
  refine ⟨by rw [expect_Legs, h1, Option.bind_some, Bool.not_true, cond_false, hl, Option.bind_some], fun x hx => ?_, by omega⟩
  have hw := legsT_sz hs g1 (WSz.nil _) x hx
  refine ⟨⟨fun p hp => (hw.1.1 p hp).mono (by omega), by have := hw.1.2.1; omega, hw.1.2.2⟩, hw.2⟩
theorem reach16 {w : List AP} {f set : Nat} (h : WSz w 16 f) : SzQ (reachA set w) 3000 := by
  have := reachA_sz (set := set) h.1 (by omega)
  exact this.mono (by have := Nat.mul_le_mul_right (8 * 16 + 1) h.2.1; omega)
theorem legV_sz {x : AL} {f set : Nat} (h : WSz x.2.2 16 f) (hv : SzQ x.2.1 4) : SzQ (legV set x) 3004 := ((reach16 h).mul hv).mono (by decide)
theorem Askd.goodT {m : MODEL} {row : List CELL} (h : Askd m row) {i : Nat} (hi : i < m.2.length) : Good ((row.length : Int), [m.2[i]]) := by
  have hg := h.good
  refine ⟨⟨?_, ?_, ?_, ?_⟩, ?_⟩
  · rw [h.len]; exact hg.1.1
  · rw [h.len]; exact hg.1.2.1
  · simp
  · intro j hj
    have hj : j < 1 := hj
    have : j = 0 := by omega
    subst this
    exact hg.1.2.2.2 i hi
  · intro r hr j hj
    have hj : j < 1 := hj
    have : j = 0 := by omega
    subst this
    have := hg.2 r hr i hi
    show RuleP (row.length : Int) r m.2[i]
    rw [h.len]; exact this

theorem reaches_inner {row : List CELL} {set : Nat} (hset : set < 18446744073709551616) (k : Int) (m : MODEL) (x : RAT) {l : List AL} {f : Nat} (hf : f ≤ 64) (hl : l.length ≤ 65536) (hw : ∀ y ∈ l, WSz y.2.2 16 f ∧ SzQ y.2.1 4) {q : Rat} {n : Nat} (hq : SzQ q n) (hn : n < 1000000000) :
    lp dendronlaw11_ExpectReaches_s13 K0 ((row, (set : Int), k, l.map encL, 0, ()), ((m.1, m.2, ()), (x.1.1, x.1.2, x.2, ()), ((canQ q).1.1, (canQ q).1.2, (canQ q).2, ()), ())) = some ((row, (set : Int), k, ()), ((m.1, m.2, ()), (x.1.1, x.1.2, x.2, ()), ((canQ (q + lsum (l.map (legV set)))).1.1, (canQ (q + lsum (l.map (legV set)))).1.2, (canQ (q + lsum (l.map (legV set)))).2, ()), ())) := by
  have hsz : ∀ i, i ≤ l.length → SzQ (q + lsum ((l.map (legV set)).take i)) (n + 197000000) := fun i hi => by
    have h1 := lsum_sz (l := (l.map (legV set)).take i) (k := 3004) (fun z hz => by
      obtain ⟨y, hy, rfl⟩ := List.mem_map.1 (List.mem_of_mem_take hz)
      exact legV_sz (hw y hy).1 (hw y hy).2)
    have h2 : ((l.map (legV set)).take i).length ≤ 65536 := by simp; omega
    have := Nat.mul_le_mul_right (3004 + 1) h2
    exact (hq.add h1).mono (by omega)
  have key := lp_up (step := dendronlaw11_ExpectReaches_s13) (fun i => ((row, (set : Int), k, l.map encL, (i : Int), ()), ((m.1, m.2, ()), (x.1.1, x.1.2, x.2, ()), ((canQ (q + lsum ((l.map (legV set)).take i))).1.1, (canQ (q + lsum ((l.map (legV set)).take i))).1.2, (canQ (q + lsum ((l.map (legV set)).take i))).2, ()), ()))) l.length
    (r := ((row, (set : Int), k, ()), ((m.1, m.2, ()), (x.1.1, x.1.2, x.2, ()), ((canQ (q + lsum (l.map (legV set)))).1.1, (canQ (q + lsum (l.map (legV set)))).1.2, (canQ (q + lsum (l.map (legV set)))).2, ()), ()))) (by omega) (by
    intro g i hi
    have el : (l.map encL).length = l.length := by simp
    have d0 : (i : Int) < ((l.map encL).length : Int) := by omega
    have d1 : (0 : Int) ≤ (i : Int) := by omega
    obtain ⟨w1, w2⟩ := hw _ (List.getElem_mem hi)
    have w1' : WSz l[i].2.2 16 64 := ⟨w1.1, w1.2.1, fun p hp => by have := w1.2.2 p hp; omega⟩
    have hr := ReachA_ok w1' hset (by decide)
    have hm := ratio_Mul_ok ((reach16 (set := set) w1).sm (by decide)) (w2.sm (by decide))
    rw [rv_canQ, rv_canQ] at hm
    have ha := ratio_Add_ok ((hsz i (by omega)).sm (by omega)) ((legV_sz (set := set) w1 w2).sm (by decide))
    rw [rv_canQ, rv_canQ] at ha
    have e : lsum ((l.map (legV set)).take (i + 1)) = lsum ((l.map (legV set)).take i) + legV set l[i] := by rw [lsum_take_succ (by simpa using hi)]; simp
    have ge : (l.map encL)[i]? = some (encL l[i]) := by simp [hi]
    rw [dendronlaw11_ExpectReaches_s13, cnd d0, cnd2 d1 d0, Int.toNat_natCast, ge, Option.bind_some, hr, Option.bind_some, cnd2 d1 d0, Option.bind_some]
    show (ratio_Mul (canQ (reachA set l[i].2.2)) (canQ l[i].2.1)).bind _ = _
    rw [hm, Option.bind_some]
    show (ratio_Add (canQ _) (canQ (legV set l[i]))).bind _ = _
    rw [ha, Option.bind_some, iadd1 (by omega), e, ← Rat.add_assoc]
    rfl) (by
    intro g
    rw [dendronlaw11_ExpectReaches_s13, cnd' (by simp), List.take_of_length_le (by simp)])
  have e0 : q + lsum ((l.map (legV set)).take 0) = q := by simp [lsum, Rat.add_zero]
  have key := key
  simp only [e0] at key
  exact key

theorem ExpectReaches_true (m0 : MODEL) (row0 : List CELL) (set0 : Int) (hl : m0.2.length ≤ 9223372036854775807) (ht : ∀ t ∈ m0.2, t.length ≤ 9223372036854775807) (hr : row0.length ≤ 9223372036854775807) (s0 : 0 ≤ set0) (s1 : set0 < 18446744073709551616) : dendronlaw11_ExpectReaches m0 row0 set0 = some true := by
  obtain ⟨set, rfl⟩ := Int.eq_ofNat_of_zero_le s0
  have hset : set < 18446744073709551616 := by omega
  obtain ⟨m, row, hs, ms, ml, mt, cs⟩ := Small_ok m0 row0 hl ht hr
  obtain ⟨e, h1, h2, h3, h4⟩ := fits_ok (row := row) (by omega) (fun t h => by have := mt t h; omega) ms
  rw [dendronlaw11_ExpectReaches, hs, Option.bind_some]
  dsimp only
  by_cases he : e = 0
  · subst he
    have ha : Askd m row := ⟨(h4.1 rfl).1, (h4.1 rfl).2, ms, by omega, mt, cs⟩
    have hv := eValue_ok ha hset
    have hz : SzQ (sayM m row set) (1 + m.2.length * 1048577) := sayM_sz ha.good ms mt (Nat.le_refl _)
    obtain ⟨F, eF⟩ : ∃ F : Nat → Rat, F = fun i => expT (treeAt m i) row set (treeOf (treeAt m i)) := ⟨_, rfl⟩
    have hF : ∀ n, n ≤ m.2.length → SzQ (rsum F n) (1 + n * 1048577) := fun n hn => by rw [eF]; exact sayM_sz ha.good ms mt hn
    have eS : sayM m row set = rsum F m.2.length := by rw [eF]; rfl
    have f64 := ha.f64
    have key := lp_up (step := dendronlaw11_ExpectReaches_s7) (fun i => ((row, (set : Int), (i : Int), ()), ((m.1, m.2, ()), ((canQ (sayM m row set)).1.1, (canQ (sayM m row set)).1.2, (canQ (sayM m row set)).2, ()), ((canQ (rsum F i)).1.1, (canQ (rsum F i)).1.2, (canQ (rsum F i)).2, ()), ()))) m.2.length (r := .inl ((), (((canQ (sayM m row set)).1.1, (canQ (sayM m row set)).1.2, (canQ (sayM m row set)).2, ()), ((canQ (rsum F m.2.length)).1.1, (canQ (rsum F m.2.length)).1.2, (canQ (rsum F m.2.length)).2, ()), ()))) (by omega) (by
      intro g i hi
      have d0 : (i : Int) < ((m.2.length : Nat) : Int) := by omega
      have d1 : (0 : Int) ≤ (i : Int) := by omega
      obtain ⟨t1, t2, t3, t4, t5⟩ := ha.tree hi
      have tl := mt _ (List.getElem_mem hi)
      have hgT := ha.goodT hi
      obtain ⟨g1, g2, g3⟩ := Legs_ok tl t1 cs hgT f64
      have hin := reaches_inner (row := row) hset (i : Int) m (canQ (sayM m row set)) f64 g3 g2 (hF i (by omega)) (by omega)
      have hcov : CoversP m.2[i] := ha.cov hi
      have hsay := legs_say (set := set) (row := row) hcov.ne (hgT.treeOf (i := 0) (by simp)).1 []
      have hsay : lsum ((legsT m.2[i] row (treeOf m.2[i]) []).map (legV set)) = reachA set [] * expT m.2[i] row set (treeOf m.2[i]) := hsay
      have e1 : rsum F i + lsum ((legsT m.2[i] row (treeOf m.2[i]) []).map (legV set)) = rsum F (i + 1) := by
        rw [hsay, rsum, eF]
        show _ = _ + expT (treeAt m i) row set _
        rw [t5]
        simp [reachA, lprod, Rat.one_mul]
      rw [e1] at hin
      rw [dendronlaw11_ExpectReaches_s7, cnd d0, cnd d1, Int.toNat_natCast, List.getElem?_eq_getElem hi, Option.bind_some, g1, Option.bind_some, show (!decide ((0 : Int) = 0)) = false by decide, cond_false, hin, Option.bind_some]
      dsimp only
      rw [iadd1 (by omega)]
      rfl) (by
      intro g
      rw [dendronlaw11_ExpectReaches_s7, cnd' (by omega)])
    have key : lp dendronlaw11_ExpectReaches_s7 K0 ((row, (set : Int), 0, ()), ((m.1, m.2, ()), ((canQ (sayM m row set)).1.1, (canQ (sayM m row set)).1.2, (canQ (sayM m row set)).2, ()), ((canQ 0).1.1, (canQ 0).1.2, (canQ 0).2, ()), ())) = _ := key
    have hsame := ratio_Same_ok (hz.sm (by omega)) (hz.sm (by omega))
    rw [hv, Option.bind_some, show (!decide ((0 : Int) = 0)) = false by decide, cond_false, ratio_Zero_ok, Option.bind_some, key, Option.bind_some]
    show (ratio_Same (canQ (sayM m row set)) (canQ (rsum F m.2.length))).bind _ = _
    rw [← eS, hsame, Option.bind_some, decide_eq_true rfl, cond_true, law11_awake_ok]
    rfl
  · have f2 := eValue_bad (set := (set : Int)) h2 he
    rw [f2, Option.bind_some, decide_eq_false he, Bool.not_false, cond_true, h3, Option.bind_some, cnd rfl, law11_awake_ok]
    rfl
end Go.Proofs.YtongppphgbkckaaDoor.X


/- Expect: ExpectTables. -/
namespace Go.Proofs.YtongppphgbkckaaDoor.X
open Go
set_option linter.unusedVariables false
set_option linter.unusedSimpArgs false

end Go.Proofs.YtongppphgbkckaaDoor.X


/- Saabas: what each split on a way adds. -/
namespace Go.Proofs.YtongppphgbkckaaDoor.X
open Go
set_option linter.unusedVariables false
set_option linter.unusedSimpArgs false

abbrev ST := Nat × Nat × Nat × Rat
abbrev STEP := Int × Int × Int × RAT
def encS (s : ST) : STEP := ((s.1 : Int), ((s.2.1 : Int), ((s.2.2.1 : Int), canQ s.2.2.2)))
/-- What each split on a row's way adds. -/
def stepsT (t : List NODE) (row : List CELL) (k : Nat) : TR → List ST
  | .leaf _ => []
  | .split i l r => (k, i, (nFeat (nodeAt t i)).toNat, (if goL t row i then mT t l else mT t r) - mT t (.split i l r)) :: (if goL t row i then stepsT t row k l else stepsT t row k r)
theorem stepsT_len (t : List NODE) (row : List CELL) (k : Nat) (T : TR) : (stepsT t row k T).length + 1 = (wayT t row T).length := by
  induction T with
  | leaf i => rfl
  | split i l r ihl ihr =>
    simp only [stepsT, wayT, List.length_cons]
    cases goL t row i with
    | true => rw [if_pos rfl, if_pos rfl, ihl]
    | false => rw [if_neg (by decide), if_neg (by decide), ihr]
/-- The steps by the way's places. -/
theorem stepsT_get {t : List NODE} {f : Int} {row : List CELL} {k : Nat} {T : TR} (h : Is t f T) : ∀ p (hp : p < (stepsT t row k T).length), ∃ U V, InT U T ∧ InT V T ∧ (wayT t row T)[p]? = some U.top ∧ (wayT t row T)[p + 1]? = some V.top ∧ (∃ i l r, U = .split i l r) ∧ (stepsT t row k T)[p] = (k, U.top, (nFeat (nodeAt t U.top)).toNat, mT t V - mT t U) := by
  induction T with
  | leaf i => intro p hp; simp [stepsT] at hp
  | split i l r ihl ihr =>
    obtain ⟨h1, h2, f0, f1, h3, h4, h5, h6⟩ := h
    intro p hp
    have hd : ∀ U : TR, (wayT t row U)[0]? = some U.top := by intro U; cases U <;> rfl
    cases hg : goL t row i with
    | true =>
      have e1 : stepsT t row k (.split i l r) = (k, i, (nFeat (nodeAt t i)).toNat, mT t l - mT t (.split i l r)) :: stepsT t row k l := by simp only [stepsT, hg, if_true]
      have e2 : wayT t row (.split i l r) = i :: wayT t row l := by simp only [wayT, hg, if_true]
      rw [e2]
      cases p with
      | zero =>
        refine ⟨.split i l r, l, .inl rfl, .inr (.inl (InT.self l)), rfl, by rw [List.getElem?_cons_succ]; exact hd l, ⟨i, l, r, rfl⟩, ?_⟩
        simp only [e1, List.getElem_cons_zero]
        rfl
      | succ p =>
        have hp' : p < (stepsT t row k l).length := by rw [e1] at hp; simpa using hp
        obtain ⟨U, V, hU, hV, g1, g2, g3, g4⟩ := ihl h5 p hp'
        refine ⟨U, V, .inr (.inl hU), .inr (.inl hV), by rw [List.getElem?_cons_succ]; exact g1, by rw [List.getElem?_cons_succ]; exact g2, g3, ?_⟩
        simp only [e1, List.getElem_cons_succ]
        exact g4
    | false =>
      have e1 : stepsT t row k (.split i l r) = (k, i, (nFeat (nodeAt t i)).toNat, mT t r - mT t (.split i l r)) :: stepsT t row k r := by simp [stepsT, hg]
      have e2 : wayT t row (.split i l r) = i :: wayT t row r := by simp [wayT, hg]
      rw [e2]
      cases p with
      | zero =>
        refine ⟨.split i l r, r, .inl rfl, .inr (.inr (InT.self r)), rfl, by rw [List.getElem?_cons_succ]; exact hd r, ⟨i, l, r, rfl⟩, ?_⟩
        simp only [e1, List.getElem_cons_zero]
        rfl
      | succ p =>
        have hp' : p < (stepsT t row k r).length := by rw [e1] at hp; simpa using hp
        obtain ⟨U, V, hU, hV, g1, g2, g3, g4⟩ := ihr h6 p hp'
        refine ⟨U, V, .inr (.inr hU), .inr (.inr hV), by rw [List.getElem?_cons_succ]; exact g1, by rw [List.getElem?_cons_succ]; exact g2, g3, ?_⟩
        simp only [e1, List.getElem_cons_succ]
        exact g4
theorem stepsT_sz {t : List NODE} {f : Int} {row : List CELL} {k : Nat} {T : TR} (hs : TSz t 4) (h : Is t f T) (hz : T.size ≤ 65536) (h0 : 0 ≤ f) : ∀ s ∈ stepsT t row k T, SzQ s.2.2.2 2100000 ∧ ((s.2.2.1 : Nat) : Int) < f ∧ ((s.2.2.1 : Nat) : Int) = nFeat (nodeAt t s.2.1) ∧ s.2.1 < t.length := by
  intro s hm
  obtain ⟨p, hp, rfl⟩ := List.getElem_of_mem hm
  obtain ⟨U, V, hU, hV, _, _, ⟨i, l, r, e⟩, g⟩ := stepsT_get h p hp
  have u := hU.size
  have v := hV.size
  have su := (mT_sz hs (hU.is h)).mono (m := 1048576) (by omega)
  have sv := (mT_sz hs (hV.is h)).mono (m := 1048576) (by omega)
  rw [g]
  refine ⟨(sv.sub su).mono (by decide), ?_⟩
  have hI := hU.is h
  rw [e] at hI
  obtain ⟨h1, h2, f0, f1, _⟩ := hI
  have et : U.top = i := by rw [e]; rfl
  refine ⟨?_, ?_, by rw [et]; exact h1⟩
  · show (((nFeat (nodeAt t U.top)).toNat : Nat) : Int) < f
    rw [et, nodeAt_get h1]; omega
  · show (((nFeat (nodeAt t U.top)).toNat : Nat) : Int) = nFeat (nodeAt t U.top)
    rw [et, nodeAt_get h1]; omega
/-- All steps of a model's first so many trees. -/
def stepsM (m : MODEL) (row : List CELL) : Nat → List ST
  | 0 => []
  | n + 1 => stepsM m row n ++ stepsT (treeAt m n) row n (treeOf (treeAt m n))

/-- The program's loop over a way. -/
theorem steps_inner {t : List NODE} {f : Int} {row : List CELL} {T : TR} {k : Nat} (hs : TSz t 4) (h : Is t f T) (hz : T.size ≤ 65536) (h0 : 0 ≤ f) (hd : T.deep ≤ 1000) {out : List RAT} (ho : meansL t T out) (m : MODEL) (a : List (List NODE)) (b c : Int) {acc : List ST} (hacc : acc.length ≤ 100000) :
    lp saabas_Steps_s11 K0 ((row, acc.map encS, (k : Int), t, ints (wayT t row T), out, 1, a, b, c, ()), ((m.1, m.2, ()), ())) = some ((row, (acc ++ stepsT t row k T).map encS, a, b, c, ()), ((m.1, m.2, ()), ())) := by
  obtain ⟨hol, ho⟩ := ho
  have hlen := stepsT_len t row k T
  have hwl := wayT_len t row T
  have li : (ints (wayT t row T)).length = (wayT t row T).length := by simp [ints]
  have key := lp_up (step := saabas_Steps_s11) (fun p => ((row, (acc ++ (stepsT t row k T).take p).map encS, (k : Int), t, ints (wayT t row T), out, ((p + 1 : Nat) : Int), a, b, c, ()), ((m.1, m.2, ()), ()))) (stepsT t row k T).length
    (r := ((row, (acc ++ stepsT t row k T).map encS, a, b, c, ()), ((m.1, m.2, ()), ()))) (by omega) (by
    intro g p hp
    obtain ⟨U, V, hU, hV, g1, g2, ⟨i, l, r, eU⟩, g3⟩ := stepsT_get h p hp
    have hUt := (hU.is h).top_lt
    have hVt := (hV.is h).top_lt
    have d0 : ((p + 1 : Nat) : Int) < ((ints (wayT t row T)).length : Int) := by omega
    have d1 : (0 : Int) ≤ ((p + 1 : Nat) : Int) := by omega
    have i1 : isub .i64 ((p + 1 : Nat) : Int) 1 = (p : Int) := by rw [isub_i] <;> omega
    have d2 : (0 : Int) ≤ (p : Int) := by omega
    have d3 : (p : Int) < ((ints (wayT t row T)).length : Int) := by omega
    have x1 : (ints (wayT t row T))[p]? = some ((U.top : Nat) : Int) := by rw [ints, List.getElem?_map, g1]; rfl
    have x2 : (ints (wayT t row T))[p + 1]? = some ((V.top : Nat) : Int) := by rw [ints, List.getElem?_map, g2]; rfl
    have oU := ho U hU
    have oV := ho V hV
    have u := hU.size
    have v := hV.size
    have su := (mT_sz hs (hU.is h)).mono (m := 1048576) (by omega)
    have sv := (mT_sz hs (hV.is h)).mono (m := 1048576) (by omega)
    have hsub := ratio_Sub_ok (sv.sm (by decide)) (su.sm (by decide))
    rw [rv_canQ, rv_canQ] at hsub
    have dU : (0 : Int) ≤ ((U.top : Nat) : Int) := by omega
    have dV : (0 : Int) ≤ ((V.top : Nat) : Int) := by omega
    have dU' : ((U.top : Nat) : Int) < (out.length : Int) := by omega
    have dV' : ((V.top : Nat) : Int) < (out.length : Int) := by omega
    have hI := hU.is h
    rw [eU] at hI
    obtain ⟨h1, h2, f0, f1, _⟩ := hI
    have et : U.top = i := by rw [eU]; rfl
    have ef : ((nFeat (nodeAt t U.top)).toNat : Int) = t[U.top].2.1 := by
      rw [nodeAt_get hUt]
      have : nFeat t[U.top] = nFeat t[i] := by simp only [et]
      show (((nFeat t[U.top]).toNat : Nat) : Int) = nFeat t[U.top]
      omega
    have e1 : (acc ++ (stepsT t row k T).take (p + 1)).map encS = (acc ++ (stepsT t row k T).take p).map encS ++ [((k : Int), (((U.top : Nat) : Int), (t[U.top].2.1, canQ (mT t V - mT t U))))] := by
      rw [List.take_succ_eq_append_getElem hp, ← List.append_assoc, List.map_append (l₁ := acc ++ (stepsT t row k T).take p), g3, ← ef]
      rfl
    rw [saabas_Steps_s11, cnd d0, i1, cnd2 d2 d3, Int.toNat_natCast, x1, Option.bind_some, cnd2 d2 d3, Option.bind_some, cnd dU, Int.toNat_natCast, List.getElem?_eq_getElem hUt, Option.bind_some, cnd2 d1 d0, Int.toNat_natCast, x2, Option.bind_some, cnd2 dV dV', Int.toNat_natCast, oV, Option.bind_some, cnd2 d2 d3, Option.bind_some, cnd2 dU dU', Int.toNat_natCast, oU, Option.bind_some, hsub, Option.bind_some, blt (by simp; omega), cond_true, e1, iadd1 (by omega)]
    rfl) (by
    intro g
    rw [saabas_Steps_s11, cnd' (by omega), List.take_of_length_le (Nat.le_refl _)])
  have key : lp saabas_Steps_s11 K0 ((row, (acc ++ []).map encS, (k : Int), t, ints (wayT t row T), out, 1, a, b, c, ()), ((m.1, m.2, ()), ())) = _ := key
  rw [List.append_nil] at key
  exact key

/-- What is asked of a model's tree. -/
theorem Askd.tree2 {m : MODEL} {row : List CELL} (h : Askd m row) {i : Nat} (hi : i < m.2.length) : (treeOf m.2[i]).size ≤ 65536 ∧ treeAt m i = m.2[i] ∧ Is m.2[i] m.1 (treeOf m.2[i]) ∧ (treeOf m.2[i]).top = 0 ∧ (treeOf m.2[i]).deep ≤ 16 ∧ Good (m.1, [m.2[i]]) := by
  obtain ⟨t1, t2, t3, t4, t5⟩ := h.tree hi
  rw [t5] at t2 t3 t4
  have := TR.size_le t4
  have hg := h.goodT hi
  rw [h.len] at hg t2
  exact ⟨by omega, t5, t2, t3, t4, hg⟩
theorem stepsM_len {m : MODEL} {row : List CELL} (h : Askd m row) : ∀ n, n ≤ m.2.length → (stepsM m row n).length ≤ n * 16 := by
  intro n
  induction n with
  | zero => intro _; simp [stepsM]
  | succ n ih =>
    intro hn
    have := ih (by omega)
    obtain ⟨_, t2, _, _, t5, _⟩ := h.tree2 (i := n) (by omega)
    have h1 := stepsT_len (treeAt m n) row n (treeOf (treeAt m n))
    have h2 := wayT_len (treeAt m n) row (treeOf (treeAt m n))
    rw [t2] at h1 h2
    simp only [stepsM, List.length_append, t2]
    omega
theorem stepsM_sz {m : MODEL} {row : List CELL} (h : Askd m row) : ∀ n, n ≤ m.2.length → ∀ s ∈ stepsM m row n, SzQ s.2.2.2 2100000 ∧ ((s.2.2.1 : Nat) : Int) < m.1 := by
  intro n
  induction n with
  | zero => intro _ s hs; simp [stepsM] at hs
  | succ n ih =>
    intro hn s hs
    obtain ⟨t1, t2, t3, _, _, _⟩ := h.tree2 (i := n) (by omega)
    simp only [stepsM, List.mem_append, t2] at hs
    rcases hs with hs | hs
    · exact ih (by omega) s hs
    · have := stepsT_sz (row := row) (k := n) (h.ms _ (List.getElem_mem (by omega))) t3 t1 h.good.1.1 s hs
      exact ⟨this.1, this.2.1⟩
theorem Steps12_ok {m : MODEL} {row : List CELL} (h : Askd m row) : saabas_Steps m row = some ((stepsM m row m.2.length).map encS, 0) := by
  obtain ⟨e, _, h1, _, h2⟩ := fits_ok (row := row) (by have := h.ml; omega) (fun t ht => by have := h.mt t ht; omega) h.ms
  have e0 : e = 0 := h2.2 ⟨h.good, h.len⟩
  subst e0
  have ml := h.ml
  have key := lp_up (step := saabas_Steps_s6) (fun i => ((row, (stepsM m row i).map encS, m.2, (m.2.length : Int), (i : Int), ()), ((m.1, m.2, ()), ()))) m.2.length (r := (((stepsM m row m.2.length).map encS, ()), ())) (by omega) (by
    intro g i hi
    have d0 : (i : Int) < ((m.2.length : Nat) : Int) := by omega
    have d1 : (0 : Int) ≤ (i : Int) := by omega
    obtain ⟨t1, t2, t3, t4, t5, t6⟩ := h.tree2 hi
    have tl := h.mt _ (List.getElem_mem hi)
    have ts := h.ms _ (List.getElem_mem hi)
    obtain ⟨out, ho, hN⟩ := Nodes_ok tl ts t6
    have hg' := h.goodT hi
    rcases route_Way_ok tl ts h.cs with ⟨hb, _⟩ | ⟨_, _, hW⟩
    · exact absurd hg' hb
    · have hlen := stepsM_len h i (by omega)
      have hin := steps_inner (k := i) (row := row) ts t3 t1 h.good.1.1 (by omega) ho m m.2 (m.2.length : Int) (i : Int) (acc := stepsM m row i) (by omega)
      rw [saabas_Steps_s6, cnd d0, cnd d1, Int.toNat_natCast, List.getElem?_eq_getElem hi, Option.bind_some, hW, Option.bind_some, hN, Option.bind_some, hin, Option.bind_some]
      dsimp only
      rw [iadd1 (by omega), stepsM, t2]
      rfl) (by
    intro g
    rw [saabas_Steps_s6, cnd' (by omega)])
  have key : lp saabas_Steps_s6 K0 ((row, [], m.2, (m.2.length : Int), 0, ()), ((m.1, m.2, ()), ())) = _ := key
  rw [saabas_Steps, h1, Option.bind_some, show (!decide ((0 : Int) = 0)) = false by decide, cond_false, key, Option.bind_some]
theorem Steps12_bad {m : MODEL} {row : List CELL} {e : Int} (h : route_Fits m row = some e) (he : e ≠ 0) : saabas_Steps m row = some ([], e) := by
  rw [saabas_Steps, h, Option.bind_some, decide_eq_false he]; rfl

/-! The reference. -/
theorem law12_awake_ok : dendronlaw12_awake = some true := by decide +kernel

end Go.Proofs.YtongppphgbkckaaDoor.X


/- Saabas: what all splits by each feature add. -/
namespace Go.Proofs.YtongppphgbkckaaDoor.X
open Go
set_option linter.unusedVariables false
set_option linter.unusedSimpArgs false

/-- What steps by a feature add. -/
def addF (f : Nat) (s : ST) : Rat := if s.2.2.1 = f then s.2.2.2 else 0
def fsum (f : Nat) (l : List ST) : Rat := lsum (l.map (addF f))
theorem fsum_take {f : Nat} {l : List ST} {i : Nat} (h : i < l.length) : fsum f (l.take (i + 1)) = fsum f (l.take i) + addF f l[i] := by
  have := lsum_take_succ (l := l.map (addF f)) (i := i) (by simpa using h)
  rw [← List.map_take, ← List.map_take] at this
  rw [fsum, this, fsum]; simp
def StepsSz (l : List ST) (g : Nat) : Prop := l.length ≤ 10000 ∧ ∀ s ∈ l, SzQ s.2.2.2 2100000 ∧ s.2.2.1 < g
theorem fsum_sz {l : List ST} {g f i : Nat} (h : StepsSz l g) : SzQ (fsum f (l.take i)) 30000000000 := by
  have := lsum_sz (l := (l.take i).map (addF f)) (k := 2100000) (fun x hx => by
    obtain ⟨s, hs, rfl⟩ := List.mem_map.1 hx
    have := (h.2 s (List.mem_of_mem_take hs)).1
    unfold addF
    split
    · exact this
    · exact SzQ.zero.mono (by decide))
  have hl : ((l.take i).map (addF f)).length ≤ 10000 := by have := h.1; simp; omega
  have h3 := Nat.mul_le_mul_right (2100000 + 1) hl
  exact this.mono (Nat.le_trans (Nat.add_le_add_left h3 1) (by decide))
def valsL (g : Nat) (l : List ST) : List RAT := (List.range g).map fun f => canQ (fsum f l)
theorem valsL_len (g : Nat) (l : List ST) : (valsL g l).length = g := by simp [valsL]
theorem valsL_get {g f : Nat} (l : List ST) (h : f < g) : (valsL g l)[f]? = some (canQ (fsum f l)) := by simp [valsL, h]
theorem valsL_step {g i : Nat} {l : List ST} (h : i < l.length) : (valsL g (l.take i)).set l[i].2.2.1 (canQ (fsum l[i].2.2.1 (l.take i) + l[i].2.2.2)) = valsL g (l.take (i + 1)) := by
  apply List.ext_getElem?
  intro f
  rw [List.getElem?_set]
  by_cases hf : f < g
  · rw [valsL_get _ hf, valsL_get _ hf, fsum_take h, valsL_len]
    by_cases e : l[i].2.2.1 = f
    · rw [if_pos e, if_pos (by omega), e, addF, if_pos e]
    · rw [if_neg e, addF, if_neg e, Rat.add_zero]
  · have h1 : (valsL g (l.take i))[f]? = none := List.getElem?_eq_none (by rw [valsL_len]; omega)
    have h2 : (valsL g (l.take (i + 1)))[f]? = none := List.getElem?_eq_none (by rw [valsL_len]; omega)
    rw [h1, h2]
    split
    · rename_i e; rw [if_neg (by rw [valsL_len]; omega)]
    · rfl
theorem zeros12_ok {n : Nat} (h : n ≤ 1000000) : saabas_zeros (n : Int) = some (List.replicate n (canQ 0)) := by
  have key := lp_up (step := saabas_zeros_s3) (fun i => ((List.replicate i (canQ 0), (n : Int), (i : Int), ()), ())) n (r := ((List.replicate n (canQ 0), ()), ())) (by omega) (by
    intro g i hi
    have d0 : (i : Int) < (n : Int) := by omega
    rw [saabas_zeros_s3, cnd d0, ratio_Zero_ok, Option.bind_some, blt (by simp; omega), cond_true, iadd1 (by omega), List.replicate_succ']
    rfl) (by
    intro g
    rw [saabas_zeros_s3, cnd' (by omega)])
  have key : lp saabas_zeros_s3 K0 (([], (n : Int), 0, ()), ()) = _ := key
  rw [saabas_zeros, key, Option.bind_some]
theorem valsL_nil (g : Nat) : valsL g [] = List.replicate g (canQ 0) := by
  rw [valsL]
  have : (fun f : Nat => canQ (fsum f [])) = fun _ => canQ 0 := rfl
  rw [this, List.map_const', List.length_range]

theorem values_lp {l : List ST} {g : Nat} (h : StepsSz l g) : lp saabas_Values_s6 K0 ((valsL g [], l.map encS, (l.length : Int), 0, ()), ()) = some ((valsL g l, ()), ()) := by
  have hl := h.1
  have key := lp_up (step := saabas_Values_s6) (fun i => ((valsL g (l.take i), l.map encS, (l.length : Int), (i : Int), ()), ())) l.length (r := ((valsL g l, ()), ())) (by omega) (by
    intro gg i hi
    have lm : (l.map encS).length = l.length := by simp
    have d0 : (i : Int) < (l.length : Int) := by omega
    have d1 : (0 : Int) ≤ (i : Int) := by omega
    have d2 : (i : Int) < ((l.map encS).length : Int) := by omega
    obtain ⟨hq, hf⟩ := h.2 _ (List.getElem_mem hi)
    have gL : (l.map encS)[i]? = some (encS l[i]) := by simp [hi]
    have ef : (encS l[i]).2.2.1 = ((l[i].2.2.1 : Nat) : Int) := rfl
    have lv := valsL_len g (l.take i)
    have d3 : (0 : Int) ≤ ((l[i].2.2.1 : Nat) : Int) := by omega
    have d4 : ((l[i].2.2.1 : Nat) : Int) < ((valsL g (l.take i)).length : Int) := by omega
    have ha := ratio_Add_ok ((fsum_sz (f := l[i].2.2.1) (i := i) h).sm (by decide)) (hq.sm (by decide))
    rw [rv_canQ, rv_canQ] at ha
    have ha : ratio_Add (canQ (fsum l[i].2.2.1 (l.take i))) (encS l[i]).2.2.2 = _ := ha
    rw [saabas_Values_s6, cnd d0, cnd2 d1 d2, Int.toNat_natCast, gL, Option.bind_some, ef, cnd2 d3 d4, Int.toNat_natCast, valsL_get _ hf, Option.bind_some, ha, Option.bind_some, cnd2 d3 d4, Option.bind_some, valsL_step hi, iadd1 (by omega)]
    rfl) (by
    intro gg
    rw [saabas_Values_s6, cnd' (by omega), List.take_of_length_le (Nat.le_refl _)])
  exact key

theorem stepsOk {m : MODEL} {row : List CELL} (h : Askd m row) : StepsSz (stepsM m row m.2.length) m.1.toNat := by
  have h1 := stepsM_len h m.2.length (Nat.le_refl _)
  have h2 := stepsM_sz h m.2.length (Nat.le_refl _)
  have := h.ml
  exact ⟨by omega, fun s hs => ⟨(h2 s hs).1, by have := (h2 s hs).2; omega⟩⟩
theorem Values12_ok {m : MODEL} {row : List CELL} (h : Askd m row) : saabas_Values m row = some (valsL m.1.toNat (stepsM m row m.2.length), 0) := by
  have f0 := h.good.1.1
  have f1 := h.good.1.2.1
  obtain ⟨g, hg⟩ : ∃ g : Nat, m.1 = (g : Int) := ⟨m.1.toNat, by omega⟩
  have hS := Steps12_ok h
  have hz := stepsOk h
  rw [show m.1.toNat = g by omega] at hz ⊢
  obtain ⟨L, eL⟩ : ∃ L, L = stepsM m row m.2.length := ⟨_, rfl⟩
  rw [← eL] at hS hz ⊢
  have hlp := values_lp hz
  rw [saabas_Values, hS, Option.bind_some, show (!decide ((0 : Int) = 0)) = false by decide, cond_false, hg, zeros12_ok (by omega), Option.bind_some, List.length_map, ← valsL_nil, hlp, Option.bind_some]
theorem Values12_bad {m : MODEL} {row : List CELL} {e : Int} (h : route_Fits m row = some e) (he : e ≠ 0) : saabas_Values m row = some ([], e) := by
  rw [saabas_Values, Steps12_bad h he, Option.bind_some]
  dsimp only
  rw [decide_eq_false he]; rfl

end Go.Proofs.YtongppphgbkckaaDoor.X


/- Saabas: the features that add something, in order. -/
namespace Go.Proofs.YtongppphgbkckaaDoor.X
open Go
set_option linter.unusedVariables false
set_option linter.unusedSimpArgs false

def spotP (P : Nat → Bool) : List Nat → Nat
  | [] => 0
  | j :: o => if P j then spotP P o + 1 else 0
theorem spotP_le (P : Nat → Bool) (o : List Nat) : spotP P o ≤ o.length := by
  induction o with
  | nil => simp [spotP]
  | cons j o ih => simp only [spotP, List.length_cons]; split <;> omega
theorem spotP_lt {P : Nat → Bool} {o : List Nat} {i : Nat} (h : i < spotP P o) : ∃ hi : i < o.length, P o[i] = true := by
  induction o generalizing i with
  | nil => simp [spotP] at h
  | cons j o ih =>
    simp only [spotP] at h
    split at h
    · rename_i hp
      cases i with
      | zero => exact ⟨by simp, hp⟩
      | succ i => obtain ⟨hi, h2⟩ := ih (i := i) (by omega); exact ⟨by simp; omega, by simpa using h2⟩
    · omega
theorem spotP_at {P : Nat → Bool} {o : List Nat} (h : spotP P o < o.length) : P o[spotP P o] = false := by
  induction o with
  | nil => simp at h
  | cons j o ih =>
    cases hp : P j with
    | true =>
      have e : spotP P (j :: o) = spotP P o + 1 := by simp only [spotP, hp, if_true]
      have h' : spotP P o < o.length := by rw [e] at h; simpa using h
      simp only [e, List.getElem_cons_succ]
      exact ih h'
    | false =>
      have e : spotP P (j :: o) = 0 := by simp [spotP, hp]
      simp only [e, List.getElem_cons_zero]
      exact hp
theorem pre_insert {v : Nat → Rat} {o : List Nat} {i p : Nat} (h : o.Pairwise (pre v)) (hlt : ∀ j ∈ o, j < i) (hp : p ≤ o.length) (h1 : ∀ a, a < p → (ha : a < o.length) → v i ≤ v o[a]) (h2 : (hp : p < o.length) → ¬ v i ≤ v o[p]) : (o.take p ++ i :: o.drop p).Pairwise (pre v) := by
  have hi : ∀ j ∈ o.take p, pre v j i := by
    intro j hj
    obtain ⟨a, ha, rfl⟩ := List.getElem_of_mem hj
    rw [List.length_take] at ha
    rw [List.getElem_take]
    have := h1 a (by omega) (by omega)
    have hl := hlt _ (List.getElem_mem (l := o) (n := a) (by omega))
    unfold pre
    grind
  have hd : ∀ j ∈ o.drop p, pre v i j := by
    intro j hj
    obtain ⟨b, hb, rfl⟩ := List.getElem_of_mem hj
    rw [List.length_drop] at hb
    rw [List.getElem_drop]
    have h3 := h2 (by omega)
    by_cases e : b = 0
    · subst e
      left
      have : o[p + 0] = o[p] := rfl
      rw [this]; grind
    · have h4 := List.pairwise_iff_getElem.1 h p (p + b) (by omega) (by omega) (by omega)
      unfold pre at h4 ⊢
      grind
  rw [List.pairwise_append, List.pairwise_cons]
  refine ⟨h.take, ⟨hd, h.drop⟩, fun a ha b hb => ?_⟩
  rcases List.mem_cons.1 hb with rfl | hb
  · exact hi a ha
  · exact pre_trans (hi a ha) (hd b hb)
theorem mem_insert {o : List Nat} {i p j : Nat} : j ∈ o.take p ++ i :: o.drop p ↔ j = i ∨ j ∈ o := by
  have : j ∈ o ↔ j ∈ o.take p ∨ j ∈ o.drop p := by
    conv => lhs; rw [← List.take_append_drop p o]
    exact List.mem_append
  rw [this, List.mem_append, List.mem_cons]
  constructor
  · rintro (h | h | h)
    · exact .inr (.inl h)
    · exact .inl h
    · exact .inr (.inr h)
  · rintro (h | h | h)
    · exact .inr (.inl h)
    · exact .inl h
    · exact .inr (.inr h)

/-- The order of the first so many numbers that are not 0. -/
structure OrdNz (q : Nat → Rat) (i : Nat) (o : List Nat) : Prop where
  pw : o.Pairwise (pre fun j => rabs (q j))
  mem : ∀ j, j ∈ o ↔ j < i ∧ q j ≠ 0
  len : o.length = cntF (fun j => decide (q j ≠ 0)) i
structure QL2 (l : List RAT) (n k : Nat) (q : Nat → Rat) : Prop where
  len : l.length = n
  get : ∀ i, i < n → l[i]? = some (canQ (q i))
  sz : ∀ i, i < n → SzQ (q i) k
  small : k < 1000000000000
  nle : n ≤ 1000000

theorem order_inner {l : List RAT} {n k : Nat} {q : Nat → Rat} (h : QL2 l n k q) {i : Nat} (hi : i < n) {o : List Nat} (ho : ∀ j ∈ o, j < n) (hol : o.length ≤ n) (a : List RAT) (b c : Int) :
    lp saabas_Order_s10 K0 ((l, ints o, (i : Int), 0, a, b, c, ()), (((canQ (q i)).1.1, (canQ (q i)).1.2, (canQ (q i)).2, ()), ())) = some ((l, ints o, (i : Int), ((spotP (fun j => decide (rabs (q i) ≤ rabs (q j))) o : Nat) : Int), a, b, c, ()), ()) := by
  obtain ⟨P, eP⟩ : ∃ P : Nat → Bool, P = fun j => decide (rabs (q i) ≤ rabs (q j)) := ⟨_, rfl⟩
  rw [← eP]
  have hsp := spotP_le P o
  obtain ⟨s, es⟩ : ∃ s, s = spotP P o := ⟨_, rfl⟩
  have hn := h.nle
  have hk := h.small
  have lo : (ints o).length = o.length := by simp [ints]
  have hx := h.sz i hi
  have cmp : ∀ j, j < n → (ratio_Abs (canQ (q j))).bind (fun r6 => (ratio_Abs (canQ (q i))).bind fun r7 => ratio_Cmp r6 r7) = some (rcmp (rabs (q j)) (rabs (q i))) := by
    intro j hj
    have hy := h.sz j hj
    rw [ratio_Abs_ok (hy.sm (by omega)), Option.bind_some, ratio_Abs_ok (hx.sm (by omega)), Option.bind_some, rv_canQ, rv_canQ, ratio_Cmp_ok (hy.abs.sm (by omega)) (hx.abs.sm (by omega)), rv_canQ, rv_canQ]
  have key := lp_up (step := saabas_Order_s10) (fun p => ((l, ints o, (i : Int), (p : Int), a, b, c, ()), (((canQ (q i)).1.1, (canQ (q i)).1.2, (canQ (q i)).2, ()), ()))) s (r := ((l, ints o, (i : Int), ((s : Nat) : Int), a, b, c, ()), ())) (by omega) (by
    intro g p hp
    obtain ⟨h1, h2⟩ := spotP_lt (P := P) (o := o) (i := p) (by omega)
    have d0 : (p : Int) < ((ints o).length : Int) := by omega
    have d1 : (0 : Int) ≤ (p : Int) := by omega
    have hj := ho _ (List.getElem_mem h1)
    have hc := cmp _ hj
    have hy := h.sz _ hj
    rw [ratio_Abs_ok (hy.sm (by omega)), Option.bind_some, ratio_Abs_ok (hx.sm (by omega)), Option.bind_some] at hc
    have hge : rcmp (rabs (q o[p])) (rabs (q i)) ≥ 0 := by
      rw [eP] at h2
      have h2 : rabs (q i) ≤ rabs (q o[p]) := by simpa using h2
      have := rcmp_neg (p := rabs (q o[p])) (q := rabs (q i))
      have : ¬ rcmp (rabs (q o[p])) (rabs (q i)) < 0 := fun hh => by have := this.1 hh; grind
      omega
    rw [saabas_Order_s10, cnd d0, cnd2 d1 d0, Int.toNat_natCast, ints_get h1, Option.bind_some, cnd (by omega), Int.toNat_natCast, h.get _ hj, Option.bind_some, ratio_Abs_ok (hy.sm (by omega)), Option.bind_some]
    show (ratio_Abs (canQ (q i))).bind _ = _
    rw [ratio_Abs_ok (hx.sm (by omega)), Option.bind_some, hc, Option.bind_some, cnd hge, iadd1 (by omega)]
    rfl) (by
    intro g
    by_cases hs : s < o.length
    · have h3 := spotP_at (P := P) (o := o) (by omega)
      have d0 : (s : Int) < ((ints o).length : Int) := by omega
      have d1 : (0 : Int) ≤ (s : Int) := by omega
      have hj := ho _ (List.getElem_mem hs)
      have hc := cmp _ hj
      have hy := h.sz _ hj
      rw [ratio_Abs_ok (hy.sm (by omega)), Option.bind_some, ratio_Abs_ok (hx.sm (by omega)), Option.bind_some] at hc
      have hlt : ¬ rcmp (rabs (q o[s])) (rabs (q i)) ≥ 0 := by
        have h3 : P o[s] = false := by subst es; exact h3
        rw [eP] at h3
        have h3 : ¬ rabs (q i) ≤ rabs (q o[s]) := by simpa using h3
        have := (rcmp_neg (p := rabs (q o[s])) (q := rabs (q i))).2 (by grind)
        omega
      rw [saabas_Order_s10, cnd d0, cnd2 d1 d0, Int.toNat_natCast, ints_get hs, Option.bind_some, cnd (by omega), Int.toNat_natCast, h.get _ hj, Option.bind_some, ratio_Abs_ok (hy.sm (by omega)), Option.bind_some]
      show (ratio_Abs (canQ (q i))).bind _ = _
      rw [ratio_Abs_ok (hx.sm (by omega)), Option.bind_some, hc, Option.bind_some, cnd' hlt]
    · rw [saabas_Order_s10, cnd' (by omega)])
  rw [← es]
  exact key

theorem order_lp {l : List RAT} {n k : Nat} {q : Nat → Rat} (h : QL2 l n k q) : ∃ o, OrdNz q n o ∧ lp saabas_Order_s6 K0 ((l, [], l, (n : Int), 0, ()), ()) = some ((ints o, ()), ()) := by
  have hn := h.nle
  have hk := h.small
  obtain ⟨r, ⟨o, ho, rfl⟩, hlp⟩ := lp_inv (step := saabas_Order_s6) (fun i s => ∃ o, OrdNz q i o ∧ s = ((l, ints o, l, (n : Int), (i : Int), ()), ())) (fun r => ∃ o, OrdNz q n o ∧ r = ((ints o, ()), ())) n (v := ((l, [], l, (n : Int), 0, ()), ()))
    ⟨[], ⟨List.Pairwise.nil, by simp, by simp [cntF]⟩, rfl⟩ (by omega) (by
      rintro i s hi ⟨o, ho, rfl⟩
      have d0 : (i : Int) < (n : Int) := by omega
      have d1 : (0 : Int) ≤ (i : Int) := by omega
      have hx := h.sz i hi
      have hsg := ratio_Sign_ok (hx.sm (by omega))
      rw [rv_canQ] at hsg
      have hoj : ∀ j ∈ o, j < i := fun j hj => ((ho.mem j).1 hj).1
      have hol : o.length ≤ i := by rw [ho.len]; exact cntF_le _ _
      by_cases hz : q i = 0
      · refine ⟨_, ⟨o, ⟨ho.pw, fun j => ?_, ?_⟩, rfl⟩, fun g => ?_⟩
        · rw [ho.mem]
          constructor
          · rintro ⟨a, b⟩; exact ⟨by omega, b⟩
          · rintro ⟨a, b⟩
            refine ⟨?_, b⟩
            by_cases e : j = i
            · subst e; exact absurd hz b
            · omega
        · rw [cntF_succ, ho.len, hz]; simp
        · rw [saabas_Order_s6, cnd d0, cnd d1, Int.toNat_natCast, h.get i hi, Option.bind_some, hsg, Option.bind_some, cnd (rcmp_zero.2 hz), iadd1 (by omega)]
          rfl
      · obtain ⟨P, eP⟩ : ∃ P : Nat → Bool, P = fun j => decide (rabs (q i) ≤ rabs (q j)) := ⟨_, rfl⟩
        have hin := order_inner h hi (o := o) (fun j hj => by have := hoj j hj; omega) (by omega) l (n : Int) (i : Int)
        rw [← eP] at hin
        have hsp := spotP_le P o
        obtain ⟨p, ep⟩ : ∃ p, p = spotP P o := ⟨_, rfl⟩
        rw [← ep] at hin hsp
        have h1 : ∀ a, a < p → (ha : a < o.length) → rabs (q i) ≤ rabs (q o[a]) := fun a hap ha => by
          obtain ⟨_, h2⟩ := spotP_lt (P := P) (o := o) (i := a) (by omega)
          rw [eP] at h2; simpa using h2
        have h2 : (hp : p < o.length) → ¬ rabs (q i) ≤ rabs (q o[p]) := fun hp => by
          have h3 := spotP_at (P := P) (o := o) (by omega)
          have h3 : P o[p] = false := by subst ep; exact h3
          rw [eP] at h3; simpa using h3
        have lo : (ints o).length = o.length := by simp [ints]
        have i1 : iadd .i64 (p : Int) 1 = ((p + 1 : Nat) : Int) := iadd1 (by omega)
        have d2 : (0 : Int) ≤ (p : Int) := by omega
        have al : (ints o ++ [(0 : Int)]).length = o.length + 1 := by simp [ints]
        have ol := over_shift_len' (ints o) (0 : Int) (k := p) (by omega)
        have oset := over_set' (ints o) (0 : Int) (i : Int) (k := p) (by omega)
        have ei : (ints o).take p ++ (i : Int) :: (ints o).drop p = ints (o.take p ++ i :: o.drop p) := by simp [ints]
        refine ⟨((l, ints (o.take p ++ i :: o.drop p), l, (n : Int), ((i + 1 : Nat) : Int), ()), ()), ⟨_, ⟨pre_insert ho.pw hoj hsp h1 h2, fun j => ?_, ?_⟩, rfl⟩, fun g => ?_⟩
        · rw [mem_insert, ho.mem]
          constructor
          · rintro (rfl | ⟨a, b⟩)
            · exact ⟨by omega, hz⟩
            · exact ⟨by omega, b⟩
          · rintro ⟨a, b⟩
            by_cases e : j = i
            · exact .inl e
            · exact .inr ⟨by omega, b⟩
        · rw [cntF_succ, ← ho.len, decide_eq_true hz]; simp; omega
        · rw [saabas_Order_s6, cnd d0, cnd d1, Int.toNat_natCast, h.get i hi, Option.bind_some, hsg, Option.bind_some, cnd' (fun e => hz (rcmp_zero.1 e)), hin, Option.bind_some]
          dsimp only
          rw [blt (by omega), cond_true, i1, cnd2 (by omega) (by rw [al]; omega), cnd2 d2 (by rw [al]; omega), Int.toNat_natCast, Int.toNat_natCast, cnd2 d2 (by rw [ol]; omega), List.getElem?_eq_getElem (by rw [ol]; omega), Option.bind_some, oset, ei, iadd1 (by omega)]
          rfl) (by
      rintro s ⟨o, ho, rfl⟩
      exact ⟨_, ⟨o, ho, rfl⟩, fun g => by rw [saabas_Order_s6, cnd' (by omega)]⟩)
  exact ⟨o, ho, hlp⟩

theorem valsL_ql {L : List ST} {g : Nat} (h : StepsSz L g) (hg : g ≤ 64) : QL2 (valsL g L) g 30000000000 (fun f => fsum f L) where
  len := valsL_len g L
  get := fun i hi => valsL_get L hi
  sz := fun i hi => by have := fsum_sz (f := i) (i := L.length) h; rwa [List.take_of_length_le (Nat.le_refl _)] at this
  small := by decide
  nle := by omega

theorem SaabasOrders_true (m0 : MODEL) (row0 : List CELL) (hl : m0.2.length ≤ 9223372036854775807) (ht : ∀ t ∈ m0.2, t.length ≤ 9223372036854775807) (hr : row0.length ≤ 9223372036854775807) : dendronlaw12_SaabasOrders m0 row0 = some true := by
  obtain ⟨m, row, hs, ms, ml, mt, cs⟩ := Small_ok m0 row0 hl ht hr
  obtain ⟨e, h1, h2, h3, h4⟩ := fits_ok (row := row) (by omega) (fun t h => by have := mt t h; omega) ms
  rw [dendronlaw12_SaabasOrders, hs, Option.bind_some]
  dsimp only
  by_cases he : e = 0
  · subst he
    have ha : Askd m row := ⟨(h4.1 rfl).1, (h4.1 rfl).2, ms, by omega, mt, cs⟩
    have f0 := ha.good.1.1
    have f1 := ha.good.1.2.1
    have hV := Values12_ok ha
    have hz := stepsOk ha
    obtain ⟨n, hn⟩ : ∃ n, n = m.1.toNat := ⟨_, rfl⟩
    rw [← hn] at hV hz
    obtain ⟨L, eL⟩ : ∃ L, L = stepsM m row m.2.length := ⟨_, rfl⟩
    rw [← eL] at hV hz
    have hq := valsL_ql hz (by omega)
    obtain ⟨l, el⟩ : ∃ l, l = valsL n L := ⟨_, rfl⟩
    obtain ⟨q, eq⟩ : ∃ q : Nat → Rat, q = fun f => fsum f L := ⟨_, rfl⟩
    rw [← el, ← eq] at hq
    rw [← el] at hV
    obtain ⟨o, ho, hlp⟩ := order_lp hq
    have hlen := hq.len
    have hO : saabas_Order m row = some (ints o, 0) := by
      rw [saabas_Order, hV, Option.bind_some, show (!decide ((0 : Int) = 0)) = false by decide, cond_false]
      dsimp only
      rw [hlen, hlp, Option.bind_some]
    have hk := hq.small
    have lo : (ints o).length = o.length := by simp [ints]
    have hol : o.length ≤ n := by rw [ho.len]; exact cntF_le _ _
    have nle := hq.nle
    have key1 := lp_up (step := dendronlaw12_SaabasOrders_s8) (fun i => ((ints o, l, ((cntF (fun j => decide (q j ≠ 0)) i : Nat) : Int), (i : Int), ()), ())) n (r := ((ints o, l, (o.length : Int), ()), ())) (by omega) (by
      intro g i hi
      have d0 : (i : Int) < (l.length : Int) := by omega
      have d1 : (0 : Int) ≤ (i : Int) := by omega
      have hsg := ratio_Sign_ok ((hq.sz i hi).sm (by omega))
      rw [rv_canQ] at hsg
      have hc := cntF_le (fun j => decide (q j ≠ 0)) i
      rw [dendronlaw12_SaabasOrders_s8, cnd d0, cnd2 d1 d0, Int.toNat_natCast, hq.get i hi, Option.bind_some, hsg, Option.bind_some, cntF_succ]
      by_cases hz : q i = 0
      · rw [decide_eq_true (rcmp_zero.2 hz), Bool.not_true, cond_false, hz, iadd1 (by omega)]
        rfl
      · rw [decide_eq_false (fun e => hz (rcmp_zero.1 e)), Bool.not_false, cond_true, decide_eq_true hz, iadd1 (by omega), iadd1 (by omega)]
        rfl) (by
      intro g
      rw [dendronlaw12_SaabasOrders_s8, cnd' (by omega), ho.len])
    have key1 : lp dendronlaw12_SaabasOrders_s8 K0 ((ints o, l, 0, 0, ()), ()) = _ := key1
    have key2 := lp_up (step := dendronlaw12_SaabasOrders_s13) (fun i => ((ints o, l, (o.length : Int), (i : Int), ()), ())) o.length (r := .inl ((ints o, (o.length : Int), ()), ())) (by omega) (by
      intro g i hi
      have d0 : (i : Int) < ((ints o).length : Int) := by omega
      have d1 : (0 : Int) ≤ (i : Int) := by omega
      obtain ⟨m1, m2⟩ := (ho.mem _).1 (List.getElem_mem hi)
      have hx := hq.sz _ m1
      have hsg := ratio_Sign_ok (hx.sm (by omega))
      rw [rv_canQ] at hsg
      have x0 : (0 : Int) ≤ ((o[i] : Nat) : Int) := by omega
      have x1 : ((o[i] : Nat) : Int) < (l.length : Int) := by omega
      rw [dendronlaw12_SaabasOrders_s13, cnd d0, cnd2 d1 d0, Int.toNat_natCast, ints_get hi, Option.bind_some, cnd' (by omega), cnd2 d1 d0, Option.bind_some, cnd' (by omega), cnd2 d1 d0, Option.bind_some, cnd2 x0 x1, Int.toNat_natCast, hq.get _ m1, Option.bind_some, hsg, Option.bind_some, cnd' (fun e => m2 (rcmp_zero.1 e))]
      by_cases hi0 : i = 0
      · subst hi0
        rw [cnd (by rfl), iadd1 (by omega)]
        rfl
      · have i1 : isub .i64 (i : Int) 1 = ((i - 1 : Nat) : Int) := by rw [isub_i] <;> omega
        have hi1 : i - 1 < o.length := by omega
        obtain ⟨n1, n2⟩ := (ho.mem _).1 (List.getElem_mem hi1)
        have hy := hq.sz _ n1
        have y0 : (0 : Int) ≤ ((o[i - 1] : Nat) : Int) := by omega
        have y1 : ((o[i - 1] : Nat) : Int) < (l.length : Int) := by omega
        have e0 : (0 : Int) ≤ ((i - 1 : Nat) : Int) := by omega
        have e1 : ((i - 1 : Nat) : Int) < ((ints o).length : Int) := by omega
        have hp := List.pairwise_iff_getElem.1 ho.pw (i - 1) i hi1 hi (by omega)
        have hcmp := ratio_Cmp_ok (hy.abs.sm (by omega)) (hx.abs.sm (by omega))
        rw [rv_canQ, rv_canQ] at hcmp
        rw [cnd' (by omega), i1, cnd2 e0 e1, Int.toNat_natCast, ints_get hi1, Option.bind_some, cnd2 y0 y1, Int.toNat_natCast, hq.get _ n1, Option.bind_some, ratio_Abs_ok (hy.sm (by omega)), Option.bind_some, cnd2 d1 d0, Option.bind_some, cnd2 x0 x1, Int.toNat_natCast, hq.get _ m1, Option.bind_some, ratio_Abs_ok (hx.sm (by omega)), Option.bind_some, rv_canQ, rv_canQ, hcmp, Option.bind_some]
        have hnl : ¬ rcmp (rabs (q o[i - 1])) (rabs (q o[i])) < 0 := fun hh => by
          have := rcmp_neg.1 hh
          unfold pre at hp
          grind
        rw [cnd' hnl]
        by_cases hz : rcmp (rabs (q o[i - 1])) (rabs (q o[i])) = 0
        · have he := rcmp_zero.1 hz
          have hlt : o[i - 1] < o[i] := by
            unfold pre at hp
            grind
          rw [cnd hz, cnd2 e0 e1, Option.bind_some, cnd2 d1 d0, Option.bind_some, cnd' (by omega), iadd1 (by omega)]
          rfl
        · rw [cnd' hz, iadd1 (by omega)]
          rfl) (by
      intro g
      rw [dendronlaw12_SaabasOrders_s13, cnd' (by omega)])
    have key2 : lp dendronlaw12_SaabasOrders_s13 K0 ((ints o, l, (o.length : Int), 0, ()), ()) = _ := key2
    rw [hO, Option.bind_some, hV, Option.bind_some]
    dsimp only
    rw [show (!decide ((0 : Int) = 0)) = false by decide, cond_false, cond_false, key1, Option.bind_some]
    dsimp only
    rw [key2, Option.bind_some]
    dsimp only
    rw [lo, cnd rfl, law12_awake_ok]
    rfl
  · have hO : saabas_Order m row = some ([], e) := by
      rw [saabas_Order, Values12_bad h2 he, Option.bind_some]
      dsimp only
      rw [decide_eq_false he]; rfl
    rw [hO, Option.bind_some, Values12_bad h2 he, Option.bind_some]
    dsimp only
    rw [decide_eq_true rfl, Bool.not_true, cond_false, decide_eq_false he, Bool.not_false, cond_true, cond_true, cnd (by simp), law12_awake_ok]
    rfl
end Go.Proofs.YtongppphgbkckaaDoor.X


/- Depend: DependCovers, DependRests. -/
namespace Go.Proofs.YtongppphgbkckaaDoor.X
open Go
set_option linter.unusedVariables false
set_option linter.unusedSimpArgs false

/-- What is said hangs on what is known alone. -/
theorem expT_rows {t : List NODE} {f : Int} {row row' : List CELL} {set : Nat} {T : TR} (h : Is t f T) (hag : ∀ j : Nat, (j : Int) < f → set.testBit j = true → cellAt row j = cellAt row' j) : expT t row set T = expT t row' set T := by
  induction T with
  | leaf i => rfl
  | split i l r ihl ihr =>
    obtain ⟨h1, h2, f0, f1, h3, h4, h5, h6⟩ := h
    simp only [expT, ihl h5, ihr h6]
    cases hb : set.testBit (nFeat (nodeAt t i)).toNat with
    | false => rfl
    | true =>
      have hc := hag _ (by rw [nodeAt_get h1]; omega) hb
      have : goL t row i = goL t row' i := by rw [goL, goL, hc]
      rw [this]
theorem sayM_rows {m : MODEL} {row row' : List CELL} {set : Nat} (h : Good m) (hag : ∀ j : Nat, (j : Int) < m.1 → set.testBit j = true → cellAt row j = cellAt row' j) : sayM m row set = sayM m row' set :=
  rsum_congr fun i hi => expT_rows (h.isAt hi) hag

abbrev zC : CELL := (false, ((false, []), []))
/-- A row in which one entry alone is said. -/
def oneRow (m : MODEL) (k : Nat) (z : CELL) : List CELL := (List.replicate m.1.toNat zC).set k z
theorem oneRow_at {m : MODEL} {k : Nat} {z : CELL} (h : (k : Int) < m.1) : cellAt (oneRow m k z) k = z := by
  have : k < m.1.toNat := by omega
  simp [cellAt, oneRow, this]
theorem askd_one {m : MODEL} (hg : Good m) (ms : MSz m 4) (ml : m.2.length ≤ 6) (mt : ∀ t ∈ m.2, t.length ≤ 15) {k : Nat} {z : CELL} (hz : SzR z.2 9) : Askd m (oneRow m k z) := by
  have f0 := hg.1.1
  refine ⟨hg, by simp [oneRow]; omega, ms, ml, mt, ?_⟩
  intro c hc
  rcases List.mem_or_eq_of_mem_set hc with hc | rfl
  · have := (List.mem_replicate.1 hc).2
    subst this
    exact ⟨Nat.zero_le _, Nat.zero_le _⟩
  · exact hz
/-- Why a feature can't be asked. -/
def featE (b : Bool) (m : MODEL) (i : Int) : Int := if b then (if i < 0 ∨ i ≥ m.1 then 8 else 0) else 1
theorem feature_ok {m : MODEL} {b : Bool} (hv : valid_Ok m = some b) (i : Int) : depend_feature m i = some (featE b m i) := by
  rw [depend_feature, hv, Option.bind_some]
  cases b with
  | false => rfl
  | true =>
    rw [Bool.not_true, cond_false, featE, if_pos rfl]
    by_cases h1 : i < 0
    · rw [cnd h1, if_pos (.inl h1)]
    · by_cases h2 : i ≥ m.1
      · rw [cnd' h1, cnd h2, if_pos (.inr h2)]
      · rw [cnd' h1, cnd' h2, if_neg (by omega)]
theorem shl_one {k : Nat} (h : k < 64) : shlV .u64 1 (k : Int) = ((2 ^ k : Nat) : Int) := by
  have hp : 2 ^ k < 2 ^ 64 := Nat.pow_lt_pow_right (by decide) h
  have := shl_nat (x := 1) (s := k) (by omega) (by omega)
  rw [Nat.one_mul] at this
  exact this
theorem pow_lt64 {k : Nat} (h : k < 64) : 2 ^ k < 18446744073709551616 := by
  have hp : 2 ^ k < 2 ^ 64 := Nat.pow_lt_pow_right (by decide) h
  exact hp
theorem Cover_ok {m : MODEL} (hv : valid_Ok m = some true) (hg : Good m) (ms : MSz m 4) (ml : m.2.length ≤ 6) (mt : ∀ t ∈ m.2, t.length ≤ 15) {k : Nat} (hk : (k : Int) < m.1) {z : CELL} (hz : SzR z.2 9) :
    depend_Cover m (k : Int) z = some (canQ (sayM m (oneRow m k z) (2 ^ k)), 0) := by
  have f0 := hg.1.1
  have f1 := hg.1.2.1
  have hf := feature_ok hv (k : Int)
  rw [featE, if_pos rfl, if_neg (by omega)] at hf
  have ha := askd_one hg ms ml mt (k := k) hz
  have hs := shl_one (k := k) (by omega)
  have hvv := eValue_ok ha (set := 2 ^ k) (pow_lt64 (by omega))
  obtain ⟨n, hn⟩ : ∃ n, n = 2 ^ k := ⟨_, rfl⟩
  rw [← hn] at hs hvv ⊢
  have c1 : (decide (m.1 = m.1) && decide (0 ≤ m.1) && decide (((64 : Nat) : Int) * m.1 ≤ 281474976710656) && decide (m.1 ≤ 9223372036854775807)) = true := by
    rw [decide_eq_true rfl, decide_eq_true f0, decide_eq_true (by omega), decide_eq_true (by omega)]; rfl
  have l1 : (List.replicate m.1.toNat zC).length = m.1.toNat := List.length_replicate ..
  rw [depend_Cover, hf, Option.bind_some, show (!decide ((0 : Int) = 0)) = false by decide, cond_false, c1, cond_true, cnd2 (by omega) (by rw [l1]; omega), Int.toNat_natCast, List.getElem?_eq_getElem (by rw [l1]; omega), Option.bind_some, cnd' (by omega), hs]
  show (expect_Value m (oneRow m k z) (n : Int)).bind _ = _
  rw [hvv, Option.bind_some]
theorem power_ok {k : Nat} (h : k < 64) : dendronlaw13_power (k : Int) = some ((2 ^ k : Nat) : Int) := by
  have key := lp_up (step := dendronlaw13_power_s3) (fun i => (((k : Int), ((2 ^ i : Nat) : Int), (i : Int), ()), ())) k (r := ((((2 ^ k : Nat) : Int), ()), ())) (by omega) (by
    intro g i hi
    have d0 : (i : Int) < (k : Int) := by omega
    have hp := pow_lt64 (k := i + 1) (by omega)
    have e : 2 ^ (i + 1) = 2 * 2 ^ i := by rw [Nat.pow_succ]; omega
    obtain ⟨x, hx⟩ : ∃ x, x = 2 ^ i := ⟨_, rfl⟩
    rw [e, ← hx] at hp
    have em : imul .u64 2 (x : Int) = ((2 * x : Nat) : Int) := by rw [imul_u] <;> omega
    rw [dendronlaw13_power_s3, cnd d0, e, ← hx, em, iadd1 (by omega)]
    rfl) (by
    intro g
    rw [dendronlaw13_power_s3, cnd' (by omega)])
  have key : lp dendronlaw13_power_s3 K0 (((k : Int), 1, 0, ()), ()) = _ := key
  rw [dendronlaw13_power, key, Option.bind_some]

theorem DependRests_true (m0 : MODEL) (row0 : List CELL) (i : Int) (hl : m0.2.length ≤ 9223372036854775807) (ht : ∀ t ∈ m0.2, t.length ≤ 9223372036854775807) (hr : row0.length ≤ 9223372036854775807) : dendronlaw13_DependRests m0 row0 i = some true := by
  obtain ⟨m, row, hs, ms, ml, mt, cs⟩ := Small_ok m0 row0 hl ht hr
  obtain ⟨e, h1, h2, h3, h4⟩ := fits_ok (row := row) (by omega) (fun t h => by have := mt t h; omega) ms
  rw [dendronlaw13_DependRests, hs, Option.bind_some]
  dsimp only
  rw [h3, Option.bind_some]
  by_cases he : e = 0
  · subst he
    obtain ⟨hg, hlen⟩ := h4.1 rfl
    have ha : Askd m row := ⟨hg, hlen, ms, by omega, mt, cs⟩
    have f1 := hg.1.2.1
    obtain ⟨b, hv, hb⟩ := Ok_ok (m := m) (k := 4) (by omega) (fun t ht => by have := mt t ht; omega) ms (by decide)
    have hbt : b = true := hb.2 hg
    subst hbt
    rw [show (!decide ((0 : Int) = 0)) = false by decide, cond_false]
    by_cases i0 : i < 0
    · rw [cnd i0, law13_awake_ok]; rfl
    · by_cases i1 : i ≥ (row.length : Int)
      · rw [cnd' i0, cnd i1, law13_awake_ok]; rfl
      · obtain ⟨k, rfl⟩ := Int.eq_ofNat_of_zero_le (Int.not_lt.1 i0)
        have hk : k < row.length := by omega
        have hC := Cover_ok hv hg ms (by omega) mt (k := k) (z := row[k]) (by omega) (cs _ (List.getElem_mem hk))
        have hw := eValue_ok ha (set := 2 ^ k) (pow_lt64 (by omega))
        have hsz : SzQ (sayM m row (2 ^ k)) (1 + m.2.length * 1048577) := sayM_sz hg ms mt (Nat.le_refl _)
        have hp := power_ok (k := k) (by omega)
        have hsame := ratio_Same_ok (hsz.sm (by omega)) (hsz.sm (by omega))
        have hagree : sayM m (oneRow m k row[k]) (2 ^ k) = sayM m row (2 ^ k) := sayM_rows hg fun j hj hb => by
          rw [Nat.testBit_two_pow] at hb
          have : k = j := by simpa using hb
          subst this
          rw [oneRow_at hj, cellAt_get hk]
        rw [hagree] at hC
        rw [cnd' i0, cnd' i1, cnd2 (by omega) (by omega), Int.toNat_natCast, List.getElem?_eq_getElem hk, Option.bind_some, hC, Option.bind_some, hp, Option.bind_some, hw, Option.bind_some]
        dsimp only
        rw [cnd rfl, cnd rfl, hsame, Option.bind_some, decide_eq_true rfl, cond_true, law13_awake_ok]
        rfl
  · rw [decide_eq_false he, Bool.not_false, cond_true, law13_awake_ok]
    rfl
end Go.Proofs.YtongppphgbkckaaDoor.X

