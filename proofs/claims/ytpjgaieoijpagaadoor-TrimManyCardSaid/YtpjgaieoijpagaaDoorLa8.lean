/- Lemmas over the printed texts: trees: one parent each, reached from the root. -/
import Derived.Test.YtpjgaieoijpagaaDoorLa7

namespace Go.Proofs.YtpjgaieoijpagaaDoor.X
open Go
set_option linter.unusedVariables false
set_option linter.unusedSimpArgs false

/-- The children of a node. -/
def kids (t : List NODE) (i : Nat) : List Nat :=
  match t[i]? with
  | some n => if nLeaf n then [] else [(nL n).toNat, (nR n).toNat]
  | none => []
theorem kids_leaf {t : List NODE} {i : Nat} (h : i < t.length) (hl : nLeaf t[i] = true) : kids t i = [] := by
  have hl' : t[i].1 = true := hl
  simp [kids, h, hl']
theorem kids_split {t : List NODE} {i : Nat} (h : i < t.length) (hl : nLeaf t[i] = false) : kids t i = [(nL t[i]).toNat, (nR t[i]).toNat] := by
  have hl' : t[i].1 = false := hl
  simp [kids, h, hl']
/-- How many of the first so many nodes' children are a node. -/
def cnt (t : List NODE) (i j : Nat) : Nat := ((List.range i).flatMap (kids t)).count j
theorem cnt_zero (t : List NODE) (j : Nat) : cnt t 0 j = 0 := by simp [cnt]
theorem cnt_succ (t : List NODE) (i j : Nat) : cnt t (i + 1) j = cnt t i j + (kids t i).count j := by
  simp [cnt, List.range_succ, List.flatMap_append]
theorem cnt_le (t : List NODE) (i j : Nat) : cnt t i j ≤ 2 * i := by
  induction i with
  | zero => simp [cnt_zero]
  | succ i ih =>
    rw [cnt_succ]
    have h1 : (kids t i).count j ≤ (kids t i).length := List.count_le_length
    have h2 : (kids t i).length ≤ 2 := by
      unfold kids
      split
      · split <;> simp
      · simp
    omega
/-- Each node but the root has one parent; what comes behind is lower. -/
def Ranked (t : List NODE) : Prop := ∃ rk : Nat → Nat, ∀ i, i < t.length → rk i ≤ t.length ∧ ∀ c ∈ kids t i, rk c < rk i
def ShapeP (t : List NODE) : Prop := (∀ j, 0 < j → j < t.length → cnt t t.length j = 1) ∧ Ranked t

theorem nodup_len : ∀ {n : Nat} {V : List Nat}, V.Nodup → (∀ x ∈ V, x < n) → V.length ≤ n
  | 0, V, _, h => by
    cases V with
    | nil => simp
    | cons x V => have := h x List.mem_cons_self; omega
  | n + 1, V, hnd, h => by
    by_cases hm : n ∈ V
    · have h1 : (V.erase n).Nodup := hnd.sublist List.erase_sublist
      have h2 : ∀ x ∈ V.erase n, x < n := by
        intro x hx
        have := (List.Nodup.mem_erase_iff hnd).1 hx
        have := h x this.2
        omega
      have h3 := nodup_len h1 h2
      have h4 := List.length_erase_of_mem hm
      omega
    · have := nodup_len hnd (n := n) (fun x hx => by
        have := h x hx
        have : x ≠ n := fun e => hm (e ▸ hx)
        omega)
      omega

section
variable {t : List NODE} {f : Int}
theorem kids_lt (hr : RangesP t f) {i c : Nat} (hi : i < t.length) (hc : c ∈ kids t i) : 0 < c ∧ c < t.length := by
  cases hl : nLeaf t[i] with
  | true => rw [kids_leaf hi hl] at hc; cases hc
  | false =>
    obtain ⟨_, _, h1, h2, h3, h4⟩ := hr i hi hl
    rw [kids_split hi hl] at hc
    simp at hc
    rcases hc with rfl | rfl <;> omega
theorem cnt_split (t : List NODE) (j : Nat) {a n : Nat} (ha : a < n) : (kids t a).count j ≤ cnt t n j := by
  induction n with
  | zero => omega
  | succ n ih =>
    rw [cnt_succ]
    by_cases e : a = n
    · subst e; omega
    · have := ih (by omega); omega
theorem cnt_two (t : List NODE) (j : Nat) {a b n : Nat} (hab : a < b) (hb : b < n) : (kids t a).count j + (kids t b).count j ≤ cnt t n j := by
  induction n with
  | zero => omega
  | succ n ih =>
    rw [cnt_succ]
    by_cases e : b = n
    · subst e
      have := cnt_split t j hab
      omega
    · have := ih (by omega); omega
theorem parent_one (hc : ∀ j, 0 < j → j < t.length → cnt t t.length j = 1) (hr : RangesP t f) {a b j : Nat} (ha : a < t.length) (hb : b < t.length) (h1 : j ∈ kids t a) (h2 : j ∈ kids t b) : a = b := by
  obtain ⟨j0, jl⟩ := kids_lt hr ha h1
  have c1 := List.count_pos_iff.2 h1
  have c2 := List.count_pos_iff.2 h2
  have := hc j j0 jl
  rcases Nat.lt_trichotomy a b with h | h | h
  · have := cnt_two t j h hb; omega
  · exact h
  · have := cnt_two t j h ha; omega
theorem kids_nodup (hc : ∀ j, 0 < j → j < t.length → cnt t t.length j = 1) (hr : RangesP t f) {a : Nat} (ha : a < t.length) : (kids t a).Nodup := by
  rw [List.nodup_iff_count]
  intro j
  by_cases hj : j ∈ kids t a
  · obtain ⟨j0, jl⟩ := kids_lt hr ha hj
    have h1 := cnt_split t j ha
    have h2 := hc j j0 jl
    exact Nat.le_trans h1 (Nat.le_of_eq h2)
  · rw [List.count_eq_zero_of_not_mem hj]; omega
theorem has_parent (hc : ∀ j, 0 < j → j < t.length → cnt t t.length j = 1) {j : Nat} (h0 : 0 < j) (hj : j < t.length) : ∃ p, p < t.length ∧ j ∈ kids t p := by
  have h1 := hc j h0 hj
  have h2 : j ∈ (List.range t.length).flatMap (kids t) := List.count_pos_iff.1 (by rw [← cnt, h1]; omega)
  obtain ⟨p, hp, hm⟩ := List.mem_flatMap.1 h2
  exact ⟨p, by simpa using hp, hm⟩
end

/-- What the search has: visited, waiting. -/
structure Srch (t : List NODE) (V S : List Nat) : Prop where
  nd : (V ++ S).Nodup
  lt : ∀ x ∈ V ++ S, x < t.length
  par : ∀ c ∈ V ++ S, c ≠ 0 → ∃ p ∈ V, c ∈ kids t p
  kid : ∀ p ∈ V, ∀ c ∈ kids t p, c ∈ V ++ S
  root : 0 ∈ V ++ S
  ord : V.Pairwise fun a b => a ∉ kids t b
  self : ∀ x ∈ V, x ∉ kids t x

theorem Srch.init {t : List NODE} (h : 0 < t.length) : Srch t [] [0] where
  nd := by simp
  lt := by simpa using h
  par := by simp
  kid := by simp
  root := by simp
  ord := List.Pairwise.nil
  self := by simp

theorem Srch.step {t : List NODE} {f : Int} (hc : ∀ j, 0 < j → j < t.length → cnt t t.length j = 1) (hr : RangesP t f) {V S : List Nat} {x : Nat} (h : Srch t V (S ++ [x])) : Srch t (V ++ [x]) (S ++ kids t x) := by
  have hxlt : x < t.length := h.lt x (by simp)
  have hnd := h.nd
  rw [← List.append_assoc, List.nodup_append] at hnd
  obtain ⟨n1, n2, n3⟩ := hnd
  have hxVS : x ∉ V ++ S := fun hx => n3 x hx x (by simp) rfl
  -- new children are new
  have hnew : ∀ c ∈ kids t x, c ∉ V ++ (S ++ [x]) := by
    intro c hcx hmem
    obtain ⟨c0, cl⟩ := kids_lt hr hxlt hcx
    obtain ⟨p, hp, hcp⟩ := h.par c hmem (by omega)
    have := parent_one hc hr (h.lt p (List.mem_append_left _ hp)) hxlt hcp hcx
    subst this
    exact hxVS (List.mem_append_left _ hp)
  have hperm : ((V ++ [x]) ++ (S ++ kids t x)).Perm ((V ++ (S ++ [x])) ++ kids t x) := by
    have e1 : (V ++ [x]) ++ (S ++ kids t x) = V ++ ([x] ++ S) ++ kids t x := by simp
    have e2 : (V ++ (S ++ [x])) ++ kids t x = V ++ (S ++ [x]) ++ kids t x := rfl
    rw [e1, e2]
    exact List.Perm.append_right _ (List.Perm.append_left _ List.perm_append_comm)
  have hmem : ∀ y, y ∈ (V ++ [x]) ++ (S ++ kids t x) ↔ y ∈ V ++ (S ++ [x]) ∨ y ∈ kids t x := by
    intro y; rw [hperm.mem_iff, List.mem_append]
  refine ⟨?_, ?_, ?_, ?_, ?_, ?_, ?_⟩
  · rw [hperm.nodup_iff, List.nodup_append]
    exact ⟨h.nd, kids_nodup hc hr hxlt, fun a ha b hb e => hnew b hb (e ▸ ha)⟩
  · intro y hy
    rcases (hmem y).1 hy with hy | hy
    · exact h.lt y hy
    · exact (kids_lt hr hxlt hy).2
  · intro c hcm hc0
    rcases (hmem c).1 hcm with hy | hy
    · obtain ⟨p, hp, hcp⟩ := h.par c hy hc0
      exact ⟨p, List.mem_append_left _ hp, hcp⟩
    · exact ⟨x, by simp, hy⟩
  · intro p hp c hcp
    rw [hmem]
    rcases List.mem_append.1 hp with hp | hp
    · exact .inl (h.kid p hp c hcp)
    · simp at hp; subst hp; exact .inr hcp
  · rw [hmem]; exact .inl h.root
  · rw [List.pairwise_append]
    refine ⟨h.ord, by simp, fun a ha b hb => ?_⟩
    simp at hb; subst hb
    intro hak
    exact hnew a hak (List.mem_append_left _ ha)
  · intro y hy
    rcases List.mem_append.1 hy with hy | hy
    · exact h.self y hy
    · simp at hy; subst hy
      intro hk
      exact hnew y hk (by simp)

theorem Srch.ranked {t : List NODE} {V : List Nat} (h : Srch t V []) (hall : ∀ i, i < t.length → i ∈ V) : Ranked t := by
  have hnd : V.Nodup := by simpa using h.nd
  have hlen : V.length ≤ t.length := nodup_len hnd (fun x hx => h.lt x (by simpa using hx))
  refine ⟨fun i => V.length - V.idxOf i, fun i hi => ⟨by show V.length - V.idxOf i ≤ t.length; omega, fun c hc => ?_⟩⟩
  have hiV := hall i hi
  have hcV : c ∈ V := by simpa using h.kid i hiV c hc
  have h1 : V.idxOf i < V.length := List.idxOf_lt_length_iff.2 hiV
  have h2 : V.idxOf c < V.length := List.idxOf_lt_length_iff.2 hcV
  have g1 : V[V.idxOf i] = i := List.getElem_idxOf h1
  have g2 : V[V.idxOf c] = c := List.getElem_idxOf h2
  have hne : ¬ V.idxOf c ≤ V.idxOf i := by
    intro hle
    by_cases e : V.idxOf c = V.idxOf i
    · have : c = i := by rw [← g1, ← g2]; simp [e]
      subst this
      exact h.self c hiV hc
    · have := List.pairwise_iff_getElem.1 h.ord _ _ h2 h1 (by omega)
      rw [g1, g2] at this
      exact this hc
  show V.length - V.idxOf c < V.length - V.idxOf i
  omega
theorem Srch.all {t : List NODE} {V : List Nat} (h : Srch t V []) (hc : ∀ j, 0 < j → j < t.length → cnt t t.length j = 1) (hrk : Ranked t) : ∀ i, i < t.length → i ∈ V := by
  obtain ⟨rk, hrk⟩ := hrk
  have key : ∀ (d i : Nat), i < t.length → t.length - rk i ≤ d → i ∈ V := by
    intro d
    induction d with
    | zero =>
      intro i hi hd
      by_cases h0 : i = 0
      · subst h0; simpa using h.root
      · obtain ⟨p, hp, hm⟩ := has_parent hc (by omega) hi
        have h1 := (hrk p hp).1
        have h2 := (hrk p hp).2 i hm
        omega
    | succ d ih =>
      intro i hi hd
      by_cases h0 : i = 0
      · subst h0; simpa using h.root
      · obtain ⟨p, hp, hm⟩ := has_parent hc (by omega) hi
        have h1 := (hrk p hp).1
        have h2 := (hrk p hp).2 i hm
        have := ih p hp (by omega)
        simpa using h.kid p this i hm
  exact fun i hi => key _ i hi (Nat.le_refl _)

def cntL (t : List NODE) (i : Nat) : List Int := (List.range t.length).map fun j => ((cnt t i j : Nat) : Int)
@[simp] theorem cntL_len (t : List NODE) (i : Nat) : (cntL t i).length = t.length := by simp [cntL]
theorem cntL_get {t : List NODE} {i j : Nat} (h : j < t.length) : (cntL t i)[j]? = some ((cnt t i j : Nat) : Int) := by simp [cntL, h]
theorem cntL_step {t : List NODE} {i a b : Nat} (ha : a < t.length) (hb : b < t.length) (hk : kids t i = [a, b]) :
    ((cntL t i).set a (((cnt t i a : Nat) : Int) + 1))[b]? = some ((cnt t i b + (if a = b then 1 else 0) : Nat) : Int) ∧
    ((cntL t i).set a (((cnt t i a : Nat) : Int) + 1)).set b (((cnt t i b + (if a = b then 1 else 0) : Nat) : Int) + 1) = cntL t (i + 1) := by
  constructor
  · rw [List.getElem?_set]
    by_cases e : a = b
    · subst e; simp [ha]
    · rw [if_neg e, cntL_get hb]; simp [e]
  · apply List.ext_getElem?
    intro j
    by_cases hj : j < t.length
    · rw [cntL_get hj, cnt_succ, hk, List.getElem?_set, List.getElem?_set]
      by_cases e1 : b = j
      · subst e1
        by_cases e2 : a = b
        · subst e2; simp [ha]; omega
        · simp [hb, e2, List.count_cons]
      · by_cases e2 : a = j
        · subst e2; simp [ha, e1, List.count_cons]
        · rw [if_neg e1, if_neg e2, cntL_get hj]; simp [List.count_cons, e1, e2]
    · rw [List.getElem?_eq_none (by simp; omega), List.getElem?_eq_none (by simp; omega)]

theorem shape_count {t : List NODE} {f : Int} (hl : t.length < 4294967296) (hr : RangesP t f) :
    lp valid_shape_s3 K0 ((t, List.replicate t.length 0, t, ((t.length : Nat) : Int), 0, ()), ()) = some ((t, cntL t t.length, ()), ()) := by
  have e0 : cntL t 0 = List.replicate t.length 0 := by simp [cntL, cnt_zero, List.map_const']
  have := lp_up (step := valid_shape_s3) (fun i => ((t, cntL t i, t, ((t.length : Nat) : Int), (i : Int), ()), ())) t.length (r := ((t, cntL t t.length, ()), ())) (by omega) (by
    intro g i hi
    have d0 : (i : Int) < ((t.length : Nat) : Int) := by omega
    have d1 : (0 : Int) ≤ (i : Int) := by omega
    cases hleaf : nLeaf t[i] with
    | true =>
      have : cntL t (i + 1) = cntL t i := by
        unfold cntL
        congr 1
        funext j
        rw [cnt_succ, kids_leaf hi hleaf]; simp
      rw [valid_shape_s3, cnd d0, cnd d1, Int.toNat_natCast, List.getElem?_eq_getElem hi, Option.bind_some, show t[i].1 = true from hleaf, iadd1 (by omega), this]
      rfl
    | false =>
      obtain ⟨r1, r2, r3, r4, r5, r6⟩ := hr i hi hleaf
      have hk := kids_split hi hleaf
      have l1 : (nL t[i]).toNat < t.length := by omega
      have l2 : (nR t[i]).toNat < t.length := by omega
      have c1 : (0 : Int) ≤ nL t[i] := by omega
      have c2 : (0 : Int) ≤ nR t[i] := by omega
      have c3 : nL t[i] < ((cntL t i).length : Int) := by rw [cntL_len]; omega
      obtain ⟨s1, s2⟩ := cntL_step l1 l2 hk
      have b1 := cnt_le t i (nL t[i]).toNat
      have b2 := cnt_le t i (nR t[i]).toNat
      have e1 : iadd .i64 ((cnt t i (nL t[i]).toNat : Nat) : Int) 1 = ((cnt t i (nL t[i]).toNat : Nat) : Int) + 1 := iadd1 (by omega)
      have e2 : iadd .i64 ((cnt t i (nR t[i]).toNat + (if (nL t[i]).toNat = (nR t[i]).toNat then 1 else 0) : Nat) : Int) 1 = ((cnt t i (nR t[i]).toNat + (if (nL t[i]).toNat = (nR t[i]).toNat then 1 else 0) : Nat) : Int) + 1 := iadd1 (by split <;> omega)
      have c4 : nR t[i] < (((cntL t i).set (nL t[i]).toNat (((cnt t i (nL t[i]).toNat : Nat) : Int) + 1)).length : Int) := by rw [List.length_set, cntL_len]; omega
      rw [valid_shape_s3, cnd d0, cnd d1, Int.toNat_natCast, List.getElem?_eq_getElem hi, Option.bind_some, show t[i].1 = false from hleaf, Bool.not_false, cond_true, cnd2 c1 c3, cntL_get l1, Option.bind_some, cnd2 c1 c3, Option.bind_some, e1, cnd2 c2 c4, s1, Option.bind_some, cnd2 c2 c4, Option.bind_some, e2, s2, iadd1 (by omega)]
      rfl) (by
    intro g
    rw [valid_shape_s3, cnd' (by omega)])
  rw [← e0]
  exact this

theorem shape_search {t : List NODE} {f : Int} (hl : t.length < 4294967296) (h0 : 0 < t.length) (hr : RangesP t f) (hc : ∀ j, 0 < j → j < t.length → cnt t t.length j = 1) :
    ∃ V, Srch t V [] ∧ lp valid_shape_s17 K0 ((t, List.replicate t.length false, [0], ()), ()) = some ((usedOf t.length V, ()), ()) := by
  obtain ⟨r, ⟨V, hV, rfl⟩, hlp⟩ := lp_wf (step := valid_shape_s17) (fun s => ∃ V S : List Nat, Srch t V S ∧ s = ((t, usedOf t.length V, ints S, ()), ())) (fun s => t.length + 1 - (s.1.2.1.filter id).length)
    (fun r => ∃ V, Srch t V [] ∧ r = ((usedOf t.length V, ()), ())) (v := ((t, List.replicate t.length false, [0], ()), ()))
    ⟨[], [0], Srch.init h0, by simp [usedOf, ints, List.map_const']⟩ (by simp; omega) (by
      rintro s ⟨V, S, hS, rfl⟩
      rcases List.eq_nil_or_concat S with rfl | ⟨S', x, hSx⟩
      · exact .inl ⟨_, ⟨V, hS, rfl⟩, fun g => by rw [valid_shape_s17, cnd' (by simp [ints])]⟩
      · rw [List.concat_eq_append] at hSx
        subst hSx
        have hnd := hS.nd
        have hVl : (V ++ (S' ++ [x])).length ≤ t.length := nodup_len hnd hS.lt
        have hSl : S'.length + 1 ≤ t.length := by simp at hVl; omega
        have hxlt : x < t.length := hS.lt x (by simp)
        have hst := Srch.step hc hr hS
        have hxV : x ∉ V := by
          intro hx
          rw [List.nodup_append] at hnd
          exact hnd.2.2 x hx x (by simp) rfl
        have hcount : ∀ U : List Nat, U.Nodup → (∀ y ∈ U, y < t.length) → ((usedOf t.length U).filter id).length = U.length := by
          intro U hU hlt
          have e1 : ((usedOf t.length U).filter id).length = ((List.range t.length).filter fun j => decide (j ∈ U)).length := by
            unfold usedOf
            rw [List.filter_map, List.length_map]; rfl
          rw [e1]
          refine List.Perm.length_eq ?_
          rw [List.perm_iff_count]
          intro a
          have n1 : ((List.range t.length).filter fun j => decide (j ∈ U)).Nodup := List.Nodup.sublist List.filter_sublist List.nodup_range
          have m1 : a ∈ ((List.range t.length).filter fun j => decide (j ∈ U)) ↔ a ∈ U := by
            simp; exact hlt a
          by_cases ha : a ∈ U
          · rw [List.Nodup.count hU, if_pos ha, List.Nodup.count n1, if_pos (m1.2 ha)]
          · rw [List.count_eq_zero_of_not_mem ha, List.count_eq_zero_of_not_mem (fun h => ha (m1.1 h))]
        have hVnd : V.Nodup := (List.nodup_append.1 hnd).1
        have hm1 := hcount V hVnd (fun y hy => hS.lt y (List.mem_append_left _ hy))
        have hVx : (V ++ [x]).Nodup := (List.nodup_append.1 hst.nd).1
        have hm2 := hcount (V ++ [x]) hVx (fun y hy => hst.lt y (List.mem_append_left _ hy))
        refine .inr ⟨_, ⟨V ++ [x], S' ++ kids t x, hst, rfl⟩, ?_, fun g => ?_⟩
        · show t.length + 1 - ((usedOf t.length (V ++ [x])).filter id).length < t.length + 1 - ((usedOf t.length V).filter id).length
          rw [hm1, hm2]
          simp at hVl ⊢; omega
        · have hlen : (ints (S' ++ [x])).length = S'.length + 1 := by simp
          have e1 : isub .i64 ((S'.length + 1 : Nat) : Int) 1 = ((S'.length : Nat) : Int) := by rw [isub_i] <;> omega
          have c0 : ((S'.length + 1 : Nat) : Int) > 0 := by omega
          have c1 : (0 : Int) ≤ ((S'.length : Nat) : Int) := by omega
          have c2 : ((S'.length : Nat) : Int) < ((S'.length + 1 : Nat) : Int) := by omega
          have g1 : (ints (S' ++ [x]))[S'.length]? = some ((x : Nat) : Int) := by simp [ints]
          have c3 : (decide ((0 : Int) ≤ ((S'.length : Nat) : Int)) && decide (((S'.length : Nat) : Int) ≤ ((S'.length : Nat) : Int)) && decide (((S'.length : Nat) : Int) ≤ ((S'.length + 1 : Nat) : Int))) = true := by
            rw [decide_eq_true c1, decide_eq_true (Int.le_refl _), decide_eq_true (Int.le_of_lt c2)]; rfl
          have c4 : (0 : Int) ≤ ((x : Nat) : Int) := by omega
          have c5 : ((x : Nat) : Int) < ((usedOf t.length V).length : Int) := by simp; omega
          have e2 : (((S'.length : Nat) : Int) - 0).toNat = S'.length := by omega
          have e3 : (ints (S' ++ [x])).take S'.length = ints S' := by simp [ints]
          rw [valid_shape_s17, hlen, cnd c0, e1, cnd2 c1 c2, Int.toNat_natCast, g1, Option.bind_some, c3, cond_true, cnd2 c4 c5, Int.toNat_natCast, usedOf_get hxlt, Option.bind_some, cnd c4, List.getElem?_eq_getElem hxlt, Option.bind_some, usedOf_set hxlt, e2, e3]
          cases hleaf : nLeaf t[x] with
          | true =>
            rw [show t[x].1 = true from hleaf, kids_leaf hxlt hleaf, List.append_nil]
            rfl
          | false =>
            obtain ⟨r1, r2, r3, r4, r5, r6⟩ := hr x hxlt hleaf
            have q1 : (((nL t[x]).toNat : Nat) : Int) = nL t[x] := by omega
            have q2 : (((nR t[x]).toNat : Nat) : Int) = nR t[x] := by omega
            have e4 : ints (S' ++ kids t x) = ints S' ++ [nL t[x], nR t[x]] := by
              rw [kids_split hxlt hleaf]
              simp only [ints, List.map_append, List.map_cons, List.map_nil, q1, q2]
            have hb8 : ((ints S').length + 2) * 8 ≤ 140737488355328 := by rw [ints_len]; omega
            rw [show t[x].1 = false from hleaf, blt hb8, cond_true, Bool.not_false, cond_true, e4])
  exact ⟨V, hV, hlp⟩

theorem shape_ok {t : List NODE} {f : Int} (hl : t.length < 4294967296) (h0 : 0 < t.length) (hr : RangesP t f) : ∃ a e, valid_shape t = some (a, e) ∧ (e = 0 ↔ ShapeP t) := by
  have hcount := shape_count hl hr
  have gd : (decide ((t.length : Int) = (t.length : Int)) && decide (0 ≤ (t.length : Int)) && decide (((8 : Nat) : Int) * (t.length : Int) ≤ 281474976710656) && decide ((t.length : Int) ≤ 9223372036854775807)) = true := by
    have h1 : (0 : Int) ≤ (t.length : Int) := by omega
    have h2 : ((8 : Nat) : Int) * (t.length : Int) ≤ 281474976710656 := by omega
    have h3 : (t.length : Int) ≤ 9223372036854775807 := by omega
    rw [decide_eq_true h1, decide_eq_true h2, decide_eq_true h3, decide_eq_true rfl]; rfl
  have gd1 : (decide ((t.length : Int) = (t.length : Int)) && decide (0 ≤ (t.length : Int)) && decide (((1 : Nat) : Int) * (t.length : Int) ≤ 281474976710656) && decide ((t.length : Int) ≤ 9223372036854775807)) = true := by
    have h1 : (0 : Int) ≤ (t.length : Int) := by omega
    have h2 : ((1 : Nat) : Int) * (t.length : Int) ≤ 281474976710656 := by omega
    have h3 : (t.length : Int) ≤ 9223372036854775807 := by omega
    rw [decide_eq_true h1, decide_eq_true h2, decide_eq_true h3, decide_eq_true rfl]; rfl
  rw [valid_shape, gd, cond_true, Int.toNat_natCast, hcount, Option.bind_some, cntL_len]
  rcases lp_all (step := valid_shape_s10) (fun i => ((t, cntL t t.length, ((t.length : Nat) : Int), (i : Int), ()), ())) t.length (fun i => i = 0 ∨ cnt t t.length i = 1) (fun i => .inr (((i : Int), 11, ()), ())) (.inl ((t, ()), ())) (by omega) (by
      intro i hi
      have d0 : (i : Int) < ((t.length : Nat) : Int) := by omega
      have d1 : (0 : Int) ≤ (i : Int) := by omega
      have d2 : (i : Int) < ((cntL t t.length).length : Int) := by rw [cntL_len]; omega
      by_cases hi0 : i = 0
      · refine .inl ⟨.inl hi0, fun g => ?_⟩
        rw [valid_shape_s10, cnd d0, cnd2 d1 d2, Int.toNat_natCast, cntL_get hi, Option.bind_some, cnd' (by omega), iadd1 (by omega)]
        rfl
      · by_cases h1 : cnt t t.length i = 1
        · refine .inl ⟨.inr h1, fun g => ?_⟩
          rw [valid_shape_s10, cnd d0, cnd2 d1 d2, Int.toNat_natCast, cntL_get hi, Option.bind_some, cnd (by omega), decide_eq_true (by omega), iadd1 (by omega)]
          rfl
        · refine .inr ⟨fun h => by rcases h with h | h <;> contradiction, fun g => ?_⟩
          rw [valid_shape_s10, cnd d0, cnd2 d1 d2, Int.toNat_natCast, cntL_get hi, Option.bind_some, cnd (by omega), decide_eq_false (by omega)]
          rfl) (by
      intro g
      rw [valid_shape_s10, cnd' (by omega)]) with ⟨h, hlp⟩ | ⟨i, hi, h, hlp⟩
  · have hlp : lp valid_shape_s10 K0 ((t, cntL t t.length, ((t.length : Nat) : Int), 0, ()), ()) = some (.inl ((t, ()), ())) := hlp
    have hc : ∀ j, 0 < j → j < t.length → cnt t t.length j = 1 := fun j h1 h2 => by
      rcases h j h2 with h3 | h3
      · omega
      · exact h3
    obtain ⟨V, hV, hlp2⟩ := shape_search hl h0 hr hc
    rw [hlp, Option.bind_some]
    dsimp only
    rw [gd1, cond_true, Int.toNat_natCast, hlp2, Option.bind_some]
    dsimp only
    rw [usedOf_len]
    rcases lp_all (step := valid_shape_s25) (fun i => ((usedOf t.length V, ((t.length : Nat) : Int), (i : Int), ()), ())) t.length (fun i => i ∈ V) (fun i => .inr (((i : Int), 11, ()), ())) (.inl ((), ())) (by omega) (by
        intro i hi
        have d0 : (i : Int) < ((t.length : Nat) : Int) := by omega
        have d1 : (0 : Int) ≤ (i : Int) := by omega
        have d2 : (i : Int) < ((usedOf t.length V).length : Int) := by rw [usedOf_len]; omega
        by_cases hiV : i ∈ V
        · refine .inl ⟨hiV, fun g => ?_⟩
          rw [valid_shape_s25, cnd d0, cnd2 d1 d2, Int.toNat_natCast, usedOf_get hi, Option.bind_some, decide_eq_true hiV, iadd1 (by omega)]
          rfl
        · refine .inr ⟨hiV, fun g => ?_⟩
          rw [valid_shape_s25, cnd d0, cnd2 d1 d2, Int.toNat_natCast, usedOf_get hi, Option.bind_some, decide_eq_false hiV]
          rfl) (by
        intro g
        rw [valid_shape_s25, cnd' (by omega)]) with ⟨h2, hlp3⟩ | ⟨i, hi, h2, hlp3⟩
    · have hlp3 : lp valid_shape_s25 K0 ((usedOf t.length V, ((t.length : Nat) : Int), 0, ()), ()) = some (.inl ((), ())) := hlp3
      rw [hlp3]
      exact ⟨0, 0, rfl, fun _ => ⟨hc, hV.ranked h2⟩, fun _ => rfl⟩
    · have hlp3 : lp valid_shape_s25 K0 ((usedOf t.length V, ((t.length : Nat) : Int), 0, ()), ()) = some (.inr (((i : Int), 11, ()), ())) := hlp3
      rw [hlp3]
      exact ⟨(i : Int), 11, rfl, fun e => (by cases e), fun hp => absurd (hV.all hc hp.2 i hi) h2⟩
  · have hlp : lp valid_shape_s10 K0 ((t, cntL t t.length, ((t.length : Nat) : Int), 0, ()), ()) = some (.inr (((i : Int), 11, ()), ())) := hlp
    rw [hlp]
    refine ⟨(i : Int), 11, rfl, fun e => (by cases e), fun hp => ?_⟩
    exfalso; apply h
    by_cases hi0 : i = 0
    · exact .inl hi0
    · exact .inr (hp.1 i (by omega) hi)
end Go.Proofs.YtpjgaieoijpagaaDoor.X


/- Lemmas over the printed texts: which models may be; models that are cut. -/
namespace Go.Proofs.YtpjgaieoijpagaaDoor.X
open Go
set_option linter.unusedVariables false
set_option linter.unusedSimpArgs false

theorem lp_allh' {V T : Type} {step : (V → Option T) → V → Option T} (f : Nat → V) (n : Nat) (ok : Nat → Prop) (Q : T → Prop) (fin : T)
    (hs : ∀ i, i < n → (∀ j, j < i → ok j) → (ok i ∧ ∀ g, step g (f i) = g (f (i + 1))) ∨ (¬ ok i ∧ ∃ r, Q r ∧ ∀ g, step g (f i) = some r)) (he : ∀ g, step g (f n) = some fin) :
    ∀ (d i m : Nat), i + d = n → d < m → (∀ j, j < i → ok j) → ((∀ i, i < n → ok i) ∧ lp step m (f i) = some fin) ∨ (¬ (∀ i, i < n → ok i) ∧ ∃ r, Q r ∧ lp step m (f i) = some r) := by
  intro d
  induction d with
  | zero =>
    intro i m hi hm hok
    obtain ⟨m, rfl⟩ : ∃ k, m = k + 1 := ⟨m - 1, by omega⟩
    have : i = n := by omega
    subst this
    exact .inl ⟨hok, he _⟩
  | succ d ih =>
    intro i m hi hm hok
    obtain ⟨m, rfl⟩ : ∃ k, m = k + 1 := ⟨m - 1, by omega⟩
    rcases hs i (by omega) hok with ⟨h1, h2⟩ | ⟨h1, r, h2, h3⟩
    · have := ih (i + 1) m (by omega) (by omega) (fun j hj => by
        by_cases e : j = i
        · subst e; exact h1
        · exact hok j (by omega))
      have e : lp step (m + 1) (f i) = lp step m (f (i + 1)) := h2 _
      rw [e]; exact this
    · exact .inr ⟨fun h => h1 (h i (by omega)), r, h2, h3 _⟩
theorem lp_allh {V T : Type} {step : (V → Option T) → V → Option T} (f : Nat → V) (n : Nat) (ok : Nat → Prop) (Q : T → Prop) (fin : T) (hn : n < 18446744073709551616)
    (hs : ∀ i, i < n → (∀ j, j < i → ok j) → (ok i ∧ ∀ g, step g (f i) = g (f (i + 1))) ∨ (¬ ok i ∧ ∃ r, Q r ∧ ∀ g, step g (f i) = some r)) (he : ∀ g, step g (f n) = some fin) :
    ((∀ i, i < n → ok i) ∧ lp step K0 (f 0) = some fin) ∨ (¬ (∀ i, i < n → ok i) ∧ ∃ r, Q r ∧ lp step K0 (f 0) = some r) :=
  lp_allh' f n ok Q fin hs he n 0 K0 (by omega) hn (fun j h => by omega)

def NodeFits (n : NODE) : Prop := 0 ≤ nFeat n ∧ nFeat n ≤ 64 ∧ 0 ≤ nL n ∧ nL n ≤ 255 ∧ 0 ≤ nR n ∧ nR n ≤ 255
def TreeFits (t : List NODE) : Prop := 1 ≤ t.length ∧ t.length ≤ 255 ∧ ∀ i (h : i < t.length), NodeFits t[i]
def FitsP (m : MODEL) : Prop := 0 ≤ m.1 ∧ m.1 ≤ 64 ∧ m.2.length ≤ 64 ∧ ∀ i (h : i < m.2.length), TreeFits m.2[i]

theorem fits_inner (a : List (List NODE)) (b c : Int) {t : List NODE} (hl : t.length < 4294967296) :
    ((∀ i (h : i < t.length), NodeFits t[i]) ∧ lp model_Fits_s9 K0 ((a, b, c, t, ((t.length : Nat) : Int), 0, ()), ()) = some (.inl ((a, b, c, ()), ()))) ∨
    (¬ (∀ i (h : i < t.length), NodeFits t[i]) ∧ lp model_Fits_s9 K0 ((a, b, c, t, ((t.length : Nat) : Int), 0, ()), ()) = some (.inr ((false, ()), ()))) := by
  rcases lp_all (step := model_Fits_s9) (fun i => ((a, b, c, t, ((t.length : Nat) : Int), (i : Int), ()), ())) t.length (fun i => ∀ h : i < t.length, NodeFits t[i]) (fun i => .inr ((false, ()), ())) (.inl ((a, b, c, ()), ())) (by omega) (by
      intro i hi
      have d0 : (i : Int) < ((t.length : Nat) : Int) := by omega
      have d1 : (0 : Int) ≤ (i : Int) := by omega
      have head : ∀ g, model_Fits_s9 g ((a, b, c, t, ((t.length : Nat) : Int), (i : Int), ()), ()) = bif (decide (nFeat t[i] < 0)) then (some (.inr ((false, ()), ()))) else (bif (decide (nFeat t[i] > 64)) then (some (.inr ((false, ()), ()))) else (bif (decide (nL t[i] < 0)) then (some (.inr ((false, ()), ()))) else (bif (decide (nL t[i] > 255)) then (some (.inr ((false, ()), ()))) else (bif (decide (nR t[i] < 0)) then (some (.inr ((false, ()), ()))) else (bif (decide (nR t[i] > 255)) then (some (.inr ((false, ()), ()))) else (g ((a, b, c, t, ((t.length : Nat) : Int), ((i + 1 : Nat) : Int), ()), ()))))))) := by
        intro g
        rw [model_Fits_s9, cnd d0, cnd d1, Int.toNat_natCast, List.getElem?_eq_getElem hi, Option.bind_some, iadd1 (by omega)]
        rfl
      by_cases h : NodeFits t[i]
      · refine .inl ⟨fun _ => h, fun g => ?_⟩
        obtain ⟨h1, h2, h3, h4, h5, h6⟩ := h
        rw [head, cnd' (by omega), cnd' (by omega), cnd' (by omega), cnd' (by omega), cnd' (by omega), cnd' (by omega)]
      · refine .inr ⟨fun h' => h (h' hi), fun g => ?_⟩
        rw [head]
        by_cases h1 : nFeat t[i] < 0
        · rw [cnd h1]
        by_cases h2 : nFeat t[i] > 64
        · rw [cnd' h1, cnd h2]
        by_cases h3 : nL t[i] < 0
        · rw [cnd' h1, cnd' h2, cnd h3]
        by_cases h4 : nL t[i] > 255
        · rw [cnd' h1, cnd' h2, cnd' h3, cnd h4]
        by_cases h5 : nR t[i] < 0
        · rw [cnd' h1, cnd' h2, cnd' h3, cnd' h4, cnd h5]
        by_cases h6 : nR t[i] > 255
        · rw [cnd' h1, cnd' h2, cnd' h3, cnd' h4, cnd' h5, cnd h6]
        exfalso; apply h; unfold NodeFits; omega) (by
      intro g
      rw [model_Fits_s9, cnd' (by omega)]) with ⟨h, hlp⟩ | ⟨i, hi, h, hlp⟩
  · exact .inl ⟨fun i hi => h i hi hi, hlp⟩
  · exact .inr ⟨fun hh => h (fun hi => hh i hi), hlp⟩

theorem Fits_ok {m : MODEL} (hl : m.2.length < 4294967296) (ht : ∀ t ∈ m.2, t.length < 4294967296) : ∃ b, model_Fits m = some b ∧ (b = true ↔ FitsP m) := by
  unfold model_Fits
  by_cases h1 : m.1 < 0
  · exact ⟨false, by rw [cnd h1], fun h => (by cases h), fun h => by have := h.1; omega⟩
  by_cases h2 : m.1 > 64
  · exact ⟨false, by rw [cnd' h1, cnd h2], fun h => (by cases h), fun h => by have := h.2.1; omega⟩
  by_cases h3 : ((m.2.length : Nat) : Int) > 64
  · exact ⟨false, by rw [cnd' h1, cnd' h2, cnd h3], fun h => (by cases h), fun h => by have := h.2.2.1; omega⟩
  rw [cnd' h1, cnd' h2, cnd' h3]
  rcases lp_all (step := model_Fits_s4) (fun i => ((m.2, ((m.2.length : Nat) : Int), (i : Int), ()), ())) m.2.length (fun i => ∀ h : i < m.2.length, TreeFits m.2[i]) (fun i => .inr ((false, ()), ())) (.inl ((), ())) (by omega) (by
      intro i hi
      have d0 : (i : Int) < ((m.2.length : Nat) : Int) := by omega
      have d1 : (0 : Int) ≤ (i : Int) := by omega
      have hti := ht _ (List.getElem_mem hi)
      by_cases g1 : ((m.2[i].length : Nat) : Int) < 1
      · refine .inr ⟨fun h => by have := (h hi).1; omega, fun g => ?_⟩
        rw [model_Fits_s4, cnd d0, cnd d1, Int.toNat_natCast, List.getElem?_eq_getElem hi, Option.bind_some, cnd g1]
      by_cases g2 : ((m.2[i].length : Nat) : Int) > 255
      · refine .inr ⟨fun h => by have := (h hi).2.1; omega, fun g => ?_⟩
        rw [model_Fits_s4, cnd d0, cnd d1, Int.toNat_natCast, List.getElem?_eq_getElem hi, Option.bind_some, cnd' g1, cnd g2]
      rcases fits_inner m.2 ((m.2.length : Nat) : Int) (i : Int) hti with ⟨h, hlp⟩ | ⟨h, hlp⟩
      · refine .inl ⟨fun _ => ⟨by omega, by omega, h⟩, fun g => ?_⟩
        rw [model_Fits_s4, cnd d0, cnd d1, Int.toNat_natCast, List.getElem?_eq_getElem hi, Option.bind_some, cnd' g1, cnd' g2, hlp, Option.bind_some]
        dsimp only
        rw [iadd1 (by omega)]
        rfl
      · refine .inr ⟨fun hh => h (hh hi).2.2, fun g => ?_⟩
        rw [model_Fits_s4, cnd d0, cnd d1, Int.toNat_natCast, List.getElem?_eq_getElem hi, Option.bind_some, cnd' g1, cnd' g2, hlp, Option.bind_some]) (by
      intro g
      rw [model_Fits_s4, cnd' (by omega)]) with ⟨h, hlp⟩ | ⟨i, hi, h, hlp⟩
  · have hlp : lp model_Fits_s4 K0 ((m.2, ((m.2.length : Nat) : Int), 0, ()), ()) = some (.inl ((), ())) := hlp
    exact ⟨true, by rw [hlp]; rfl, fun _ => ⟨by omega, by omega, by omega, fun i hi => h i hi hi⟩, fun _ => rfl⟩
  · have hlp : lp model_Fits_s4 K0 ((m.2, ((m.2.length : Nat) : Int), 0, ()), ()) = some (.inr ((false, ()), ())) := hlp
    exact ⟨false, by rw [hlp]; rfl, fun h' => (by cases h'), fun hp => absurd (fun hh => hp.2.2.2 i hh) h⟩

/-- What a rule asks of a tree. -/
def RuleP (f : Int) : Nat → List NODE → Prop
  | 0, t => RangesP t f
  | 1, t => ShapeP t
  | 2, t => CoversP t
  | _, t => SumsP t
/-- A model that may be. -/
def Good (m : MODEL) : Prop := FitsP m ∧ ∀ r, r < 4 → ∀ i (h : i < m.2.length), RuleP m.1 r m.2[i]
theorem Good.ranges {m : MODEL} (h : Good m) {i : Nat} (hi : i < m.2.length) : RangesP m.2[i] m.1 := h.2 0 (by decide) i hi
theorem Good.shape {m : MODEL} (h : Good m) {i : Nat} (hi : i < m.2.length) : ShapeP m.2[i] := h.2 1 (by decide) i hi
theorem Good.covers {m : MODEL} (h : Good m) {i : Nat} (hi : i < m.2.length) : CoversP m.2[i] := h.2 2 (by decide) i hi
theorem Good.sums {m : MODEL} (h : Good m) {i : Nat} (hi : i < m.2.length) : SumsP m.2[i] := h.2 3 (by decide) i hi

/-- A model's numbers. -/
def MSz (m : MODEL) (k : Nat) : Prop := ∀ t ∈ m.2, TSz t k

theorem check_inner {m : MODEL} {k : Nat} (hf : FitsP m) (hs : MSz m k) (hk : k < 500000000000) {r : Nat} (hr : r < 4) (hlow : ∀ r', r' < r → ∀ i (h : i < m.2.length), RuleP m.1 r' m.2[i]) (z : Int × Int × Int × Int) :
    ((∀ i (h : i < m.2.length), RuleP m.1 r m.2[i]) ∧ lp valid_Check_s7 K0 (((r : Int), (r : Int), m.2, ((m.2.length : Nat) : Int), 0, ()), ((m.1, m.2, ()), (z.1, z.2.1, z.2.2.1, z.2.2.2, ()), ())) = some (.inl (((r : Int), ()), ((m.1, m.2, ()), (z.1, z.2.1, z.2.2.1, z.2.2.2, ()), ())))) ∨
    (¬ (∀ i (h : i < m.2.length), RuleP m.1 r m.2[i]) ∧ ∃ e a b c, e ≠ 0 ∧ lp valid_Check_s7 K0 (((r : Int), (r : Int), m.2, ((m.2.length : Nat) : Int), 0, ()), ((m.1, m.2, ()), (z.1, z.2.1, z.2.2.1, z.2.2.2, ()), ())) = some (.inr ((), ((e, a, b, c, ()), ())))) := by
  have hlen := hf.2.2.1
  -- each tree's answer
  have ans : ∀ i (h : i < m.2.length), ∃ a e, (e = 0 ↔ RuleP m.1 r m.2[i]) ∧ ∀ g, valid_Check_s7 g (((r : Int), (r : Int), m.2, ((m.2.length : Nat) : Int), (i : Int), ()), ((m.1, m.2, ()), (z.1, z.2.1, z.2.2.1, z.2.2.2, ()), ())) =
      bif (!decide (e = 0)) then some (.inr ((), ((e, 0, (i : Int), a, ()), ()))) else g (((r : Int), (r : Int), m.2, ((m.2.length : Nat) : Int), ((i + 1 : Nat) : Int), ()), ((m.1, m.2, ()), (z.1, z.2.1, z.2.2.1, z.2.2.2, ()), ())) := by
    intro i hi
    have d0 : (i : Int) < ((m.2.length : Nat) : Int) := by omega
    have d1 : (0 : Int) ≤ (i : Int) := by omega
    have htf := hf.2.2.2 i hi
    have htl : m.2[i].length < 4294967296 := by have := htf.2.1; omega
    have ht0 : 0 < m.2[i].length := htf.1
    have hts := hs _ (List.getElem_mem hi)
    match r, hr with
    | 0, _ =>
      obtain ⟨a, e, h1, h2⟩ := ranges_ok (f := m.1) htl
      refine ⟨a, e, h2, fun g => ?_⟩
      rw [valid_Check_s7, cnd d0, cnd d1, Int.toNat_natCast, List.getElem?_eq_getElem hi, Option.bind_some, cnd (by rfl), h1, Option.bind_some, iadd1 (by omega)]
      rfl
    | 1, _ =>
      obtain ⟨a, e, h1, h2⟩ := shape_ok htl ht0 (hlow 0 (by decide) i hi)
      refine ⟨a, e, h2, fun g => ?_⟩
      rw [valid_Check_s7, cnd d0, cnd d1, Int.toNat_natCast, List.getElem?_eq_getElem hi, Option.bind_some, cnd' (by decide), cnd (by rfl), h1, Option.bind_some, iadd1 (by omega)]
      rfl
    | 2, _ =>
      obtain ⟨a, e, h1, h2⟩ := covers_ok htl hts (by omega)
      refine ⟨a, e, h2, fun g => ?_⟩
      rw [valid_Check_s7, cnd d0, cnd d1, Int.toNat_natCast, List.getElem?_eq_getElem hi, Option.bind_some, cnd' (by decide), cnd' (by decide), cnd (by rfl), h1, Option.bind_some, iadd1 (by omega)]
      rfl
    | 3, _ =>
      obtain ⟨a, e, h1, h2⟩ := sums_ok htl hts hk (hlow 0 (by decide) i hi)
      refine ⟨a, e, h2, fun g => ?_⟩
      rw [valid_Check_s7, cnd d0, cnd d1, Int.toNat_natCast, List.getElem?_eq_getElem hi, Option.bind_some, cnd' (by decide), cnd' (by decide), cnd' (by decide), cnd (by rfl), h1, Option.bind_some, iadd1 (by omega)]
      rfl
  have ans2 : ∀ i, ∃ a e, ∀ h : i < m.2.length, (e = 0 ↔ RuleP m.1 r m.2[i]) ∧ ∀ g, valid_Check_s7 g (((r : Int), (r : Int), m.2, ((m.2.length : Nat) : Int), (i : Int), ()), ((m.1, m.2, ()), (z.1, z.2.1, z.2.2.1, z.2.2.2, ()), ())) =
      bif (!decide (e = 0)) then some (.inr ((), ((e, 0, (i : Int), a, ()), ()))) else g (((r : Int), (r : Int), m.2, ((m.2.length : Nat) : Int), ((i + 1 : Nat) : Int), ()), ((m.1, m.2, ()), (z.1, z.2.1, z.2.2.1, z.2.2.2, ()), ())) := by
    intro i
    by_cases h : i < m.2.length
    · obtain ⟨a, e, h1, h2⟩ := ans i h
      exact ⟨a, e, fun _ => ⟨h1, h2⟩⟩
    · exact ⟨0, 0, fun h' => absurd h' h⟩
  have A := fun i => (ans2 i).choose
  let E : Nat → Int := fun i => (ans2 i).choose_spec.choose
  have hE : ∀ i (h : i < m.2.length), (E i = 0 ↔ RuleP m.1 r m.2[i]) ∧ ∀ g, valid_Check_s7 g (((r : Int), (r : Int), m.2, ((m.2.length : Nat) : Int), (i : Int), ()), ((m.1, m.2, ()), (z.1, z.2.1, z.2.2.1, z.2.2.2, ()), ())) =
      bif (!decide (E i = 0)) then some (.inr ((), ((E i, 0, (i : Int), (ans2 i).choose, ()), ()))) else g (((r : Int), (r : Int), m.2, ((m.2.length : Nat) : Int), ((i + 1 : Nat) : Int), ()), ((m.1, m.2, ()), (z.1, z.2.1, z.2.2.1, z.2.2.2, ()), ())) := fun i h => (ans2 i).choose_spec.choose_spec h
  rcases lp_all (step := valid_Check_s7) (fun i => (((r : Int), (r : Int), m.2, ((m.2.length : Nat) : Int), (i : Int), ()), ((m.1, m.2, ()), (z.1, z.2.1, z.2.2.1, z.2.2.2, ()), ()))) m.2.length (fun i => E i = 0) (fun i => .inr ((), ((E i, 0, (i : Int), (ans2 i).choose, ()), ()))) (.inl (((r : Int), ()), ((m.1, m.2, ()), (z.1, z.2.1, z.2.2.1, z.2.2.2, ()), ()))) (by omega) (by
      intro i hi
      obtain ⟨h1, h2⟩ := hE i hi
      by_cases h0 : E i = 0
      · exact .inl ⟨h0, fun g => by rw [h2, decide_eq_true h0]; rfl⟩
      · exact .inr ⟨h0, fun g => by rw [h2, decide_eq_false h0]; rfl⟩) (by
      intro g
      rw [valid_Check_s7, cnd' (by omega)]) with ⟨h, hlp⟩ | ⟨i, hi, h, hlp⟩
  · exact .inl ⟨fun i hi => (hE i hi).1.1 (h i hi), hlp⟩
  · exact .inr ⟨fun hh => h ((hE i hi).1.2 (hh i hi)), E i, 0, (i : Int), _, h, hlp⟩

theorem Ok_ok {m : MODEL} {k : Nat} (hl : m.2.length < 4294967296) (ht : ∀ t ∈ m.2, t.length < 4294967296) (hs : MSz m k) (hk : k < 500000000000) : ∃ b, valid_Ok m = some b ∧ (b = true ↔ Good m) := by
  obtain ⟨b, hb, hbf⟩ := Fits_ok hl ht
  cases b with
  | false =>
    have hnf : ¬ FitsP m := fun h => by have := hbf.2 h; cases this
    refine ⟨false, ?_, fun h => (by cases h), fun h => absurd h.1 hnf⟩
    rw [valid_Ok, valid_Check, hb, Option.bind_some]
    rfl
  | true =>
    have hf := hbf.1 rfl
    rcases lp_allh (step := valid_Check_s4) (fun r => (((r : Int), ()), ((m.1, m.2, ()), (0, 0, 0, 0, ()), ()))) 4 (fun r => ∀ i (h : i < m.2.length), RuleP m.1 r m.2[i]) (fun r => ∃ e a b c, e ≠ 0 ∧ r = .inr ((), ((e, a, b, c, ()), ()))) (.inl ((), ((0, 0, 0, 0, ()), ()))) (by omega) (by
        intro r hr hlow
        have d0 : (r : Int) < 4 := by omega
        rcases check_inner hf hs hk hr (fun r' hr' => hlow r' hr') (0, 0, 0, 0) with ⟨h1, h2⟩ | ⟨h1, e, a, b, c, h2, h3⟩
        · refine .inl ⟨h1, fun g => ?_⟩
          rw [valid_Check_s4, cnd d0, h2, Option.bind_some]
          dsimp only
          rw [iadd1 (by omega)]
          rfl
        · refine .inr ⟨h1, _, ⟨e, a, b, c, h2, rfl⟩, fun g => ?_⟩
          rw [valid_Check_s4, cnd d0, h3, Option.bind_some]) (by
        intro g
        rw [valid_Check_s4, cnd' (by decide)]) with ⟨h, hlp⟩ | ⟨h, r, ⟨e, a, b, c, he, rfl⟩, hlp⟩
    · have hlp : lp valid_Check_s4 K0 (((0 : Int), ()), ((m.1, m.2, ()), (0, 0, 0, 0, ()), ())) = _ := hlp
      refine ⟨true, ?_, fun _ => ⟨hf, h⟩, fun _ => rfl⟩
      rw [valid_Ok, valid_Check, hb, Option.bind_some, Bool.not_true, cond_false, hlp]
      rfl
    · have hlp : lp valid_Check_s4 K0 (((0 : Int), ()), ((m.1, m.2, ()), (0, 0, 0, 0, ()), ())) = _ := hlp
      refine ⟨false, ?_, fun h' => (by cases h'), fun hg => absurd hg.2 h⟩
      rw [valid_Ok, valid_Check, hb, Option.bind_some, Bool.not_true, cond_false, hlp, Option.bind_some]
      dsimp only
      rw [Option.bind_some, decide_eq_false he]
      rfl
end Go.Proofs.YtpjgaieoijpagaaDoor.X


/- Lemmas over the printed texts: models that are cut; trees as trees. -/
namespace Go.Proofs.YtpjgaieoijpagaaDoor.X
open Go
set_option linter.unusedVariables false
set_option linter.unusedSimpArgs false

theorem number07_ok (a : RAT) : dendronlaw07_number a = some (cutR 4 a) := by
  obtain ⟨⟨s, x⟩, y⟩ := a
  unfold dendronlaw07_number cutR
  by_cases h1 : 4 < x.length
  · have c1 : ((x.length : Nat) : Int) > 4 := by omega
    have c2 : (4 : Int) ≤ ((x.length : Nat) : Int) := by omega
    by_cases h2 : 4 < y.length
    · have c3 : ((y.length : Nat) : Int) > 4 := by omega
      have c4 : (4 : Int) ≤ ((y.length : Nat) : Int) := by omega
      rw [cnd c1, cnd c2, cnd c3, cnd c4]
    · have c3 : ¬ ((y.length : Nat) : Int) > 4 := by omega
      rw [cnd c1, cnd c2, cnd' c3, List.take_of_length_le (l := y) (by omega)]
  · have c1 : ¬ ((x.length : Nat) : Int) > 4 := by omega
    by_cases h2 : 4 < y.length
    · have c3 : ((y.length : Nat) : Int) > 4 := by omega
      have c4 : (4 : Int) ≤ ((y.length : Nat) : Int) := by omega
      rw [cnd' c1, cnd c3, cnd c4, List.take_of_length_le (l := x) (by omega)]
    · have c3 : ¬ ((y.length : Nat) : Int) > 4 := by omega
      rw [cnd' c1, cnd' c3, List.take_of_length_le (l := x) (by omega), List.take_of_length_le (l := y) (by omega)]

def cutNode (n : NODE) : NODE := (n.1, n.2.1, cutR 4 n.2.2.1, n.2.2.2.1, n.2.2.2.2.1, n.2.2.2.2.2.1, cutR 4 n.2.2.2.2.2.2.1, cutR 4 n.2.2.2.2.2.2.2)
def cutTree (t : List NODE) : List NODE := (t.take 15).map cutNode
def cutM (m : MODEL) : MODEL := (m.1, (m.2.take 6).map cutTree)
theorem cutNode_sz (n : NODE) : NSz (cutNode n) 4 := ⟨cutR_sz 4 _, cutR_sz 4 _, cutR_sz 4 _⟩
theorem cutTree_sz (t : List NODE) : TSz (cutTree t) 4 := by
  intro n hn
  obtain ⟨x, _, rfl⟩ := List.mem_map.1 hn
  exact cutNode_sz x
theorem cutTree_len (t : List NODE) : (cutTree t).length ≤ 15 := by simp [cutTree]; omega
theorem cutM_sz (m : MODEL) : MSz (cutM m) 4 := by
  intro t ht
  obtain ⟨x, _, rfl⟩ := List.mem_map.1 ht
  exact cutTree_sz x
theorem cutM_len (m : MODEL) : (cutM m).2.length ≤ 6 := by simp [cutM]; omega
theorem cutM_tlen (m : MODEL) : ∀ t ∈ (cutM m).2, t.length ≤ 15 := by
  intro t ht
  obtain ⟨x, _, rfl⟩ := List.mem_map.1 ht
  exact cutTree_len x

theorem Few07_inner {m : MODEL} {i : Nat} (hi : i < m.2.length) (hl : m.2[i].length ≤ 9223372036854775807) (hi2 : i < 4611686018427387904) (z w : Int × List (List NODE)) :
    lp dendronlaw07_Few_s7 K0 (((i : Int), [], 0, ()), ((m.1, m.2, ()), (z.1, z.2, ()), (w.1, w.2, ()), ())) = some (((i : Int), cutTree m.2[i], ()), ((m.1, m.2, ()), (z.1, z.2, ()), (w.1, w.2, ()), ())) := by
  have hn : min m.2[i].length 15 ≤ m.2[i].length := Nat.min_le_left _ _
  exact lp_up (step := dendronlaw07_Few_s7) (fun k => (((i : Int), (m.2[i].take k).map cutNode, (k : Int), ()), ((m.1, m.2, ()), (z.1, z.2, ()), (w.1, w.2, ()), ()))) (min m.2[i].length 15) (by omega) (by
    intro g k hk
    have h1 : k < m.2[i].length := by omega
    have d0 : (0 : Int) ≤ (i : Int) := by omega
    have d1 : (k : Int) < ((m.2[i].length : Nat) : Int) := by omega
    have d2 : (k : Int) < 15 := by omega
    have d3 : (0 : Int) ≤ (k : Int) := by omega
    have d4 : (((m.2[i].take k).map cutNode).length + 1) * 208 ≤ 140737488355328 := by simp; omega
    rw [dendronlaw07_Few_s7, cnd d0, Int.toNat_natCast, List.getElem?_eq_getElem hi, Option.bind_some, cnd d1, cnd d2, cnd d0, Option.bind_some, cnd d3, Int.toNat_natCast, List.getElem?_eq_getElem h1, Option.bind_some, number07_ok, Option.bind_some, number07_ok, Option.bind_some, number07_ok, Option.bind_some, blt d4, cond_true, iadd1 (by omega), map_take_succ _ h1]
    rfl) (by
    intro g
    have d0 : (0 : Int) ≤ (i : Int) := by omega
    by_cases h : m.2[i].length ≤ 15
    · have c1 : ¬ ((min m.2[i].length 15 : Nat) : Int) < ((m.2[i].length : Nat) : Int) := by omega
      rw [dendronlaw07_Few_s7, cnd d0, Int.toNat_natCast, List.getElem?_eq_getElem hi, Option.bind_some, cnd' c1, Nat.min_eq_left h, List.take_of_length_le (Nat.le_refl _), cutTree, List.take_of_length_le h]
    · have c1 : ((min m.2[i].length 15 : Nat) : Int) < ((m.2[i].length : Nat) : Int) := by omega
      have c2 : ¬ ((min m.2[i].length 15 : Nat) : Int) < 15 := by omega
      rw [dendronlaw07_Few_s7, cnd d0, Int.toNat_natCast, List.getElem?_eq_getElem hi, Option.bind_some, cnd c1, cnd' c2, Nat.min_eq_right (by omega), cutTree])

theorem Few07_ok (m : MODEL) (hl : m.2.length ≤ 9223372036854775807) (ht : ∀ t ∈ m.2, t.length ≤ 9223372036854775807) : dendronlaw07_Few m = some (cutM m) := by
  have hn : min m.2.length 6 ≤ m.2.length := Nat.min_le_left _ _
  have key := lp_up (step := dendronlaw07_Few_s3) (fun i => (((i : Int), ()), ((m.1, m.2, ()), (0, [], ()), (m.1, (m.2.take i).map cutTree, ()), ()))) (min m.2.length 6) (r := ((), ((0, [], ()), (m.1, (m.2.take 6).map cutTree, ()), ()))) (by omega) (by
    intro g i hi
    have h1 : i < m.2.length := by omega
    have d0 : (i : Int) < ((m.2.length : Nat) : Int) := by omega
    have d1 : (i : Int) < 6 := by omega
    have hin := Few07_inner h1 (ht _ (List.getElem_mem h1)) (by omega) (0, []) (m.1, (m.2.take i).map cutTree)
    have d4 : (((m.2.take i).map cutTree).length + 1) * 24 ≤ 140737488355328 := by simp; omega
    rw [dendronlaw07_Few_s3, cnd d0, cnd d1, hin, Option.bind_some, blt d4, cond_true, iadd1 (by omega), map_take_succ _ h1]
    rfl) (by
    intro g
    by_cases h : m.2.length ≤ 6
    · have c1 : ¬ ((min m.2.length 6 : Nat) : Int) < ((m.2.length : Nat) : Int) := by omega
      rw [dendronlaw07_Few_s3, cnd' c1, Nat.min_eq_left h, List.take_of_length_le (Nat.le_refl _), List.take_of_length_le h]
    · have c1 : ((min m.2.length 6 : Nat) : Int) < ((m.2.length : Nat) : Int) := by omega
      have c2 : ¬ ((min m.2.length 6 : Nat) : Int) < 6 := by omega
      rw [dendronlaw07_Few_s3, cnd c1, cnd' c2, Nat.min_eq_right (by omega)])
  have key' : lp dendronlaw07_Few_s3 K0 ((0, ()), ((m.1, m.2, ()), (0, [], ()), (m.1, [], ()), ())) = _ := key
  rw [dendronlaw07_Few, key']
  rfl

/-! Trees as trees. -/
inductive TR where
  | leaf (i : Nat)
  | split (i : Nat) (l r : TR)
def TR.top : TR → Nat
  | .leaf i => i
  | .split i _ _ => i
def TR.size : TR → Nat
  | .leaf _ => 1
  | .split _ l r => 1 + l.size + r.size
def TR.deep : TR → Nat
  | .leaf _ => 1
  | .split _ l r => 1 + max l.deep r.deep
/-- A tree of nodes as a tree. -/
def Is (t : List NODE) (f : Int) : TR → Prop
  | .leaf i => ∃ h : i < t.length, nLeaf t[i] = true
  | .split i l r => ∃ h : i < t.length, nLeaf t[i] = false ∧ 0 ≤ nFeat t[i] ∧ nFeat t[i] < f ∧ nL t[i] = (l.top : Int) ∧ nR t[i] = (r.top : Int) ∧ Is t f l ∧ Is t f r
theorem tree_at {t : List NODE} {f : Int} (hr : RangesP t f) (hrk : Ranked t) : ∀ i, i < t.length → ∃ T, Is t f T ∧ T.top = i ∧ T.deep ≤ t.length + 1 := by
  obtain ⟨rk, hrk⟩ := hrk
  have key : ∀ (d i : Nat), i < t.length → rk i ≤ d → ∃ T, Is t f T ∧ T.top = i ∧ T.deep ≤ rk i + 1 := by
    intro d
    induction d with
    | zero =>
      intro i hi hd
      cases hl : nLeaf t[i] with
      | true => exact ⟨.leaf i, ⟨hi, hl⟩, rfl, by simp [TR.deep]⟩
      | false =>
        have := (hrk i hi).2 (nL t[i]).toNat (by rw [kids_split hi hl]; simp)
        omega
    | succ d ih =>
      intro i hi hd
      cases hl : nLeaf t[i] with
      | true => exact ⟨.leaf i, ⟨hi, hl⟩, rfl, by simp [TR.deep]⟩
      | false =>
        obtain ⟨r1, r2, r3, r4, r5, r6⟩ := hr i hi hl
        have k1 := (hrk i hi).2 (nL t[i]).toNat (by rw [kids_split hi hl]; simp)
        have k2 := (hrk i hi).2 (nR t[i]).toNat (by rw [kids_split hi hl]; simp)
        obtain ⟨L, hL, hLt, hLd⟩ := ih (nL t[i]).toNat (by omega) (by omega)
        obtain ⟨R, hR, hRt, hRd⟩ := ih (nR t[i]).toNat (by omega) (by omega)
        refine ⟨.split i L R, ⟨hi, hl, r1, r2, by rw [hLt]; omega, by rw [hRt]; omega, hL, hR⟩, rfl, ?_⟩
        simp only [TR.deep]
        omega
  intro i hi
  obtain ⟨T, h1, h2, h3⟩ := key (rk i) i hi (Nat.le_refl _)
  have := (hrk i hi).1
  exact ⟨T, h1, h2, by omega⟩
/-- A good model's trees. -/
theorem Good.tree {m : MODEL} (h : Good m) {i : Nat} (hi : i < m.2.length) : ∃ T, Is m.2[i] m.1 T ∧ T.top = 0 ∧ T.deep ≤ m.2[i].length + 1 :=
  tree_at (h.ranges hi) (h.shape hi).2 0 (h.1.2.2.2 i hi).1
end Go.Proofs.YtpjgaieoijpagaaDoor.X


/- Trees: where rows go, what trees say. -/
namespace Go.Proofs.YtpjgaieoijpagaaDoor.X
open Go
set_option linter.unusedVariables false
set_option linter.unusedSimpArgs false

abbrev zR : RAT := ((false, []), [])
abbrev zN : NODE := (false, 0, zR, 0, 0, false, zR, zR)
def nodeAt (t : List NODE) (i : Nat) : NODE := (t[i]?).getD zN
theorem nodeAt_get {t : List NODE} {i : Nat} (h : i < t.length) : nodeAt t i = t[i] := by simp [nodeAt, h]
def cellAt (row : List CELL) (i : Nat) : CELL := (row[i]?).getD (false, zR)
theorem cellAt_get {row : List CELL} {i : Nat} (h : i < row.length) : cellAt row i = row[i] := by simp [cellAt, h]
/-- Whether an entry goes to the left of a split. -/
def goes (n : NODE) (c : CELL) : Bool := if c.1 then nMiss n else decide (rv c.2 < rv (nCut n))
def goL (t : List NODE) (row : List CELL) (i : Nat) : Bool := goes (nodeAt t i) (cellAt row (nFeat (nodeAt t i)).toNat)

def wayT (t : List NODE) (row : List CELL) : TR → List Nat
  | .leaf i => [i]
  | .split i l r => i :: if goL t row i then wayT t row l else wayT t row r
theorem Is.top_lt {t : List NODE} {f : Int} {T : TR} (h : Is t f T) : T.top < t.length := by
  cases T with
  | leaf i => exact h.1
  | split i l r => exact h.1
theorem TR.size_lt (T : TR) : T.size < 2 ^ T.deep := by
  induction T with
  | leaf i => simp [TR.size, TR.deep]
  | split i l r ihl ihr =>
    simp only [TR.size, TR.deep]
    have h1 : 2 ^ l.deep ≤ 2 ^ max l.deep r.deep := Nat.pow_le_pow_right (by decide) (Nat.le_max_left _ _)
    have h2 : 2 ^ r.deep ≤ 2 ^ max l.deep r.deep := Nat.pow_le_pow_right (by decide) (Nat.le_max_right _ _)
    rw [Nat.add_comm 1 (max l.deep r.deep), Nat.pow_succ]
    omega
theorem TR.size_le {T : TR} (h : T.deep ≤ 16) : T.size < 65536 := by
  have h1 := T.size_lt
  have h2 : 2 ^ T.deep ≤ 2 ^ 16 := Nat.pow_le_pow_right (by decide) h
  omega
theorem TR.deep_pos (T : TR) : 0 < T.deep := by cases T <;> simp [TR.deep] <;> omega

/-- What a tree says of a row, where a set is known. -/
def expT (t : List NODE) (row : List CELL) (set : Nat) : TR → Rat
  | .leaf i => rv (nVal (nodeAt t i))
  | .split i l r => if set.testBit (nFeat (nodeAt t i)).toNat then (if goL t row i then expT t row set l else expT t row set r)
      else (cov t l.top * expT t row set l + cov t r.top * expT t row set r) / cov t i
theorem TSz.at {t : List NODE} {k : Nat} (h : TSz t k) {i : Nat} (hi : i < t.length) : NSz (nodeAt t i) k := by rw [nodeAt_get hi]; exact h _ (List.getElem_mem hi)
theorem cov_sz {t : List NODE} (hs : TSz t 4) {i : Nat} (hi : i < t.length) : SzQ (cov t i) 4 := (hs.at hi).2.2.szQ (by decide)
theorem expT_sz {t : List NODE} {f : Int} {row : List CELL} {set : Nat} {T : TR} (hs : TSz t 4) (h : Is t f T) : SzQ (expT t row set T) (16 * T.size) := by
  induction T with
  | leaf i => exact ((hs.at h.1).2.1.szQ (by decide)).mono (by simp [TR.size])
  | split i l r ihl ihr =>
    obtain ⟨h1, _, _, _, _, _, h2, h3⟩ := h
    have a := ihl h2
    have b := ihr h3
    simp only [expT, TR.size]
    split
    · split
      · exact a.mono (by omega)
      · exact b.mono (by omega)
    · have := (((cov_sz hs h2.top_lt).mul a).add ((cov_sz hs h3.top_lt).mul b)).div (cov_sz hs h1)
      exact this.mono (by omega)
end Go.Proofs.YtpjgaieoijpagaaDoor.X


/- Trees: the tree of a list of nodes. -/
namespace Go.Proofs.YtpjgaieoijpagaaDoor.X
open Go
set_option linter.unusedVariables false
set_option linter.unusedSimpArgs false

def mkT (t : List NODE) : Nat → Nat → TR
  | 0, i => .leaf i
  | d + 1, i => if nLeaf (nodeAt t i) then .leaf i else .split i (mkT t d (nL (nodeAt t i)).toNat) (mkT t d (nR (nodeAt t i)).toNat)
theorem mkT_eq {t : List NODE} {f : Int} : ∀ (d : Nat) (T : TR), Is t f T → T.deep ≤ d → mkT t d T.top = T := by
  intro d
  induction d with
  | zero => intro T _ h; have := T.deep_pos; omega
  | succ d ih =>
    intro T h hd
    cases T with
    | leaf i =>
      obtain ⟨h1, h2⟩ := h
      simp only [TR.top, mkT, nodeAt_get h1, h2, if_true]
    | split i l r =>
      obtain ⟨h1, h2, _, _, h3, h4, h5, h6⟩ := h
      simp only [TR.deep] at hd
      show mkT t (d + 1) i = _
      rw [mkT, nodeAt_get h1, h2, h3, h4, Int.toNat_natCast, Int.toNat_natCast, ih l h5 (by omega), ih r h6 (by omega)]
      rfl
def treeOf (t : List NODE) : TR := mkT t (t.length + 1) 0
theorem Good.treeOf {m : MODEL} (h : Good m) {i : Nat} (hi : i < m.2.length) : Is m.2[i] m.1 (treeOf m.2[i]) ∧ (treeOf m.2[i]).top = 0 ∧ (treeOf m.2[i]).deep ≤ m.2[i].length + 1 := by
  obtain ⟨T, h1, h2, h3⟩ := h.tree hi
  have : X.treeOf m.2[i] = T := by rw [X.treeOf, ← h2]; exact mkT_eq _ T h1 h3
  rw [this]; exact ⟨h1, h2, h3⟩
def treeAt (m : MODEL) (i : Nat) : List NODE := (m.2[i]?).getD []
theorem treeAt_get {m : MODEL} {i : Nat} (h : i < m.2.length) : treeAt m i = m.2[i] := by simp [treeAt, h]
def sayM (m : MODEL) (row : List CELL) (set : Nat) : Rat := rsum (fun i => expT (treeAt m i) row set (treeOf (treeAt m i))) m.2.length
theorem MSz.at {m : MODEL} {k : Nat} (h : MSz m k) {i : Nat} (hi : i < m.2.length) : TSz (treeAt m i) k := by rw [treeAt_get hi]; exact h _ (List.getElem_mem hi)
theorem Good.isAt {m : MODEL} (h : Good m) {i : Nat} (hi : i < m.2.length) : Is (treeAt m i) m.1 (X.treeOf (treeAt m i)) := by rw [treeAt_get hi]; exact (h.treeOf hi).1
theorem deep16 {m : MODEL} (h : Good m) (hl : ∀ t ∈ m.2, t.length ≤ 15) {i : Nat} (hi : i < m.2.length) : (treeOf (treeAt m i)).deep ≤ 16 := by
  rw [treeAt_get hi]
  have := (h.treeOf hi).2.2
  have := hl _ (List.getElem_mem hi)
  omega
theorem expT_at {m : MODEL} {row : List CELL} {set : Nat} (h : Good m) (hs : MSz m 4) (hl : ∀ t ∈ m.2, t.length ≤ 15) {i : Nat} (hi : i < m.2.length) : SzQ (expT (treeAt m i) row set (treeOf (treeAt m i))) 1048576 := by
  have := TR.size_le (deep16 h hl hi)
  exact (expT_sz (hs.at hi) (h.isAt hi)).mono (by omega)
theorem sayM_sz {m : MODEL} {row : List CELL} {set : Nat} (h : Good m) (hs : MSz m 4) (hl : ∀ t ∈ m.2, t.length ≤ 15) {n : Nat} (hn : n ≤ m.2.length) : SzQ (rsum (fun i => expT (treeAt m i) row set (treeOf (treeAt m i))) n) (1 + n * 1048577) :=
  rsum_sz fun i hi => expT_at h hs hl (by omega)
end Go.Proofs.YtpjgaieoijpagaaDoor.X


/- Lemmas over the printed texts: tidy models; models that are one. -/
namespace Go.Proofs.YtpjgaieoijpagaaDoor.X
open Go
set_option linter.unusedVariables false
set_option linter.unusedSimpArgs false

def tidyNode (n : NODE) : NODE :=
  if nLeaf n then (nLeaf n, 0, zR, 0, 0, false, canQ (rv (nVal n)), canQ (rv (nCov n)))
  else (nLeaf n, nFeat n, canQ (rv (nCut n)), nL n, nR n, nMiss n, zR, canQ (rv (nCov n)))
def tidyTree (t : List NODE) : List NODE := t.map tidyNode
def tidyM (m : MODEL) : MODEL := (m.1, m.2.map tidyTree)

theorem Tidy_inner {t : List NODE} {k : Nat} (hl : t.length < 4294967296) (hs : TSz t k) (hk : k < 1099511627776) (a : List (List NODE)) (b c : Int) (z w : Int × List (List NODE)) :
    lp model_Tidy_s7 K0 (([], a, b, c, t, ((t.length : Nat) : Int), 0, ()), ((z.1, z.2, ()), (w.1, w.2, ()), ())) = some ((tidyTree t, a, b, c, ()), ((z.1, z.2, ()), (w.1, w.2, ()), ())) := by
  have key := lp_up (step := model_Tidy_s7) (fun i => (((t.take i).map tidyNode, a, b, c, t, ((t.length : Nat) : Int), (i : Int), ()), ((z.1, z.2, ()), (w.1, w.2, ()), ()))) t.length (r := ((tidyTree t, a, b, c, ()), ((z.1, z.2, ()), (w.1, w.2, ()), ()))) (by omega) (by
    intro g i hi
    have d0 : (i : Int) < ((t.length : Nat) : Int) := by omega
    have d1 : (0 : Int) ≤ (i : Int) := by omega
    have hz := hs _ (List.getElem_mem hi)
    have q1 := ratio_Clean_ok (hz.2.2.sm hk)
    have d4 : (((t.take i).map tidyNode).length + 1) * 208 ≤ 140737488355328 := by simp; omega
    rw [model_Tidy_s7, cnd d0, cnd d1, Int.toNat_natCast, List.getElem?_eq_getElem hi, Option.bind_some, q1, Option.bind_some]
    cases hleaf : nLeaf t[i] with
    | true =>
      have q2 := ratio_Clean_ok (hz.2.1.sm hk)
      have ht : tidyNode t[i] = (true, 0, zR, 0, 0, false, canQ (rv (nVal t[i])), canQ (rv (nCov t[i]))) := by rw [tidyNode, hleaf]; rfl
      rw [show t[i].1 = true from hleaf, cond_true, q2, Option.bind_some, blt d4, cond_true, iadd1 (by omega), map_take_succ _ hi, ht]
      rfl
    | false =>
      have q2 := ratio_Clean_ok (hz.1.sm hk)
      have ht : tidyNode t[i] = (false, nFeat t[i], canQ (rv (nCut t[i])), nL t[i], nR t[i], nMiss t[i], zR, canQ (rv (nCov t[i]))) := by rw [tidyNode, hleaf]; rfl
      rw [show t[i].1 = false from hleaf, cond_false, q2, Option.bind_some, blt d4, cond_true, iadd1 (by omega), map_take_succ _ hi, ht]
      rfl) (by
    intro g
    rw [model_Tidy_s7, cnd' (by omega), List.take_length]
    rfl)
  exact key

theorem Tidy_ok {m : MODEL} {k : Nat} (hl : m.2.length < 4294967296) (ht : ∀ t ∈ m.2, t.length < 4294967296) (hs : MSz m k) (hk : k < 1099511627776) : model_Tidy m = some (tidyM m) := by
  have key := lp_up (step := model_Tidy_s3) (fun i => ((m.2, ((m.2.length : Nat) : Int), (i : Int), ()), ((0, [], ()), (m.1, (m.2.take i).map tidyTree, ()), ()))) m.2.length (r := ((), ((0, [], ()), (m.1, m.2.map tidyTree, ()), ()))) (by omega) (by
    intro g i hi
    have d0 : (i : Int) < ((m.2.length : Nat) : Int) := by omega
    have d1 : (0 : Int) ≤ (i : Int) := by omega
    have hin := Tidy_inner (ht _ (List.getElem_mem hi)) (hs _ (List.getElem_mem hi)) hk m.2 ((m.2.length : Nat) : Int) (i : Int) (0, []) (m.1, (m.2.take i).map tidyTree)
    have d4 : (((m.2.take i).map tidyTree).length + 1) * 24 ≤ 140737488355328 := by simp; omega
    rw [model_Tidy_s3, cnd d0, cnd d1, Int.toNat_natCast, List.getElem?_eq_getElem hi, Option.bind_some, hin, Option.bind_some, blt d4, cond_true, iadd1 (by omega), map_take_succ _ hi]
    rfl) (by
    intro g
    rw [model_Tidy_s3, cnd' (by omega), List.take_length])
  have key' : lp model_Tidy_s3 K0 ((m.2, ((m.2.length : Nat) : Int), 0, ()), ((0, [], ()), (m.1, [], ()), ())) = _ := key
  rw [model_Tidy, key']
  rfl

theorem list_eq_iff {α : Type} {a b : List α} (hl : a.length = b.length) : a = b ↔ ∀ i, (h : i < a.length) → a[i] = b[i] := by
  constructor
  · rintro rfl i h; rfl
  · intro h
    exact List.ext_getElem hl (fun i h1 h2 => h i h1)

theorem exact_ok {a b : RAT} (h1 : a.1.2.length < 4611686018427387904) (h2 : a.2.length < 4611686018427387904) : dendronref07_exact a b = some (decide (a = b)) := by
  obtain ⟨⟨s, x⟩, y⟩ := a
  obtain ⟨⟨s', x'⟩, y'⟩ := b
  dsimp only at h1 h2
  unfold dendronref07_exact
  dsimp only
  by_cases e1 : s = s'
  · subst e1
    rw [show (!(s == s)) = false by simp, cond_false]
    by_cases e2 : x.length = x'.length
    · rw [show decide ((x.length : Int) = (x'.length : Int)) = true from decide_eq_true (by omega), Bool.not_true, cond_false]
      by_cases e3 : y.length = y'.length
      · rw [show decide ((y.length : Int) = (y'.length : Int)) = true from decide_eq_true (by omega), Bool.not_true, cond_false]
        rcases lp_all (step := dendronref07_exact_s4) (fun i => (((i : Int), ()), ((s, x, y, ()), (s, x', y', ()), ()))) x.length (fun i => ∀ h : i < x.length, x[i] = x'[i]) (fun i => .inr ((false, ()), ())) (.inl ((), ((s, x, y, ()), (s, x', y', ()), ()))) (by omega) (by
            intro i hi
            have hi' : i < x'.length := by omega
            have d0 : (i : Int) < ((x.length : Nat) : Int) := by omega
            have d1 : (0 : Int) ≤ (i : Int) := by omega
            by_cases h : x[i] = x'[i]
            · refine .inl ⟨fun _ => h, fun g => ?_⟩
              rw [dendronref07_exact_s4, cnd d0, cnd d1, Int.toNat_natCast, List.getElem?_eq_getElem hi, Option.bind_some, cnd d1, List.getElem?_eq_getElem hi', Option.bind_some, decide_eq_true h, iadd1 (by omega)]
              rfl
            · refine .inr ⟨fun h' => h (h' hi), fun g => ?_⟩
              rw [dendronref07_exact_s4, cnd d0, cnd d1, Int.toNat_natCast, List.getElem?_eq_getElem hi, Option.bind_some, cnd d1, List.getElem?_eq_getElem hi', Option.bind_some, decide_eq_false h]
              rfl) (by
            intro g
            rw [dendronref07_exact_s4, cnd' (by omega)]) with ⟨h, hlp⟩ | ⟨i, hi, h, hlp⟩
        · have hlp : lp dendronref07_exact_s4 K0 ((0, ()), ((s, x, y, ()), (s, x', y', ()), ())) = _ := hlp
          have ex : x = x' := (list_eq_iff e2).2 (fun i hi => h i hi hi)
          subst ex
          rw [hlp, Option.bind_some]
          dsimp only
          rcases lp_all (step := dendronref07_exact_s9) (fun i => (((i : Int), ()), ((s, x, y, ()), (s, x, y', ()), ()))) y.length (fun i => ∀ h : i < y.length, y[i] = y'[i]) (fun i => .inr ((false, ()), ())) (.inl ((), ())) (by omega) (by
              intro i hi
              have hi' : i < y'.length := by omega
              have d0 : (i : Int) < ((y.length : Nat) : Int) := by omega
              have d1 : (0 : Int) ≤ (i : Int) := by omega
              by_cases h : y[i] = y'[i]
              · refine .inl ⟨fun _ => h, fun g => ?_⟩
                rw [dendronref07_exact_s9, cnd d0, cnd d1, Int.toNat_natCast, List.getElem?_eq_getElem hi, Option.bind_some, cnd d1, List.getElem?_eq_getElem hi', Option.bind_some, decide_eq_true h, iadd1 (by omega)]
                rfl
              · refine .inr ⟨fun h' => h (h' hi), fun g => ?_⟩
                rw [dendronref07_exact_s9, cnd d0, cnd d1, Int.toNat_natCast, List.getElem?_eq_getElem hi, Option.bind_some, cnd d1, List.getElem?_eq_getElem hi', Option.bind_some, decide_eq_false h]
                rfl) (by
              intro g
              rw [dendronref07_exact_s9, cnd' (by omega)]) with ⟨h, hlp⟩ | ⟨i, hi, h, hlp⟩
          · have hlp : lp dendronref07_exact_s9 K0 ((0, ()), ((s, x, y, ()), (s, x, y', ()), ())) = _ := hlp
            have ey : y = y' := (list_eq_iff e3).2 (fun i hi => h i hi hi)
            subst ey
            rw [hlp, decide_eq_true rfl]; rfl
          · have hlp : lp dendronref07_exact_s9 K0 ((0, ()), ((s, x, y, ()), (s, x, y', ()), ())) = _ := hlp
            rw [hlp, decide_eq_false (fun e => h (fun hh => by injection e with _ e; subst e; rfl))]; rfl
        · have hlp : lp dendronref07_exact_s4 K0 ((0, ()), ((s, x, y, ()), (s, x', y', ()), ())) = _ := hlp
          rw [hlp, decide_eq_false (fun e => h (fun hh => by injection e with e _; injection e with _ e; subst e; rfl))]; rfl
      · rw [show decide ((y.length : Int) = (y'.length : Int)) = false from decide_eq_false (by omega), Bool.not_false, cond_true, decide_eq_false (fun e => e3 (by injection e with _ e; rw [e]))]
    · rw [show decide ((x.length : Int) = (x'.length : Int)) = false from decide_eq_false (by omega), Bool.not_false, cond_true, decide_eq_false (fun e => e2 (by injection e with e _; injection e with _ e; rw [e]))]
  · rw [show (!(s == s')) = true by simp [e1], cond_true, decide_eq_false (fun e => e1 (by injection e with e _; injection e with e _))]
end Go.Proofs.YtpjgaieoijpagaaDoor.X


/- Trees with what they carry: laid in order. -/
namespace Go.Proofs.YtpjgaieoijpagaaDoor.X
open Go
set_option linter.unusedVariables false
set_option linter.unusedSimpArgs false

end Go.Proofs.YtpjgaieoijpagaaDoor.X


/- Trees with what they carry: shrunk in place. -/
namespace Go.Proofs.YtpjgaieoijpagaaDoor.X
open Go
set_option linter.unusedVariables false
set_option linter.unusedSimpArgs false

def leafOf (v c : RAT) : NODE := (true, 0, zR, 0, 0, false, v, c)
end Go.Proofs.YtpjgaieoijpagaaDoor.X


/- Trees with what they carry: what is asked of a shrunk tree. -/
namespace Go.Proofs.YtpjgaieoijpagaaDoor.X
open Go
set_option linter.unusedVariables false
set_option linter.unusedSimpArgs false

/-! Tidy trees. -/
theorem tidy_leaf {n : NODE} (h : nLeaf n = true) : tidyNode n = leafOf (canQ (rv (nVal n))) (canQ (rv (nCov n))) := by rw [tidyNode, if_pos h, h]; rfl
theorem tidy_split {n : NODE} (h : nLeaf n = false) : tidyNode n = (false, nFeat n, canQ (rv (nCut n)), nL n, nR n, nMiss n, zR, canQ (rv (nCov n))) := by rw [tidyNode, if_neg (by rw [h]; decide), h]
end Go.Proofs.YtpjgaieoijpagaaDoor.X


/- TrimOrders. -/
namespace Go.Proofs.YtpjgaieoijpagaaDoor.X
open Go
set_option linter.unusedVariables false
set_option linter.unusedSimpArgs false

theorem Same_inner {m : MODEL} {i : Nat} (hi : i < m.2.length) (hl : m.2[i].length < 4294967296) (hs : ∀ n ∈ m.2[i], NSz n 4611686018427387903) (hi2 : i < 4611686018427387904) :
    lp dendronref07_Same_s9 K0 (((i : Int), 0, ()), ((m.1, m.2, ()), (m.1, m.2, ()), ())) = some (.inl (((i : Int), ()), ((m.1, m.2, ()), (m.1, m.2, ()), ()))) := by
  exact lp_up (step := dendronref07_Same_s9) (fun k => (((i : Int), (k : Int), ()), ((m.1, m.2, ()), (m.1, m.2, ()), ()))) m.2[i].length (by omega) (by
    intro g k hk
    have d0 : (0 : Int) ≤ (i : Int) := by omega
    have d1 : (k : Int) < ((m.2[i].length : Nat) : Int) := by omega
    have d3 : (0 : Int) ≤ (k : Int) := by omega
    have z := hs _ (List.getElem_mem hk)
    have e1 := exact_ok (a := m.2[i][k].2.2.1) (b := m.2[i][k].2.2.1) (Nat.lt_of_le_of_lt z.1.1 (by decide)) (Nat.lt_of_le_of_lt z.1.2 (by decide))
    have e2 := exact_ok (a := m.2[i][k].2.2.2.2.2.2.1) (b := m.2[i][k].2.2.2.2.2.2.1) (Nat.lt_of_le_of_lt z.2.1.1 (by decide)) (Nat.lt_of_le_of_lt z.2.1.2 (by decide))
    have e3 := exact_ok (a := m.2[i][k].2.2.2.2.2.2.2) (b := m.2[i][k].2.2.2.2.2.2.2) (Nat.lt_of_le_of_lt z.2.2.1 (by decide)) (Nat.lt_of_le_of_lt z.2.2.2 (by decide))
    rw [decide_eq_true rfl] at e1 e2 e3
    have bb : ∀ b : Bool, (!(b == b)) = false := by intro b; cases b <;> rfl
    have ii : ∀ b : Int, (!decide (b = b)) = false := by intro b; rw [decide_eq_true rfl]; rfl
    rw [dendronref07_Same_s9, cnd d0, Int.toNat_natCast, List.getElem?_eq_getElem hi, Option.bind_some, cnd d1, cnd d0, Option.bind_some, cnd d3, Int.toNat_natCast, List.getElem?_eq_getElem hk, Option.bind_some, cnd d0, Option.bind_some, cnd d3, List.getElem?_eq_getElem hk, Option.bind_some, bb, cond_false, ii, cond_false, ii, cond_false, ii, cond_false, bb, cond_false, e1, Option.bind_some, Bool.not_true, cond_false, e2, Option.bind_some, Bool.not_true, cond_false, e3, Option.bind_some, Bool.not_true, cond_false, iadd1 (by omega)]
    rfl) (by
    intro g
    have d0 : (0 : Int) ≤ (i : Int) := by omega
    rw [dendronref07_Same_s9, cnd d0, Int.toNat_natCast, List.getElem?_eq_getElem hi, Option.bind_some, cnd' (by omega)])
theorem Same_self {m : MODEL} (hl : m.2.length < 4294967296) (ht : ∀ t ∈ m.2, t.length < 4294967296) (hs : MSz m 4611686018427387903) : dendronref07_Same m m = some true := by
  have ii : ∀ b : Int, (!decide (b = b)) = false := by intro b; rw [decide_eq_true rfl]; rfl
  have key := lp_up (step := dendronref07_Same_s4) (fun i => (((i : Int), ()), ((m.1, m.2, ()), (m.1, m.2, ()), ()))) m.2.length (r := .inl ((), ())) (by omega) (by
    intro g i hi
    have d0 : (i : Int) < ((m.2.length : Nat) : Int) := by omega
    have d1 : (0 : Int) ≤ (i : Int) := by omega
    rw [dendronref07_Same_s4, cnd d0, cnd d1, Int.toNat_natCast, List.getElem?_eq_getElem hi, Option.bind_some, cnd d1, Option.bind_some, ii, cond_false, Same_inner hi (ht _ (List.getElem_mem hi)) (hs _ (List.getElem_mem hi)) (by omega), Option.bind_some]
    dsimp only
    rw [iadd1 (by omega)]
    rfl) (by
    intro g
    rw [dendronref07_Same_s4, cnd' (by omega)])
  have key' : lp dendronref07_Same_s4 K0 ((0, ()), ((m.1, m.2, ()), (m.1, m.2, ()), ())) = _ := key
  rw [dendronref07_Same, ii, cond_false, ii, cond_false, key']
  rfl

theorem law25_awake_ok : dendronlaw25_awake = some true := by decide +kernel

theorem tidyNode_sz {n : NODE} {k : Nat} (h : NSz n k) (hk : 0 < k) : NSz (tidyNode n) k := by
  have c : ∀ {a : RAT}, SzR a k → SzR (canQ (rv a)) k := fun h => (h.szQ hk).szR
  have z : SzR zR k := ⟨Nat.zero_le _, Nat.zero_le _⟩
  unfold tidyNode
  split
  · exact ⟨z, c h.2.1, c h.2.2⟩
  · exact ⟨c h.1, z, c h.2.2⟩
theorem tidyTree_sz {t : List NODE} {k : Nat} (h : TSz t k) (hk : 0 < k) : TSz (tidyTree t) k := by
  intro n hn
  obtain ⟨x, hx, rfl⟩ := List.mem_map.1 hn
  exact tidyNode_sz (h x hx) hk
end Go.Proofs.YtpjgaieoijpagaaDoor.X


/- Route: to which side an entry goes. -/
namespace Go.Proofs.YtpjgaieoijpagaaDoor.X
open Go
set_option linter.unusedVariables false
set_option linter.unusedSimpArgs false

def CSz (row : List CELL) (k : Nat) : Prop := ∀ c ∈ row, SzR c.2 k
theorem goes_ok {n : NODE} {c : CELL} {k j : Nat} (hn : SzR (nCut n) k) (hk : k < 1099511627776) (hc : SzR c.2 j) (hj : j < 1099511627776) : route_goes n c = some (goes n c) := by
  unfold route_goes goes
  cases h : c.1 with
  | true => rfl
  | false =>
    rw [cond_false, ratio_Cmp_ok (hc.sm hj) (hn.sm hk), Option.bind_some, if_neg (by decide)]
    congr 1
    by_cases h : rv c.2 < rv (nCut n)
    · rw [decide_eq_true (rcmp_neg.2 h), decide_eq_true h]
    · rw [decide_eq_false (fun e => h (rcmp_neg.1 e)), decide_eq_false h]
theorem Left_ok {n : NODE} {c : CELL} {k j : Nat} (hn : SzR (nCut n) k) (hk : k < 1099511627776) (hc : SzR c.2 j) (hj : j < 1099511627776) : route_Left n c = some (!nLeaf n && goes n c) := by
  unfold route_Left
  rw [goes_ok hn hk hc hj]
  show _ = some (!n.1 && goes n c)
  cases h : n.1 with
  | true => rfl
  | false => rfl
end Go.Proofs.YtpjgaieoijpagaaDoor.X


/- Route: ways, and what is predicted. -/
namespace Go.Proofs.YtpjgaieoijpagaaDoor.X
open Go
set_option linter.unusedVariables false
set_option linter.unusedSimpArgs false

theorem goL_ok {t : List NODE} {f : Int} {row : List CELL} {i : Nat} (hs : TSz t 4) (hc : CSz row 9) (hi : i < t.length) (h0 : 0 ≤ nFeat t[i]) (h1 : nFeat t[i] < (row.length : Int)) :
    ∃ c, row[(nFeat t[i]).toNat]? = some c ∧ SzR c.2 9 ∧ goes t[i] c = goL t row i := by
  have hlt : (nFeat t[i]).toNat < row.length := by omega
  refine ⟨row[(nFeat t[i]).toNat], List.getElem?_eq_getElem hlt, hc _ (List.getElem_mem hlt), ?_⟩
  rw [goL, nodeAt_get hi, cellAt_get hlt]
end Go.Proofs.YtpjgaieoijpagaaDoor.X


/- Route: RouteWays, RoutePredicts. -/
namespace Go.Proofs.YtpjgaieoijpagaaDoor.X
open Go
set_option linter.unusedVariables false
set_option linter.unusedSimpArgs false

theorem cutRow_sz (l : List CELL) : CSz (l.map cutCell) 9 := by
  intro c hc
  obtain ⟨x, _, rfl⟩ := List.mem_map.1 hc
  exact ⟨Nat.le_trans (cutR_sz 3 _).1 (by decide), Nat.le_trans (cutR_sz 3 _).2 (by decide)⟩
/-- A model that may be asked. -/
structure Askd (m : MODEL) (row : List CELL) : Prop where
  good : Good m
  len : (row.length : Int) = m.1
  ms : MSz m 4
  ml : m.2.length ≤ 6
  mt : ∀ t ∈ m.2, t.length ≤ 15
  cs : CSz row 9
theorem Askd.tree {m : MODEL} {row : List CELL} (h : Askd m row) {i : Nat} (hi : i < m.2.length) : TSz m.2[i] 4 ∧ Is m.2[i] (row.length : Int) (treeOf (treeAt m i)) ∧ (treeOf (treeAt m i)).top = 0 ∧ (treeOf (treeAt m i)).deep ≤ 16 ∧ treeAt m i = m.2[i] := by
  have h1 := h.good.treeOf hi
  have h2 := deep16 h.good h.mt hi
  rw [treeAt_get hi] at h2 ⊢
  exact ⟨h.ms _ (List.getElem_mem hi), by rw [h.len]; exact h1.1, h1.2.1, h2, rfl⟩
theorem sum_step {f : Nat → Rat} {n k : Nat} {q : RAT} (hs : SzQ (rsum f n) k) (hk : k < 1099511627776) (hq : Sm q) (e : rv q = f n) : ratio_Add (((canQ (rsum f n)).1.1, (canQ (rsum f n)).1.2), (canQ (rsum f n)).2) q = some (canQ (rsum f (n + 1))) := by
  have h1 := ratio_Add_ok (hs.sm hk) hq
  rw [rv_canQ, e] at h1
  exact h1

end Go.Proofs.YtpjgaieoijpagaaDoor.X


/- Route: RoutePredicts. -/
namespace Go.Proofs.YtpjgaieoijpagaaDoor.X
open Go
set_option linter.unusedVariables false
set_option linter.unusedSimpArgs false

end Go.Proofs.YtpjgaieoijpagaaDoor.X


/- Expect: what is said where a set is known. -/
namespace Go.Proofs.YtpjgaieoijpagaaDoor.X
open Go
set_option linter.unusedVariables false
set_option linter.unusedSimpArgs false

theorem testBit_div (n k : Nat) : (n / 2 ^ k) % 2 = 1 ↔ n.testBit k = true := by
  rw [Nat.testBit_eq_decide_div_mod_eq, decide_eq_true_iff]
theorem in_lp {set k : Nat} (hs : set < 18446744073709551616) (hk : k < 1000000) : dendronlaw11_in (set : Int) (k : Int) = some (set.testBit k) := by
  have key := lp_up (step := dendronlaw11_in_s2) (fun i => ((((set / 2 ^ i : Nat) : Int), (k : Int), (i : Int), ()), ())) k (r := ((((set / 2 ^ k : Nat) : Int), ()), ())) (by omega) (by
    intro g i hi
    have d0 : (i : Int) < (k : Int) := by omega
    have h2 : (set / 2 ^ i : Nat) < 18446744073709551616 := Nat.lt_of_le_of_lt (Nat.div_le_self _ _) hs
    obtain ⟨x, hx⟩ : ∃ x, x = set / 2 ^ i := ⟨_, rfl⟩
    have e : set / 2 ^ (i + 1) = x / 2 := by rw [hx, Nat.pow_succ, Nat.div_div_eq_div_mul]
    rw [e, ← hx]
    rw [← hx] at h2
    rw [dendronlaw11_in_s2, cnd d0, iadd1 (by omega), iquo_u (by omega) (by omega) (by omega)]
    rfl) (by
    intro g
    rw [dendronlaw11_in_s2, cnd' (by omega)])
  have e0 : set / 2 ^ 0 = set := by simp
  have key' : lp dendronlaw11_in_s2 K0 ((((set / 2 ^ 0 : Nat) : Int), (k : Int), 0, ()), ()) = _ := key
  rw [e0] at key'
  rw [dendronlaw11_in, key', Option.bind_some, irem_n (Int.natCast_nonneg _)]
  congr 1
  obtain ⟨x, hx⟩ : ∃ x, x = set / 2 ^ k := ⟨_, rfl⟩
  have tb := testBit_div set k
  rw [← hx] at tb ⊢
  by_cases h : set.testBit k = true
  · rw [h, decide_eq_true]
    have := tb.2 h
    omega
  · have h' : set.testBit k = false := by simpa using h
    rw [h', decide_eq_false]
    intro e
    exact h (tb.1 (by omega))

theorem below_ok {t : List NODE} {row : List CELL} {set : Nat} (hs : TSz t 4) (hc : CSz row 9) (hcov : CoversP t) (hset : set < 18446744073709551616) (hf64 : row.length ≤ 64) : ∀ (n : Nat) (T : TR), Is t (row.length : Int) T → T.deep ≤ n → T.size ≤ 1000000 →
    ∃ x, dendronlaw11_below n t (T.top : Int) row (set : Int) = some x ∧ rv x = expT t row set T ∧ SzR x (16 * T.size) := by
  intro n
  induction n with
  | zero => intro T _ hd; have := T.deep_pos; omega
  | succ n ih =>
    intro T h hd hz
    show ∃ x, dendronlaw11_below_b (dendronlaw11_below n) t T.top row set = some x ∧ _
    cases T with
    | leaf i =>
      obtain ⟨h1, h2⟩ := h
      have d0 : (0 : Int) ≤ (i : Int) := by omega
      have z := (hs _ (List.getElem_mem h1)).2.1
      refine ⟨nVal t[i], ?_, ?_, ⟨by have := z.1; simp only [TR.size]; omega, by have := z.2; simp only [TR.size]; omega⟩⟩
      · rw [dendronlaw11_below_b, show ((TR.leaf i).top : Int) = (i : Int) from rfl, cnd d0, Int.toNat_natCast, List.getElem?_eq_getElem h1, Option.bind_some, show t[i].1 = true from h2, cond_true]
      · rw [expT, nodeAt_get h1]
    | split i l r =>
      obtain ⟨h1, h2, f0, f1, h3, h4, h5, h6⟩ := h
      have d0 : (0 : Int) ≤ (i : Int) := by omega
      simp only [TR.deep] at hd
      simp only [TR.size] at hz ⊢
      obtain ⟨c, g1, g2, g3⟩ := goL_ok (f := 0) hs hc h1 f0 f1
      have z := hs _ (List.getElem_mem h1)
      obtain ⟨xl, el, vl, zl⟩ := ih l h5 (by omega) (by omega)
      obtain ⟨xr, er, vr, zr⟩ := ih r h6 (by omega) (by omega)
      have el' : dendronlaw11_below n t t[i].2.2.2.1 row set = some xl := by rw [show t[i].2.2.2.1 = _ from h3]; exact el
      have er' : dendronlaw11_below n t t[i].2.2.2.2.1 row set = some xr := by rw [show t[i].2.2.2.2.1 = _ from h4]; exact er
      have hft : ((nFeat t[i]).toNat : Int) = nFeat t[i] := by omega
      have hkn := in_lp (k := (nFeat t[i]).toNat) hset (by omega)
      rw [hft] at hkn
      rw [dendronlaw11_below_b, show ((TR.split i l r).top : Int) = (i : Int) from rfl, cnd d0, Int.toNat_natCast, List.getElem?_eq_getElem h1, Option.bind_some, show t[i].1 = false from h2, cond_false, hkn, Option.bind_some]
      simp only [expT, nodeAt_get h1]
      cases hb : set.testBit (nFeat t[i]).toNat with
      | true =>
        rw [cond_true, cnd f0, g1, Option.bind_some, Left_ok z.1 (by decide) g2 (by decide), Option.bind_some, g3, show (!nLeaf t[i]) = true by rw [h2]; rfl, Bool.true_and, if_pos rfl]
        cases goL t row i with
        | true => exact ⟨xl, by rw [cond_true, el', Option.bind_some], by rw [if_pos rfl]; exact vl, ⟨by have := zl.1; omega, by have := zl.2; omega⟩⟩
        | false => exact ⟨xr, by rw [cond_false, er', Option.bind_some], by rw [if_neg (by decide)]; exact vr, ⟨by have := zr.1; omega, by have := zr.2; omega⟩⟩
      | false =>
        have al := h5.top_lt
        have ar := h6.top_lt
        have za := (hs _ (List.getElem_mem al)).2.2
        have zb := (hs _ (List.getElem_mem ar)).2.2
        have zi := z.2.2
        have m1 := ratio_Mul_ok (za.sm (by decide)) (zl.sm (by omega))
        have m2 := ratio_Mul_ok (zb.sm (by decide)) (zr.sm (by omega))
        rw [vl] at m1
        rw [vr] at m2
        have sl := expT_sz (row := row) (set := set) hs h5
        have sr := expT_sz (row := row) (set := set) hs h6
        have s1 := (za.szQ (by decide)).mul sl
        have s2 := (zb.szQ (by decide)).mul sr
        have s3 := s1.add s2
        have m3 := ratio_Add_ok (s1.sm (by omega)) (s2.sm (by omega))
        rw [rv_canQ, rv_canQ] at m3
        have hne : rv (nCov t[i]) ≠ 0 := by
          have := hcov i h1
          intro e
          rw [e] at this
          exact absurd this (by decide)
        have m4 := ratio_Div_ok (s3.sm (by omega)) (zi.sm (by decide))
        rw [if_neg hne, rv_canQ] at m4
        have s4 := s3.div (zi.szQ (by decide))
        refine ⟨_, ?_, ?_, (s4.mono (m := 16 * (1 + l.size + r.size)) (by omega)).szR⟩
        · rw [cond_false, show t[i].2.2.2.1 = _ from h3, cnd (by omega), Int.toNat_natCast, List.getElem?_eq_getElem al, Option.bind_some, el, Option.bind_some, m1, Option.bind_some, show t[i].2.2.2.2.1 = _ from h4, cnd (by omega), Int.toNat_natCast, List.getElem?_eq_getElem ar, Option.bind_some, er, Option.bind_some, m2, Option.bind_some, m3, Option.bind_some, m4, Option.bind_some]
        · rw [rv_canQ, if_neg (by decide), cov_get al, cov_get ar, cov_get h1]
end Go.Proofs.YtpjgaieoijpagaaDoor.X


/- Expect: ExpectBases, ExpectAll. -/
namespace Go.Proofs.YtpjgaieoijpagaaDoor.X
open Go
set_option linter.unusedVariables false
set_option linter.unusedSimpArgs false

theorem Askd.cov {m : MODEL} {row : List CELL} (h : Askd m row) {i : Nat} (hi : i < m.2.length) : CoversP m.2[i] := h.good.covers hi
theorem Askd.f64 {m : MODEL} {row : List CELL} (h : Askd m row) : row.length ≤ 64 := by
  have := h.good.1.2.1
  have := h.len
  omega
theorem Value11_ok {m : MODEL} {row : List CELL} (h : Askd m row) {set : Nat} (hset : set < 18446744073709551616) : dendronlaw11_Value m row (set : Int) = some (canQ (sayM m row set)) := by
  have ml := h.ml
  obtain ⟨F, eF⟩ : ∃ F : Nat → Rat, F = fun i => expT (treeAt m i) row set (treeOf (treeAt m i)) := ⟨_, rfl⟩
  have hF : ∀ n, n ≤ m.2.length → SzQ (rsum F n) (1 + n * 1048577) := fun n hn => by rw [eF]; exact sayM_sz h.good h.ms h.mt hn
  have key := lp_up (step := dendronlaw11_Value_s3) (fun i => ((row, (set : Int), (i : Int), ()), ((m.1, m.2, ()), (false, [], [], ()), ((canQ (rsum F i)).1.1, (canQ (rsum F i)).1.2, (canQ (rsum F i)).2, ()), ()))) m.2.length (by omega) (by
    intro g i hi
    have d0 : (i : Int) < ((m.2.length : Nat) : Int) := by omega
    have d1 : (0 : Int) ≤ (i : Int) := by omega
    obtain ⟨t1, t2, t3, t4, t5⟩ := h.tree hi
    have hz := TR.size_le t4
    obtain ⟨x, hv, vx, zx⟩ := below_ok t1 h.cs (h.cov hi) hset h.f64 R0 _ t2 (by unfold R0; omega) (by omega)
    rw [t3] at hv
    have hv : dendronlaw11_below R0 m.2[i] 0 row set = some x := hv
    have ha := sum_step (hF i (by omega)) (by omega) (zx.sm (by omega)) (by rw [vx, eF]; show _ = expT (treeAt m i) row set _; rw [t5])
    rw [dendronlaw11_Value_s3, cnd d0, cnd d1, Int.toNat_natCast, List.getElem?_eq_getElem hi, Option.bind_some, hv, Option.bind_some, ha, Option.bind_some, iadd1 (by omega)]
    rfl) (by
    intro g
    rw [dendronlaw11_Value_s3, cnd' (by omega)])
  rw [dendronlaw11_Value, ratio_Zero_ok, Option.bind_some]
  have key' : lp dendronlaw11_Value_s3 K0 ((row, (set : Int), 0, ()), ((m.1, m.2, ()), (false, [], [], ()), ((canQ 0).1.1, (canQ 0).1.2, (canQ 0).2, ()), ())) = _ := key
  rw [key']
  rw [sayM, ← eF]
  rfl

theorem Small_ok (m0 : MODEL) (row0 : List CELL) (hl : m0.2.length ≤ 9223372036854775807) (ht : ∀ t ∈ m0.2, t.length ≤ 9223372036854775807) (hr : row0.length ≤ 9223372036854775807) :
    ∃ m row, dendronlaw11_Small m0 row0 = some (m, row) ∧ MSz m 4 ∧ m.2.length ≤ 3 ∧ (∀ t ∈ m.2, t.length ≤ 15) ∧ CSz row 9 := by
  have hf := Few07_ok m0 hl ht
  have ms := cutM_sz m0
  have mt := cutM_tlen m0
  have h9 := Few09_ok row0 70 hr (by decide)
  have h9 : dendronlaw09_Few row0 70 = some ((row0.take 70).map cutCell) := h9
  have cs := cutRow_sz (row0.take 70)
  by_cases h3 : ((cutM m0).2.length : Int) > 3
  · refine ⟨((cutM m0).1, (cutM m0).2.take 3), (row0.take 70).map cutCell, ?_, fun t h => ms t (List.mem_of_mem_take h), by simp; omega, fun t h => mt t (List.mem_of_mem_take h), cs⟩
    rw [dendronlaw11_Small, hf, Option.bind_some, cnd h3, cnd (by omega), h9]; rfl
  · refine ⟨cutM m0, (row0.take 70).map cutCell, ?_, ms, by omega, mt, cs⟩
    rw [dendronlaw11_Small, hf, Option.bind_some, cnd' h3, h9]; rfl
end Go.Proofs.YtpjgaieoijpagaaDoor.X


/- Expect: ExpectReach. -/
namespace Go.Proofs.YtpjgaieoijpagaaDoor.X
open Go
set_option linter.unusedVariables false
set_option linter.unusedSimpArgs false

end Go.Proofs.YtpjgaieoijpagaaDoor.X


/- Route: cuts. -/
namespace Go.Proofs.YtpjgaieoijpagaaDoor.X
open Go
set_option linter.unusedVariables false
set_option linter.unusedSimpArgs false

def qcan (qs : List Rat) : List RAT := qs.map canQ
@[simp] theorem qcan_len (qs : List Rat) : (qcan qs).length = qs.length := by simp [qcan]
end Go.Proofs.YtpjgaieoijpagaaDoor.X


/- Trees: means below nodes, leaves, all nodes. -/
namespace Go.Proofs.YtpjgaieoijpagaaDoor.X
open Go
set_option linter.unusedVariables false
set_option linter.unusedSimpArgs false

/-! The nodes in the order in which they are looked at. -/
end Go.Proofs.YtpjgaieoijpagaaDoor.X


/- Expect: ExpectNodes. -/
namespace Go.Proofs.YtpjgaieoijpagaaDoor.X
open Go
set_option linter.unusedVariables false
set_option linter.unusedSimpArgs false

end Go.Proofs.YtpjgaieoijpagaaDoor.X


/- Expect: legs: what leads to a leaf. -/
namespace Go.Proofs.YtpjgaieoijpagaaDoor.X
open Go
set_option linter.unusedVariables false
set_option linter.unusedSimpArgs false

end Go.Proofs.YtpjgaieoijpagaaDoor.X


/- Expect: ExpectReaches. -/
namespace Go.Proofs.YtpjgaieoijpagaaDoor.X
open Go
set_option linter.unusedVariables false
set_option linter.unusedSimpArgs false

/-! What comes to a leg. -/
end Go.Proofs.YtpjgaieoijpagaaDoor.X


/- Expect: ExpectReaches. -/
namespace Go.Proofs.YtpjgaieoijpagaaDoor.X
open Go
set_option linter.unusedVariables false
set_option linter.unusedSimpArgs false

end Go.Proofs.YtpjgaieoijpagaaDoor.X


/- Expect: ExpectTables. -/
namespace Go.Proofs.YtpjgaieoijpagaaDoor.X
open Go
set_option linter.unusedVariables false
set_option linter.unusedSimpArgs false

end Go.Proofs.YtpjgaieoijpagaaDoor.X


/- Models turned node by node, no split's way among them. -/
namespace Go.Proofs.YtpjgaieoijpagaaDoor.X
open Go
set_option linter.unusedVariables false
set_option linter.unusedSimpArgs false

/-- Nodes turned: no leaf, no way; covers so many times as great. -/
structure Keeps (g : NODE → NODE) (f f' : Int) (c : Rat) : Prop where
  leaf : ∀ n, nLeaf (g n) = nLeaf n
  l : ∀ n, nLeaf n = false → nL (g n) = nL n
  r : ∀ n, nLeaf n = false → nR (g n) = nR n
  feat : ∀ n, nLeaf n = false → 0 ≤ nFeat n → nFeat n < f → 0 ≤ nFeat (g n) ∧ nFeat (g n) < f'
  fits : ∀ n, nLeaf n = true → NodeFits n → NodeFits (g n)
  cov : ∀ n, rv (nCov (g n)) = c * rv (nCov n)
  pos : 0 < c
  low : 0 ≤ f'
  high : f' ≤ 64

variable {g : NODE → NODE} {f f' : Int} {c : Rat}
theorem nodeAt_map (hk : Keeps g f f' c) {t : List NODE} {i : Nat} (hi : i < t.length) : nodeAt (t.map g) i = g (nodeAt t i) := by
  rw [nodeAt_get hi, nodeAt_get (by simpa using hi), List.getElem_map]
theorem cov_map (hk : Keeps g f f' c) {t : List NODE} {i : Nat} (hi : i < t.length) : cov (t.map g) i = c * cov t i := by
  rw [cov_get hi, cov_get (by simpa using hi), List.getElem_map, hk.cov]
theorem kids_map (hk : Keeps g f f' c) (t : List NODE) : kids (t.map g) = kids t := by
  funext i
  by_cases hi : i < t.length
  · cases hl : nLeaf t[i] with
    | true => rw [kids_leaf hi hl, kids_leaf (t := t.map g) (by simpa using hi) (by rw [List.getElem_map, hk.leaf]; exact hl)]
    | false => rw [kids_split hi hl, kids_split (t := t.map g) (by simpa using hi) (by rw [List.getElem_map, hk.leaf]; exact hl), List.getElem_map, hk.l _ hl, hk.r _ hl]
  · unfold kids
    rw [List.getElem?_eq_none (by simpa using hi), List.getElem?_eq_none (by omega)]
theorem cnt_map (hk : Keeps g f f' c) (t : List NODE) (i j : Nat) : cnt (t.map g) i j = cnt t i j := by
  unfold cnt; rw [kids_map hk]
theorem Is.map (hk : Keeps g f f' c) {t : List NODE} : ∀ {T : TR}, Is t f T → Is (t.map g) f' T := by
  intro T
  induction T with
  | leaf i =>
    rintro ⟨h, hl⟩
    exact ⟨by simpa using h, by rw [List.getElem_map, hk.leaf]; exact hl⟩
  | split i l r ihl ihr =>
    rintro ⟨h, hl, f0, f1, h1, h2, h3, h4⟩
    have hf := hk.feat _ hl f0 f1
    refine ⟨by simpa using h, ?_, ?_, ?_, ?_, ?_, ihl h3, ihr h4⟩
    · rw [List.getElem_map, hk.leaf]; exact hl
    · rw [List.getElem_map]; exact hf.1
    · rw [List.getElem_map]; exact hf.2
    · rw [List.getElem_map, hk.l _ hl]; exact h1
    · rw [List.getElem_map, hk.r _ hl]; exact h2
theorem Good.map {m : MODEL} (h : Good m) (hk : Keeps g m.1 f' c) : Good (f', m.2.map (List.map g)) := by
  have len : ∀ i, i < (m.2.map (List.map g)).length → i < m.2.length := fun i hi => by simpa using hi
  have get : ∀ i (hi : i < (m.2.map (List.map g)).length), (m.2.map (List.map g))[i] = (m.2[i]'(len i hi)).map g := fun i hi => by rw [List.getElem_map]
  refine ⟨⟨hk.low, hk.high, by simpa using h.1.2.2.1, fun i hi => ?_⟩, fun r hr i hi => ?_⟩
  · rw [show ((f', m.2.map (List.map g)) : MODEL).2[i] = _ from get i hi]
    have hi' := len i hi
    obtain ⟨t1, t2, t3⟩ := h.1.2.2.2 i hi'
    refine ⟨by simpa using t1, by simpa using t2, fun j hj => ?_⟩
    have hj' : j < m.2[i].length := by simpa using hj
    rw [List.getElem_map]
    have hn := t3 j hj'
    cases hl : nLeaf m.2[i][j] with
    | true => exact hk.fits _ hl hn
    | false =>
      obtain ⟨r1, r2, r3, r4, r5, r6⟩ := h.ranges hi' j hj' hl
      have hf := hk.feat _ hl r1 r2
      have := hk.high
      have a := hk.l _ hl
      have b := hk.r _ hl
      obtain ⟨n1, n2, n3, n4, n5, n6⟩ := hn
      exact ⟨hf.1, by omega, by omega, by omega, by omega, by omega⟩
  · rw [show ((f', m.2.map (List.map g)) : MODEL).2[i] = _ from get i hi]
    have hi' := len i hi
    have hr' : RangesP (m.2[i].map g) f' := by
      intro j hj hl
      have hj' : j < m.2[i].length := by simpa using hj
      rw [List.getElem_map] at hl ⊢
      rw [hk.leaf] at hl
      obtain ⟨r1, r2, r3, r4, r5, r6⟩ := h.ranges hi' j hj' hl
      have hf := hk.feat _ hl r1 r2
      rw [hk.l _ hl, hk.r _ hl]
      have e : (((m.2[i].map g).length : Nat) : Int) = ((m.2[i].length : Nat) : Int) := by rw [List.length_map]
      exact ⟨hf.1, hf.2, r3, e ▸ r4, r5, e ▸ r6⟩
    match r, hr with
    | 0, _ => exact hr'
    | 1, _ =>
      obtain ⟨s1, rk, s2⟩ := h.shape hi'
      refine ⟨fun j h0 hj => ?_, rk, fun j hj => ?_⟩
      · rw [cnt_map hk, List.length_map]
        exact s1 j h0 (by simpa using hj)
      · rw [kids_map hk, List.length_map]
        exact s2 j (by simpa using hj)
    | 2, _ =>
      intro j hj
      rw [List.getElem_map, hk.cov]
      exact Rat.mul_pos hk.pos (h.covers hi' j (by simpa using hj))
    | 3, _ =>
      intro j hj hl
      have hj' : j < m.2[i].length := by simpa using hj
      rw [List.getElem_map] at hl ⊢
      rw [hk.leaf] at hl
      obtain ⟨r1, r2, r3, r4, r5, r6⟩ := h.ranges hi' j hj' hl
      rw [hk.l _ hl, hk.r _ hl, hk.cov, cov_map hk (by omega), cov_map hk (by omega), h.sums hi' j hj' hl, Rat.mul_add]
theorem treeOf_map {m : MODEL} (h : Good m) (hk : Keeps g m.1 f' c) {i : Nat} (hi : i < m.2.length) : treeOf (m.2[i].map g) = treeOf m.2[i] := by
  obtain ⟨h1, h2, h3⟩ := h.treeOf hi
  have := mkT_eq (m.2[i].length + 1) _ (h1.map hk) h3
  rw [h2] at this
  rw [treeOf, List.length_map]
  exact this

/-- What they say: so many times as much. -/
theorem expT_map (hk : Keeps g f f' c) {v : Rat} {t : List NODE} {row row' : List CELL} {set set' : Nat}
    (hv : ∀ n, nLeaf n = true → rv (nVal (g n)) = v * rv (nVal n)) (hgo : ∀ i, i < t.length → nLeaf (nodeAt t i) = false → 0 ≤ nFeat (nodeAt t i) → nFeat (nodeAt t i) < f → goL (t.map g) row' i = goL t row i ∧ set'.testBit (nFeat (g (nodeAt t i))).toNat = set.testBit (nFeat (nodeAt t i)).toNat) :
    ∀ {T : TR}, Is t f T → expT (t.map g) row' set' T = v * expT t row set T := by
  intro T
  induction T with
  | leaf i =>
    rintro ⟨h, hl⟩
    simp only [expT]
    rw [nodeAt_map hk h, hv _ (by rw [nodeAt_get h]; exact hl)]
  | split i l r ihl ihr =>
    rintro ⟨h, hl, f0, f1, h1, h2, h3, h4⟩
    rw [← nodeAt_get h] at hl f0 f1
    obtain ⟨q1, q2⟩ := hgo i h hl f0 f1
    simp only [expT]
    rw [nodeAt_map hk h, q1, q2, cov_map hk h, cov_map hk h3.top_lt, cov_map hk h4.top_lt, ihl h3, ihr h4]
    split
    · split <;> rfl
    · have hc : c ≠ 0 := fun e => by have := hk.pos; rw [e] at this; exact absurd this (by decide)
      rw [show c * cov t l.top * (v * expT t row set l) + c * cov t r.top * (v * expT t row set r) = c * (v * (cov t l.top * expT t row set l + cov t r.top * expT t row set r)) by grind, Rat.div_def, Rat.div_def, Rat.inv_mul_rev]
      rw [show c * (v * (cov t l.top * expT t row set l + cov t r.top * expT t row set r)) * ((cov t i)⁻¹ * c⁻¹) = (c * c⁻¹) * (v * ((cov t l.top * expT t row set l + cov t r.top * expT t row set r) * (cov t i)⁻¹)) by grind, Rat.mul_inv_cancel _ hc, Rat.one_mul]
theorem rsum_lmul (f : Nat → Rat) (v : Rat) (n : Nat) : rsum (fun i => v * f i) n = v * rsum f n := by
  have := rsum_mul f v n
  rw [Rat.mul_comm, ← this]
  exact rsum_congr fun i _ => Rat.mul_comm _ _
theorem treeAt_map (m : MODEL) (f' : Int) (g : NODE → NODE) {i : Nat} (hi : i < m.2.length) : treeAt (f', m.2.map (List.map g)) i = (treeAt m i).map g := by
  rw [treeAt_get hi, treeAt_get (m := (f', m.2.map (List.map g))) (by simpa using hi), List.getElem_map]
theorem sayM_map {m : MODEL} (h : Good m) (hk : Keeps g m.1 f' c) {v : Rat} {row row' : List CELL} {set set' : Nat}
    (hv : ∀ n, nLeaf n = true → rv (nVal (g n)) = v * rv (nVal n)) (hgo : ∀ n, nLeaf n = false → 0 ≤ nFeat n → nFeat n < m.1 → goes (g n) (cellAt row' (nFeat (g n)).toNat) = goes n (cellAt row (nFeat n).toNat) ∧ set'.testBit (nFeat (g n)).toNat = set.testBit (nFeat n).toNat) :
    sayM (f', m.2.map (List.map g)) row' set' = v * sayM m row set := by
  rw [sayM, sayM, ← rsum_lmul, List.length_map]
  refine rsum_congr fun i hi => ?_
  rw [treeAt_map m f' g hi]
  have e := treeOf_map h hk hi
  rw [treeAt_get hi, e]
  exact expT_map hk hv (fun j hj hl f0 f1 => by
    obtain ⟨a, b⟩ := hgo _ hl f0 f1
    refine ⟨?_, b⟩
    rw [goL, goL, nodeAt_map hk hj, a]) (h.treeOf hi).1

theorem tidy_keeps {f : Int} (h0 : 0 ≤ f) (h1 : f ≤ 64) : Keeps tidyNode f f 1 where
  leaf n := by
    cases hl : nLeaf n with
    | true => rw [tidy_leaf hl]; rfl
    | false => rw [tidy_split hl]
  l n hl := by rw [tidy_split hl]
  r n hl := by rw [tidy_split hl]
  feat n hl a b := by rw [tidy_split hl]; exact ⟨a, b⟩
  fits n hl _ := by rw [tidy_leaf hl]; exact (show NodeFits (leafOf (canQ (rv (nVal n))) (canQ (rv (nCov n)))) from ⟨Int.le_refl 0, (by decide : (0 : Int) ≤ 64), Int.le_refl 0, (by decide : (0 : Int) ≤ 255), Int.le_refl 0, (by decide : (0 : Int) ≤ 255)⟩)
  cov n := by
    rw [Rat.one_mul]
    cases hl : nLeaf n with
    | true => rw [tidy_leaf hl]; exact rv_canQ _
    | false => rw [tidy_split hl]; exact rv_canQ _
  pos := by decide
  low := h0
  high := h1
theorem Good.tidy {m : MODEL} (h : Good m) : Good (tidyM m) := h.map (tidy_keeps h.1.1 h.1.2.1)
theorem tidy_val {n : NODE} (hl : nLeaf n = true) : rv (nVal (tidyNode n)) = 1 * rv (nVal n) := by
  rw [tidy_leaf hl, Rat.one_mul]; exact rv_canQ _
theorem tidy_goes {n : NODE} (hl : nLeaf n = false) (c : CELL) : goes (tidyNode n) c = goes n c := by
  rw [tidy_split hl, goes, goes]
  show (if c.1 = true then nMiss n else decide (rv c.2 < rv (canQ (rv (nCut n))))) = _
  rw [rv_canQ]
theorem sayM_tidy {m : MODEL} (h : Good m) (row : List CELL) (set : Nat) : sayM (tidyM m) row set = sayM m row set := by
  have := sayM_map (row := row) (row' := row) (set := set) (set' := set) h (tidy_keeps h.1.1 h.1.2.1) (v := 1) (fun n hl => tidy_val hl) (fun n hl f0 f1 => by
    rw [tidy_goes hl]
    rw [show nFeat (tidyNode n) = nFeat n by rw [tidy_split hl]]
    exact ⟨rfl, rfl⟩)
  rw [Rat.one_mul] at this
  exact this
theorem tidyM_sz {m : MODEL} {k : Nat} (h : MSz m k) (hk : 0 < k) : MSz (tidyM m) k := by
  intro t ht
  obtain ⟨u, hu, rfl⟩ := List.mem_map.1 ht
  exact tidyTree_sz (h u hu) hk

theorem rsum_append (f : Nat → Rat) (n k : Nat) : rsum f (n + k) = rsum f n + rsum (fun i => f (n + i)) k := by
  induction k with
  | zero => simp [rsum, Rat.add_zero]
  | succ k ih => show rsum f (n + k) + f (n + k) = _; rw [ih, rsum, Rat.add_assoc]
theorem sayM_append (f : Int) (a b : List (List NODE)) (row : List CELL) (set : Nat) : sayM (f, a ++ b) row set = sayM (f, a) row set + sayM (f, b) row set := by
  rw [sayM, List.length_append, rsum_append, sayM, sayM]
  congr 1
  · refine rsum_congr fun i hi => ?_
    have : treeAt (f, a ++ b) i = treeAt (f, a) i := by simp only [treeAt]; rw [List.getElem?_append_left hi]
    rw [this]
  · refine rsum_congr fun i hi => ?_
    have : treeAt (f, a ++ b) (a.length + i) = treeAt (f, b) i := by simp only [treeAt]; rw [List.getElem?_append_right (by omega), Nat.add_sub_cancel_left]
    rw [this]
theorem Good.append {f : Int} {a b : List (List NODE)} (ha : Good (f, a)) (hb : Good (f, b)) (hl : a.length + b.length ≤ 64) : Good (f, a ++ b) := by
  refine ⟨⟨ha.1.1, ha.1.2.1, by simpa using hl, fun i hi => ?_⟩, fun r hr i hi => ?_⟩
  · simp only [List.length_append] at hi
    simp only [List.getElem_append]
    split
    · exact ha.1.2.2.2 i (by assumption)
    · exact hb.1.2.2.2 (i - a.length) (show i - a.length < b.length by omega)
  · simp only [List.length_append] at hi
    simp only [List.getElem_append]
    split
    · exact ha.2 r hr i (by assumption)
    · exact hb.2 r hr (i - a.length) (show i - a.length < b.length by omega)
end Go.Proofs.YtpjgaieoijpagaaDoor.X


/- Trim: models joined, cut, widened. -/
namespace Go.Proofs.YtpjgaieoijpagaaDoor.X
open Go
set_option linter.unusedVariables false
set_option linter.unusedSimpArgs false

theorem clone_ok {l : List (List NODE)} (h : l.length ≤ 1000000) : trim_clone_of_LapiNode l = some l := by
  have d : (([] : List (List NODE)).length + l.length) * 24 ≤ 140737488355328 := by simp; omega
  rw [trim_clone_of_LapiNode, blt d, cond_true, List.nil_append]
theorem tidyM_len (m : MODEL) : (tidyM m).2.length = m.2.length := by simp [tidyM]
theorem tidyM_mem {m : MODEL} {k : Nat} (h : ∀ t ∈ m.2, t.length ≤ k) : ∀ t ∈ (tidyM m).2, t.length ≤ k := by
  intro t ht
  obtain ⟨u, hu, rfl⟩ := List.mem_map.1 ht
  simpa [tidyTree] using h u hu
def joinM (a b : MODEL) : MODEL := (a.1, (tidyM a).2 ++ (tidyM b).2)
theorem Join_ok {a b : MODEL} (ha : valid_Ok a = some true) (hb : valid_Ok b = some true) (hf : a.1 = b.1) (hl : a.2.length + b.2.length ≤ 64)
    (ta : ∀ t ∈ a.2, t.length ≤ 255) (tb : ∀ t ∈ b.2, t.length ≤ 255) (sa : MSz a 4) (sb : MSz b 4) : trim_Join a b = some (joinM a b, 0) := by
  have t1 := Tidy_ok (m := a) (by omega) (fun t h => by have := ta t h; omega) sa (by decide)
  have t2 := Tidy_ok (m := b) (by omega) (fun t h => by have := tb t h; omega) sb (by decide)
  have i1 : iadd .i64 (a.2.length : Int) (b.2.length : Int) = (a.2.length : Int) + (b.2.length : Int) := iadd_i (by omega) (by omega)
  have la := tidyM_len a
  have lb := tidyM_len b
  have d : (((tidyM a).2).length + (tidyM b).2.length) * 24 ≤ 140737488355328 := by omega
  rw [trim_Join, ha, Option.bind_some, Bool.not_true, cond_false, hb, Option.bind_some, Bool.not_true, cond_false, decide_eq_true hf, Bool.not_true, cond_false, i1, cnd' (by omega), t1, Option.bind_some, t2, Option.bind_some, clone_ok (by omega), Option.bind_some, blt d]
  rfl
theorem Same_zero : dendronref07_Same ((0, []) : MODEL) (0, []) = some true := Same_self (by decide) (by simp) (by intro t h; cases h)

/-! As many trees as may be -/
abbrev oneLeaf : List NODE := [(true, (0, (((false, []), []), (0, (0, (false, (((false, []), []), canQ 1)))))))]
def manyM (n : Nat) : MODEL := (0, List.replicate n oneLeaf)
theorem oneLeaf_sz : TSz oneLeaf 4 := by
  intro n hn
  simp only [oneLeaf, List.mem_singleton] at hn
  subst hn
  exact ⟨⟨Nat.zero_le _, Nat.zero_le _⟩, ⟨Nat.zero_le _, Nat.zero_le _⟩, (SzQ.one.mono (by decide)).szR⟩
theorem manyM_good {n : Nat} (h : n ≤ 64) : Good (manyM n) := by
  have get : ∀ i (hi : i < (manyM n).2.length), (manyM n).2[i] = oneLeaf := fun i hi => List.getElem_replicate ..
  refine ⟨⟨Int.le_refl 0, (by decide : (0 : Int) ≤ 64), by simp [manyM]; exact h, fun i hi => ?_⟩, fun r hr i hi => ?_⟩
  · rw [get i hi]
    refine ⟨by decide, by decide, fun j hj => ?_⟩
    have : j = 0 := by simp at hj; omega
    subst this
    exact ⟨Int.le_refl 0, (by decide : (0 : Int) ≤ 64), Int.le_refl 0, (by decide : (0 : Int) ≤ 255), Int.le_refl 0, (by decide : (0 : Int) ≤ 255)⟩
  · rw [get i hi]
    have leaf : ∀ j (hj : j < oneLeaf.length), nLeaf oneLeaf[j] = true := by
      intro j hj
      have : j = 0 := by simp at hj; omega
      subst this; rfl
    match r, hr with
    | 0, _ => intro j hj hl; rw [leaf j hj] at hl; cases hl
    | 1, _ =>
      refine ⟨fun j h0 hj => ?_, fun _ => 0, fun j hj => ⟨Nat.zero_le _, fun c hc => ?_⟩⟩
      · simp at hj; omega
      · rw [kids_leaf hj (leaf j hj)] at hc; cases hc
    | 2, _ =>
      intro j hj
      have : j = 0 := by simp at hj; omega
      subst this
      show 0 < rv (canQ 1)
      rw [rv_canQ]; decide
    | 3, _ => intro j hj hl; rw [leaf j hj] at hl; cases hl
theorem manyM_sz (n : Nat) : MSz (manyM n) 4 := by
  intro t ht
  rw [(List.mem_replicate.1 ht).2]
  exact oneLeaf_sz
theorem manyM_len (n : Nat) : (manyM n).2.length = n := by simp [manyM]
theorem manyM_tlen (n : Nat) : ∀ t ∈ (manyM n).2, t.length ≤ 15 := by
  intro t ht
  rw [(List.mem_replicate.1 ht).2]
  decide
theorem manyM_ok {n : Nat} (h : n ≤ 64) : valid_Ok (manyM n) = some true := by
  obtain ⟨b, h1, h2⟩ := Ok_ok (m := manyM n) (by rw [manyM_len]; omega) (fun t ht => by have := manyM_tlen n t ht; omega) (manyM_sz n) (by decide)
  rw [h1, h2.2 (manyM_good h)]
theorem rep_push {α : Type} (x : α) (n : Nat) : List.replicate n x ++ [x] = List.replicate (n + 1) x := by rw [List.replicate_succ']
theorem TrimMany_true (a0 b0 : Int) : dendronlaw25_TrimMany a0 b0 = some true := by
  rw [dendronlaw25_TrimMany]
  by_cases h1 : a0 < 0
  · rw [cnd h1, law25_awake_ok]; rfl
  by_cases h2 : a0 > 64
  · rw [cnd' h1, cnd h2, law25_awake_ok]; rfl
  by_cases h3 : b0 < 0
  · rw [cnd' h1, cnd' h2, cnd h3, law25_awake_ok]; rfl
  by_cases h4 : b0 > 64
  · rw [cnd' h1, cnd' h2, cnd' h3, cnd h4, law25_awake_ok]; rfl
  obtain ⟨a, rfl⟩ := Int.eq_ofNat_of_zero_le (show 0 ≤ a0 by omega)
  obtain ⟨b, rfl⟩ := Int.eq_ofNat_of_zero_le (show 0 ≤ b0 by omega)
  have l1 := lp_up (step := dendronlaw25_TrimMany_s6) (fun i => (((a : Int), (b : Int), oneLeaf, (i : Int), ()), ((0, List.replicate i oneLeaf, ()), (0, [], ()), ()))) a (r := (((a : Int), (b : Int), oneLeaf, ()), ((0, List.replicate a oneLeaf, ()), (0, [], ()), ()))) (by omega) (by
    intro g i hi
    have d0 : (i : Int) < (a : Int) := by omega
    have d4 : ((List.replicate i oneLeaf).length + 1) * 24 ≤ 140737488355328 := by rw [List.length_replicate]; omega
    rw [dendronlaw25_TrimMany_s6, cnd d0, blt d4, cond_true, iadd1 (by omega), rep_push]
    rfl) (by
    intro g
    rw [dendronlaw25_TrimMany_s6, cnd' (by omega)])
  have l2 := lp_up (step := dendronlaw25_TrimMany_s10) (fun i => (((a : Int), (b : Int), oneLeaf, (i : Int), ()), ((0, List.replicate a oneLeaf, ()), (0, List.replicate i oneLeaf, ()), ()))) b (r := (((a : Int), (b : Int), ()), ((0, List.replicate a oneLeaf, ()), (0, List.replicate b oneLeaf, ()), ()))) (by omega) (by
    intro g i hi
    have d0 : (i : Int) < (b : Int) := by omega
    have d4 : ((List.replicate i oneLeaf).length + 1) * 24 ≤ 140737488355328 := by rw [List.length_replicate]; omega
    rw [dendronlaw25_TrimMany_s10, cnd d0, blt d4, cond_true, iadd1 (by omega), rep_push]
    rfl) (by
    intro g
    rw [dendronlaw25_TrimMany_s10, cnd' (by omega)])
  have l1 : lp dendronlaw25_TrimMany_s6 K0 (((a : Int), (b : Int), oneLeaf, 0, ()), ((0, [], ()), (0, [], ()), ())) = _ := l1
  have l2 : lp dendronlaw25_TrimMany_s10 K0 (((a : Int), (b : Int), oneLeaf, 0, ()), ((0, List.replicate a oneLeaf, ()), (0, [], ()), ())) = _ := l2
  have i1 : iadd .i64 (a : Int) (b : Int) = (a : Int) + (b : Int) := iadd_i (by omega) (by omega)
  have v1 := manyM_ok (n := a) (by omega)
  have v2 := manyM_ok (n := b) (by omega)
  rw [cnd' h1, cnd' h2, cnd' h3, cnd' h4, ratio_One_ok, Option.bind_some, l1, Option.bind_some]
  dsimp only
  rw [l2, Option.bind_some]
  dsimp only
  rw [i1]
  by_cases h : a + b ≤ 64
  · have hj := Join_ok (a := manyM a) (b := manyM b) v1 v2 rfl (by rw [manyM_len, manyM_len]; omega) (fun t ht => by have := manyM_tlen a t ht; omega) (fun t ht => by have := manyM_tlen b t ht; omega) (manyM_sz a) (manyM_sz b)
    have hj : trim_Join (0, List.replicate a oneLeaf) (0, List.replicate b oneLeaf) = _ := hj
    have e : ((joinM (manyM a) (manyM b)).2.length : Int) = (a : Int) + (b : Int) := by
      simp only [joinM, List.length_append, tidyM_len, manyM_len]; omega
    rw [hj, Option.bind_some, cnd' (by omega), cnd rfl, cnd e, law25_awake_ok]
    rfl
  · have hj : trim_Join (0, List.replicate a oneLeaf) (0, List.replicate b oneLeaf) = some ((0, []), 16) := by
      have v1 : valid_Ok (0, List.replicate a oneLeaf) = some true := v1
      have v2 : valid_Ok (0, List.replicate b oneLeaf) = some true := v2
      rw [trim_Join, v1, Option.bind_some, Bool.not_true, cond_false, v2, Option.bind_some, Bool.not_true, cond_false, decide_eq_true rfl, Bool.not_true, cond_false, List.length_replicate, List.length_replicate, i1, cnd (by omega)]
    rw [hj, Option.bind_some, cnd (by omega), cnd (p := ((([] : List (List NODE)).length : Nat) : Int) = 0) rfl, cnd rfl, law25_awake_ok]
    rfl
end Go.Proofs.YtpjgaieoijpagaaDoor.X


/- Trim: TrimHeads, TrimJoins. -/
namespace Go.Proofs.YtpjgaieoijpagaaDoor.X
open Go
set_option linter.unusedVariables false
set_option linter.unusedSimpArgs false

theorem sz_up {m : MODEL} (h : MSz m 4) : MSz m 4611686018427387903 := by
  intro t ht n hn
  have := h t ht n hn
  exact ⟨⟨Nat.le_trans this.1.1 (by decide), Nat.le_trans this.1.2 (by decide)⟩, ⟨Nat.le_trans this.2.1.1 (by decide), Nat.le_trans this.2.1.2 (by decide)⟩, ⟨Nat.le_trans this.2.2.1 (by decide), Nat.le_trans this.2.2.2 (by decide)⟩⟩
def wideL (m t : MODEL) (f : Int) (r3 : MODEL × Int) : Option Bool :=
  bif (decide (f < m.1)) then (bif (decide (r3.2 = 8)) then ((dendronref07_Same r3.1 (0, [])).bind fun r10 => bif r10 then ((dendronlaw25_awake ).bind fun r11 => some r11) else (some false)) else (some false)) else (bif (decide (f > 64)) then (bif (decide (r3.2 = 8)) then ((dendronref07_Same r3.1 (0, [])).bind fun r12 => bif r12 then ((dendronlaw25_awake ).bind fun r13 => some r13) else (some false)) else (some false)) else (bif (decide (r3.2 = 0)) then ((dendronref07_Same r3.1 (f, t.2)).bind fun r14 => bif r14 then ((dendronlaw25_awake ).bind fun r15 => some r15) else (some false)) else (some false)))
theorem wide_ok {m : MODEL} (hv : valid_Ok m = some true) (ms : MSz m 4) (ml : m.2.length ≤ 6) (mt : ∀ t ∈ m.2, t.length ≤ 15) (f : Int) : ∃ r, trim_Wide m f = some r ∧ wideL m (tidyM m) f r = some true := by
  by_cases h1 : f < m.1
  · exact ⟨((0, []), 8), by rw [trim_Wide, hv, Option.bind_some, Bool.not_true, cond_false, cnd h1], by rw [wideL, cnd h1, cnd rfl, Same_zero, Option.bind_some, cond_true, law25_awake_ok]; rfl⟩
  by_cases h2 : f > 64
  · exact ⟨((0, []), 8), by rw [trim_Wide, hv, Option.bind_some, Bool.not_true, cond_false, cnd' h1, cnd h2], by rw [wideL, cnd' h1, cnd h2, cnd rfl, Same_zero, Option.bind_some, cond_true, law25_awake_ok]; rfl⟩
  have t1 := Tidy_ok (m := m) (by omega) (fun t h => by have := mt t h; omega) ms (by decide)
  have hs := Same_self (m := (f, (tidyM m).2)) (by show (tidyM m).2.length < _; rw [tidyM_len]; omega) (fun t h => by have := tidyM_mem mt t h; omega) (sz_up (m := (f, (tidyM m).2)) (fun t h => tidyM_sz ms (by decide) t h))
  exact ⟨((f, (tidyM m).2), 0), by rw [trim_Wide, hv, Option.bind_some, Bool.not_true, cond_false, cnd' h1, cnd' h2, t1]; rfl, by rw [wideL, cnd' h1, cnd' h2, cnd rfl, hs, Option.bind_some, cond_true, law25_awake_ok]; rfl⟩
theorem TrimHeads_true (m0 : MODEL) (n f : Int) (hl : m0.2.length ≤ 9223372036854775807) (ht : ∀ t ∈ m0.2, t.length ≤ 9223372036854775807) : dendronlaw25_TrimHeads m0 n f = some true := by
  have hf := Few07_ok m0 hl ht
  have ms := cutM_sz m0
  have mt := cutM_tlen m0
  have ml := cutM_len m0
  obtain ⟨m, em⟩ : ∃ m, m = cutM m0 := ⟨_, rfl⟩
  rw [← em] at hf ms mt ml
  obtain ⟨b, hv, hb⟩ := Ok_ok (m := m) (by omega) (fun t h => by have := mt t h; omega) ms (by decide)
  rw [dendronlaw25_TrimHeads, hf, Option.bind_some]
  cases b with
  | false =>
    have e1 : trim_Head m n = some ((0, []), 1) := by rw [trim_Head, hv]; rfl
    have e2 : trim_Wide m f = some ((0, []), 1) := by rw [trim_Wide, hv]; rfl
    rw [e1, Option.bind_some, e2, Option.bind_some, hv, Option.bind_some, Bool.not_false, cond_true, cnd rfl, cnd rfl, Same_zero, Option.bind_some, cond_true, Option.bind_some, cond_true, law25_awake_ok]
    rfl
  | true =>
    obtain ⟨r3, w1, w2⟩ := wide_ok hv ms ml mt f
    have t1 := Tidy_ok (m := m) (by omega) (fun t h => by have := mt t h; omega) ms (by decide)
    by_cases h1 : n < 0
    · have e1 : trim_Head m n = some ((0, []), 8) := by rw [trim_Head, hv, Option.bind_some, Bool.not_true, cond_false, cnd h1]
      rw [e1, Option.bind_some, w1, Option.bind_some, hv, Option.bind_some, Bool.not_true, cond_false, t1, Option.bind_some, cnd h1, show (!decide ((8 : Int) = 8)) = false by decide, cond_false, Same_zero, Option.bind_some, Bool.not_true, cond_false]
      exact w2
    by_cases h2 : n > (m.2.length : Int)
    · have e1 : trim_Head m n = some ((0, []), 8) := by rw [trim_Head, hv, Option.bind_some, Bool.not_true, cond_false, cnd' h1, cnd h2]
      rw [e1, Option.bind_some, w1, Option.bind_some, hv, Option.bind_some, Bool.not_true, cond_false, t1, Option.bind_some, cnd' h1, cnd h2, show (!decide ((8 : Int) = 8)) = false by decide, cond_false, Same_zero, Option.bind_some, Bool.not_true, cond_false]
      exact w2
    have lt := tidyM_len m
    have d0 : 0 ≤ n := by omega
    have d1 : n ≤ ((tidyM m).2.length : Int) := by omega
    have e1 : trim_Head m n = some (((tidyM m).1, (tidyM m).2.take n.toNat), 0) := by
      rw [trim_Head, hv, Option.bind_some, Bool.not_true, cond_false, cnd' h1, cnd' h2, t1, Option.bind_some, cnd2 d0 d1, clone_ok (by simp; omega)]
      rfl
    have hs := Same_self (m := ((tidyM m).1, (tidyM m).2.take n.toNat)) (by show ((tidyM m).2.take n.toNat).length < _; rw [List.length_take]; omega) (fun t h => by have := tidyM_mem mt t (List.mem_of_mem_take h); omega) (sz_up (m := ((tidyM m).1, (tidyM m).2.take n.toNat)) (fun t h => tidyM_sz ms (by decide) t (List.mem_of_mem_take h)))
    have hs : dendronref07_Same ((tidyM m).1, (tidyM m).2.take n.toNat) (m.1, (tidyM m).2.take n.toNat) = some true := hs
    rw [e1, Option.bind_some, w1, Option.bind_some, hv, Option.bind_some, Bool.not_true, cond_false, t1, Option.bind_some, cnd' h1, cnd' h2, show (!decide ((0 : Int) = 0)) = false by decide, cond_false, cnd2 d0 d1, hs, Option.bind_some, Bool.not_true, cond_false]
    exact w2

def sizeM (m : MODEL) : Nat := (m.2.map List.length).sum
theorem Size_ok {m : MODEL} (ml : m.2.length ≤ 64) (mt : ∀ t ∈ m.2, t.length ≤ 255) : trim_Size m = some (sizeM m : Int) ∧ sizeM m ≤ 255 * 64 := by
  have part : ∀ l : List (List NODE), (∀ t ∈ l, t.length ≤ 255) → (l.map List.length).sum ≤ 255 * l.length := by
    intro l
    induction l with
    | nil => intro _; simp
    | cons t l ih =>
      intro h
      have h1 := ih fun u hu => h u (List.mem_cons_of_mem _ hu)
      have h2 := h t List.mem_cons_self
      simp only [List.map_cons, List.sum_cons, List.length_cons]
      omega
  have bound : sizeM m ≤ 255 * 64 := Nat.le_trans (part m.2 mt) (Nat.mul_le_mul_left _ ml)
  refine ⟨?_, bound⟩
  have key := lp_up (step := trim_Size_s3) (fun i => ((((((m.2.take i).map List.length).sum : Nat) : Int), m.2, (m.2.length : Int), (i : Int), ()), ())) m.2.length (r := (((sizeM m : Int), ()), ())) (by omega) (by
    intro g i hi
    have d0 : (i : Int) < (m.2.length : Int) := by omega
    have d1 : (0 : Int) ≤ (i : Int) := by omega
    have h1 := part (m.2.take i) (fun t h => mt t (List.mem_of_mem_take h))
    have h2 := mt _ (List.getElem_mem hi)
    have h3 : (m.2.take i).length ≤ i := by simp; omega
    have i2 : iadd .i64 ((((m.2.take i).map List.length).sum : Nat) : Int) (m.2[i].length : Int) = ((((m.2.take (i + 1)).map List.length).sum : Nat) : Int) := by
      rw [iadd_i (by omega) (by omega), map_take_succ _ hi, List.sum_append]
      simp
    rw [trim_Size_s3, cnd d0, cnd d1, Int.toNat_natCast, List.getElem?_eq_getElem hi, Option.bind_some, i2, iadd1 (by omega)]
    rfl) (by
    intro g
    rw [trim_Size_s3, cnd' (by omega), List.take_length]
    rfl)
  have key : lp trim_Size_s3 K0 ((0, m.2, (m.2.length : Int), 0, ()), ()) = _ := key
  rw [trim_Size, key]
  rfl
theorem sizeM_tidy (m : MODEL) : sizeM (tidyM m) = sizeM m := by
  simp only [sizeM, tidyM, List.map_map]
  congr 1
  refine List.map_congr_left fun t _ => ?_
  simp [tidyTree]
theorem sizeM_join (a b : MODEL) : sizeM (joinM a b) = sizeM a + sizeM b := by
  have e : sizeM (joinM a b) = sizeM (tidyM a) + sizeM (tidyM b) := by simp only [sizeM, joinM, List.map_append, List.sum_append]
  rw [e, sizeM_tidy, sizeM_tidy]
theorem Same_b {x y : RAT} (hx : Sm x) (hy : Sm y) (h : rv x = rv y) : ratio_Same x y = some true := by
  rw [ratio_Same_ok hx hy, decide_eq_true h]
theorem TrimJoins_true (a0 b0 : MODEL) (row0 : List CELL) (set0 : Int) (hl : a0.2.length ≤ 9223372036854775807) (ht : ∀ t ∈ a0.2, t.length ≤ 9223372036854775807) (hl' : b0.2.length ≤ 9223372036854775807) (ht' : ∀ t ∈ b0.2, t.length ≤ 9223372036854775807) (hr : row0.length ≤ 9223372036854775807) (s0 : 0 ≤ set0) (s1 : set0 < 18446744073709551616) : dendronlaw25_TrimJoins a0 b0 row0 set0 = some true := by
  obtain ⟨set, rfl⟩ := Int.eq_ofNat_of_zero_le s0
  have hset : set < 18446744073709551616 := by omega
  obtain ⟨a, row, hs, ms, ml, mt, cs⟩ := Small_ok a0 row0 hl ht hr
  obtain ⟨b, row', hs', ms', ml', mt', cs'⟩ := Small_ok b0 [] hl' ht' (by simp)
  obtain ⟨ba, hva, hba⟩ := Ok_ok (m := a) (by omega) (fun t h => by have := mt t h; omega) ms (by decide)
  obtain ⟨bb, hvb, hbb⟩ := Ok_ok (m := b) (by omega) (fun t h => by have := mt' t h; omega) ms' (by decide)
  rw [dendronlaw25_TrimJoins, hs, Option.bind_some, hs', Option.bind_some]
  dsimp only
  cases ba with
  | false =>
    have e1 : trim_Join a b = some ((0, []), 1) := by rw [trim_Join, hva]; rfl
    rw [e1, Option.bind_some, hva, Option.bind_some, Bool.not_false, cond_true, show (!decide ((1 : Int) = 0)) = true by decide, cond_true, cnd rfl, Same_zero, Option.bind_some, cond_true, law25_awake_ok]
    rfl
  | true =>
  cases bb with
  | false =>
    have e1 : trim_Join a b = some ((0, []), 1) := by rw [trim_Join, hva, Option.bind_some, hvb]; rfl
    rw [e1, Option.bind_some, hva, Option.bind_some, Bool.not_true, cond_false, hvb, Option.bind_some, Bool.not_false, cond_true, show (!decide ((1 : Int) = 0)) = true by decide, cond_true, cnd rfl, Same_zero, Option.bind_some, cond_true, law25_awake_ok]
    rfl
  | true =>
  by_cases hf : a.1 = b.1
  · have hj := Join_ok hva hvb hf (by omega) (fun t h => by have := mt t h; omega) (fun t h => by have := mt' t h; omega) ms ms'
    have ga := hba.1 rfl
    have gb := hbb.1 rfl
    have gj : Good (joinM a b) := by
      have g1 : Good (a.1, (tidyM a).2) := ga.tidy
      have g2 : Good (a.1, (tidyM b).2) := by rw [hf]; exact gb.tidy
      exact g1.append g2 (by rw [tidyM_len, tidyM_len]; omega)
    have lj : (joinM a b).2.length = a.2.length + b.2.length := by simp only [joinM, List.length_append, tidyM_len]
    have tj : ∀ t ∈ (joinM a b).2, t.length ≤ 15 := by
      intro t h
      rcases List.mem_append.1 h with h | h
      · exact tidyM_mem mt t h
      · exact tidyM_mem mt' t h
    have sj : MSz (joinM a b) 4 := by
      intro t h
      rcases List.mem_append.1 h with h | h
      · exact tidyM_sz ms (by decide) t h
      · exact tidyM_sz ms' (by decide) t h
    obtain ⟨bj, hvj, hbj⟩ := Ok_ok (m := joinM a b) (by omega) (fun t h => by have := tj t h; omega) sj (by decide)
    rw [hbj.2 gj] at hvj
    obtain ⟨z1, z1'⟩ := Size_ok (m := joinM a b) (by omega) (fun t h => by have := tj t h; omega)
    obtain ⟨z2, z2'⟩ := Size_ok (m := a) (by omega) (fun t h => by have := mt t h; omega)
    obtain ⟨z3, z3'⟩ := Size_ok (m := b) (by omega) (fun t h => by have := mt' t h; omega)
    have zz : (!decide ((sizeM (joinM a b) : Int) = iadd .i64 (sizeM a : Int) (sizeM b : Int))) = false := by
      rw [iadd_i (by omega) (by omega), sizeM_join, decide_eq_true (by omega)]; rfl
    rw [hj, Option.bind_some, hva, Option.bind_some, Bool.not_true, cond_false, hvb, Option.bind_some, Bool.not_true, cond_false, decide_eq_true hf, Bool.not_true, cond_false, show (!decide ((0 : Int) = 0)) = false by decide, cond_false, cond_false, hvj, Option.bind_some, Bool.not_true, cond_false, z1, Option.bind_some, z2, Option.bind_some, z3, Option.bind_some, zz, cond_false]
    by_cases hrow : (row.length : Int) = a.1
    · have aa : Askd a row := ⟨ga, hrow, ms, by omega, mt, cs⟩
      have ab : Askd b row := ⟨gb, by rw [hrow, hf], ms', by omega, mt', cs⟩
      have aj : Askd (joinM a b) row := ⟨gj, hrow, sj, by omega, tj, cs⟩
      have x1 := Value11_ok aa hset
      have x2 := Value11_ok ab hset
      have x3 := Value11_ok aj hset
      have q1 : SzQ (sayM a row set) (1 + a.2.length * 1048577) := sayM_sz ga ms mt (Nat.le_refl _)
      have q2 : SzQ (sayM b row set) (1 + b.2.length * 1048577) := sayM_sz gb ms' mt' (Nat.le_refl _)
      have q3 : SzQ (sayM (joinM a b) row set) (1 + (joinM a b).2.length * 1048577) := sayM_sz gj sj tj (Nat.le_refl _)
      have e : sayM (joinM a b) row set = sayM a row set + sayM b row set := by
        have e1 : sayM (joinM a b) row set = sayM (a.1, (tidyM a).2) row set + sayM (a.1, (tidyM b).2) row set := sayM_append a.1 _ _ row set
        have e2 : sayM (a.1, (tidyM a).2) row set = sayM a row set := sayM_tidy ga row set
        have e3 : sayM (a.1, (tidyM b).2) row set = sayM b row set := by rw [hf]; exact sayM_tidy gb row set
        rw [e1, e2, e3]
      have q12 := q1.add q2
      have hadd := ratio_Add_ok (q1.sm (by omega)) (q2.sm (by omega))
      rw [rv_canQ, rv_canQ] at hadd
      have hsame := Same_b (x := canQ (sayM (joinM a b) row set)) (y := canQ (sayM a row set + sayM b row set)) (q3.sm (by omega)) (q12.sm (by omega)) (by rw [rv_canQ, rv_canQ, e])
      rw [decide_eq_true hrow, Bool.not_true, cond_false, x1, Option.bind_some, x2, Option.bind_some, hadd, Option.bind_some, x3, Option.bind_some, hsame, Option.bind_some, cond_true, law25_awake_ok]
      rfl
    · rw [decide_eq_false hrow, Bool.not_false, cond_true, law25_awake_ok]
      rfl
  · have hj : trim_Join a b = some ((0, []), 14) := by rw [trim_Join, hva, Option.bind_some, Bool.not_true, cond_false, hvb, Option.bind_some, Bool.not_true, cond_false, decide_eq_false hf]; rfl
    rw [hj, Option.bind_some, hva, Option.bind_some, Bool.not_true, cond_false, hvb, Option.bind_some, Bool.not_true, cond_false, decide_eq_false hf, Bool.not_false, cond_true, show (!decide ((14 : Int) = 0)) = true by decide, cond_true, cnd rfl, Same_zero, Option.bind_some, cond_true, law25_awake_ok]
    rfl
end Go.Proofs.YtpjgaieoijpagaaDoor.X

