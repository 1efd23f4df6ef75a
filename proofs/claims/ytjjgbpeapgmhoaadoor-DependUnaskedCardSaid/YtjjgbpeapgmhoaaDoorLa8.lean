/- Own work: part of the proof; the first line of each part says what it tells. -/
import Derived.Test.YtjjgbpeapgmhoaaDoorLa7


namespace Go.Proofs.YtjjgbpeapgmhoaaDoor.X
open Go
set_option linter.unusedVariables false
set_option linter.unusedSimpArgs false
def kids (t : List NODE) (i : Nat) : List Nat :=
 match t[i]? with
 | some n => if nLeaf n then [] else [(nL n).toNat, (nR n).toNat]
 | none => []
theorem kids_leaf {t : List NODE} {i : Nat} (h : i < t.length) (hl : nLeaf t[i] = true) : kids t i = [] := by
 have hl' : t[i].1 = true := hl
 simp [kids, h, hl']
theorem kids_split {t : List NODE} {i : Nat} (h : i < t.length) (hl : nLeaf t[i] = false) : kids t i = [(nL t[i]).toNat, (nR t[i]).toNat] := by
 have hl' : t[i].1 = false := hl
 simp [kids, h, hl']
def cnt (t : List NODE) (i j : Nat) : Nat := ((List.range i).flatMap (kids t)).count j
theorem cnt_zero (t : List NODE) (j : Nat) : cnt t 0 j = 0 := by simp [cnt]
theorem cnt_succ (t : List NODE) (i j : Nat) : cnt t (i + 1) j = cnt t i j + (kids t i).count j := by
 simp [cnt, List.range_succ, List.flatMap_append]
theorem cnt_le (t : List NODE) (i j : Nat) : cnt t i j ≤ 2 * i := by
 induction i with
 | zero => simp [cnt_zero]
 | succ i ih =>
  rw [cnt_succ]
  have h1 : (kids t i).count j ≤ (kids t i).length := List.count_le_length
  have h2 : (kids t i).length ≤ 2 := by
   unfold kids
   split
   · split <;> simp
   · simp
  omega
def Ranked (t : List NODE) : Prop := ∃ rk : Nat → Nat, ∀ i, i < t.length → rk i ≤ t.length ∧ ∀ c ∈ kids t i, rk c < rk i
def ShapeP (t : List NODE) : Prop := (∀ j, 0 < j → j < t.length → cnt t t.length j = 1) ∧ Ranked t
theorem nodup_len : ∀ {n : Nat} {V : List Nat}, V.Nodup → (∀ x ∈ V, x < n) → V.length ≤ n
 | 0, V, _, h => by
  cases V with
  | nil => simp
  | cons x V => have := h x List.mem_cons_self; omega
 | n + 1, V, hnd, h => by
  by_cases hm : n ∈ V
  · have h1 : (V.erase n).Nodup := hnd.sublist List.erase_sublist
    have h2 : ∀ x ∈ V.erase n, x < n := by
     intro x hx
     have := (List.Nodup.mem_erase_iff hnd).1 hx
     have := h x this.2
     omega
    have h3 := nodup_len h1 h2
    have h4 := List.length_erase_of_mem hm
    omega
  · have := nodup_len hnd (n := n) (fun x hx => by
     have := h x hx
     have : x ≠ n := fun e => hm (e ▸ hx)
     omega)
    omega
section
variable {t : List NODE} {f : Int}
theorem kids_lt (hr : RangesP t f) {i c : Nat} (hi : i < t.length) (hc : c ∈ kids t i) : 0 < c ∧ c < t.length := by
 cases hl : nLeaf t[i] with
 | true => rw [kids_leaf hi hl] at hc; cases hc
 | false =>
  obtain ⟨_, _, h1, h2, h3, h4⟩ := hr i hi hl
  rw [kids_split hi hl] at hc
  simp at hc
  rcases hc with rfl | rfl <;> omega
theorem cnt_split (t : List NODE) (j : Nat) {a n : Nat} (ha : a < n) : (kids t a).count j ≤ cnt t n j := by
 induction n with
 | zero => omega
 | succ n ih =>
  rw [cnt_succ]
  by_cases e : a = n
  · subst e; omega
  · have := ih (by omega); omega
theorem cnt_two (t : List NODE) (j : Nat) {a b n : Nat} (hab : a < b) (hb : b < n) : (kids t a).count j + (kids t b).count j ≤ cnt t n j := by
 induction n with
 | zero => omega
 | succ n ih =>
  rw [cnt_succ]
  by_cases e : b = n
  · subst e
    have := cnt_split t j hab
    omega
  · have := ih (by omega); omega
theorem parent_one (hc : ∀ j, 0 < j → j < t.length → cnt t t.length j = 1) (hr : RangesP t f) {a b j : Nat} (ha : a < t.length) (hb : b < t.length) (h1 : j ∈ kids t a) (h2 : j ∈ kids t b) : a = b := by
 obtain ⟨j0, jl⟩ := kids_lt hr ha h1
 have c1 := List.count_pos_iff.2 h1
 have c2 := List.count_pos_iff.2 h2
 have := hc j j0 jl
 rcases Nat.lt_trichotomy a b with h | h | h
 · have := cnt_two t j h hb; omega
 · exact h
 · have := cnt_two t j h ha; omega
theorem kids_nodup (hc : ∀ j, 0 < j → j < t.length → cnt t t.length j = 1) (hr : RangesP t f) {a : Nat} (ha : a < t.length) : (kids t a).Nodup := by
 rw [List.nodup_iff_count]
 intro j
 by_cases hj : j ∈ kids t a
 · obtain ⟨j0, jl⟩ := kids_lt hr ha hj
   have h1 := cnt_split t j ha
   have h2 := hc j j0 jl
   exact Nat.le_trans h1 (Nat.le_of_eq h2)
 · rw [List.count_eq_zero_of_not_mem hj]; omega
theorem has_parent (hc : ∀ j, 0 < j → j < t.length → cnt t t.length j = 1) {j : Nat} (h0 : 0 < j) (hj : j < t.length) : ∃ p, p < t.length ∧ j ∈ kids t p := by
 have h1 := hc j h0 hj
 have h2 : j ∈ (List.range t.length).flatMap (kids t) := List.count_pos_iff.1 (by rw [← cnt, h1]; omega)
 obtain ⟨p, hp, hm⟩ := List.mem_flatMap.1 h2
 exact ⟨p, by simpa using hp, hm⟩
end
structure Srch (t : List NODE) (V S : List Nat) : Prop where
 nd : (V ++ S).Nodup
 lt : ∀ x ∈ V ++ S, x < t.length
 par : ∀ c ∈ V ++ S, c ≠ 0 → ∃ p ∈ V, c ∈ kids t p
 kid : ∀ p ∈ V, ∀ c ∈ kids t p, c ∈ V ++ S
 root : 0 ∈ V ++ S
 ord : V.Pairwise fun a b => a ∉ kids t b
 self : ∀ x ∈ V, x ∉ kids t x
theorem Srch.init {t : List NODE} (h : 0 < t.length) : Srch t [] [0] where
 nd := by simp
 lt := by simpa using h
 par := by simp
 kid := by simp
 root := by simp
 ord := List.Pairwise.nil
 self := by simp
theorem Srch.step {t : List NODE} {f : Int} (hc : ∀ j, 0 < j → j < t.length → cnt t t.length j = 1) (hr : RangesP t f) {V S : List Nat} {x : Nat} (h : Srch t V (S ++ [x])) : Srch t (V ++ [x]) (S ++ kids t x) := by
 have hxlt : x < t.length := h.lt x (by simp)
 have hnd := h.nd
 rw [← List.append_assoc, List.nodup_append] at hnd
 obtain ⟨n1, n2, n3⟩ := hnd
 have hxVS : x ∉ V ++ S := fun hx => n3 x hx x (by simp) rfl
 have hnew : ∀ c ∈ kids t x, c ∉ V ++ (S ++ [x]) := by
   intro c hcx hmem
   obtain ⟨c0, cl⟩ := kids_lt hr hxlt hcx
   obtain ⟨p, hp, hcp⟩ := h.par c hmem (by omega)
   have := parent_one hc hr (h.lt p (List.mem_append_left _ hp)) hxlt hcp hcx
   subst this
   exact hxVS (List.mem_append_left _ hp)
 have hperm : ((V ++ [x]) ++ (S ++ kids t x)).Perm ((V ++ (S ++ [x])) ++ kids t x) := by
   have e1 : (V ++ [x]) ++ (S ++ kids t x) = V ++ ([x] ++ S) ++ kids t x := by simp
   have e2 : (V ++ (S ++ [x])) ++ kids t x = V ++ (S ++ [x]) ++ kids t x := rfl
   rw [e1, e2]
   exact List.Perm.append_right _ (List.Perm.append_left _ List.perm_append_comm)
 have hmem : ∀ y, y ∈ (V ++ [x]) ++ (S ++ kids t x) ↔ y ∈ V ++ (S ++ [x]) ∨ y ∈ kids t x := by
   intro y; rw [hperm.mem_iff, List.mem_append]
 refine ⟨?_, ?_, ?_, ?_, ?_, ?_, ?_⟩
 · rw [hperm.nodup_iff, List.nodup_append]
   exact ⟨h.nd, kids_nodup hc hr hxlt, fun a ha b hb e => hnew b hb (e ▸ ha)⟩
 · intro y hy
   rcases (hmem y).1 hy with hy | hy
   · exact h.lt y hy
   · exact (kids_lt hr hxlt hy).2
 · intro c hcm hc0
   rcases (hmem c).1 hcm with hy | hy
   · obtain ⟨p, hp, hcp⟩ := h.par c hy hc0
     exact ⟨p, List.mem_append_left _ hp, hcp⟩
   · exact ⟨x, by simp, hy⟩
 · intro p hp c hcp
   rw [hmem]
   rcases List.mem_append.1 hp with hp | hp
   · exact .inl (h.kid p hp c hcp)
   · simp at hp; subst hp; exact .inr hcp
 · rw [hmem]; exact .inl h.root
 · rw [List.pairwise_append]
   refine ⟨h.ord, by simp, fun a ha b hb => ?_⟩
   simp at hb; subst hb
   intro hak
   exact hnew a hak (List.mem_append_left _ ha)
 · intro y hy
   rcases List.mem_append.1 hy with hy | hy
   · exact h.self y hy
   · simp at hy; subst hy
     intro hk
     exact hnew y hk (by simp)
theorem Srch.ranked {t : List NODE} {V : List Nat} (h : Srch t V []) (hall : ∀ i, i < t.length → i ∈ V) : Ranked t := by
 have hnd : V.Nodup := by simpa using h.nd
 have hlen : V.length ≤ t.length := nodup_len hnd (fun x hx => h.lt x (by simpa using hx))
 refine ⟨fun i => V.length - V.idxOf i, fun i hi => ⟨by show V.length - V.idxOf i ≤ t.length; omega, fun c hc => ?_⟩⟩
 have hiV := hall i hi
 have hcV : c ∈ V := by simpa using h.kid i hiV c hc
 have h1 : V.idxOf i < V.length := List.idxOf_lt_length_iff.2 hiV
 have h2 : V.idxOf c < V.length := List.idxOf_lt_length_iff.2 hcV
 have g1 : V[V.idxOf i] = i := List.getElem_idxOf h1
 have g2 : V[V.idxOf c] = c := List.getElem_idxOf h2
 have hne : ¬ V.idxOf c ≤ V.idxOf i := by
  intro hle
  by_cases e : V.idxOf c = V.idxOf i
  · have : c = i := by rw [← g1, ← g2]; simp [e]
    subst this
    exact h.self c hiV hc
  · have := List.pairwise_iff_getElem.1 h.ord _ _ h2 h1 (by omega)
    rw [g1, g2] at this
    exact this hc
 show V.length - V.idxOf c < V.length - V.idxOf i
 omega
theorem Srch.all {t : List NODE} {V : List Nat} (h : Srch t V []) (hc : ∀ j, 0 < j → j < t.length → cnt t t.length j = 1) (hrk : Ranked t) : ∀ i, i < t.length → i ∈ V := by
 obtain ⟨rk, hrk⟩ := hrk
 have key : ∀ (d i : Nat), i < t.length → t.length - rk i ≤ d → i ∈ V := by
  intro d
  induction d with
  | zero =>
   intro i hi hd
   by_cases h0 : i = 0
   · subst h0; simpa using h.root
   · obtain ⟨p, hp, hm⟩ := has_parent hc (by omega) hi
     have h1 := (hrk p hp).1
     have h2 := (hrk p hp).2 i hm
     omega
  | succ d ih =>
   intro i hi hd
   by_cases h0 : i = 0
   · subst h0; simpa using h.root
   · obtain ⟨p, hp, hm⟩ := has_parent hc (by omega) hi
     have h1 := (hrk p hp).1
     have h2 := (hrk p hp).2 i hm
     have := ih p hp (by omega)
     simpa using h.kid p this i hm
 exact fun i hi => key _ i hi (Nat.le_refl _)
def cntL (t : List NODE) (i : Nat) : List Int := (List.range t.length).map fun j => ((cnt t i j : Nat) : Int)
@[simp] theorem cntL_len (t : List NODE) (i : Nat) : (cntL t i).length = t.length := by simp [cntL]
theorem cntL_get {t : List NODE} {i j : Nat} (h : j < t.length) : (cntL t i)[j]? = some ((cnt t i j : Nat) : Int) := by simp [cntL, h]
theorem cntL_step {t : List NODE} {i a b : Nat} (ha : a < t.length) (hb : b < t.length) (hk : kids t i = [a, b]) :
   ((cntL t i).set a (((cnt t i a : Nat) : Int) + 1))[b]? = some ((cnt t i b + (if a = b then 1 else 0) : Nat) : Int) ∧
   ((cntL t i).set a (((cnt t i a : Nat) : Int) + 1)).set b (((cnt t i b + (if a = b then 1 else 0) : Nat) : Int) + 1) = cntL t (i + 1) := by
 constructor
 · rw [List.getElem?_set]
   by_cases e : a = b
   · subst e; simp [ha]
   · rw [if_neg e, cntL_get hb]; simp [e]
 · apply List.ext_getElem?
   intro j
   by_cases hj : j < t.length
   · rw [cntL_get hj, cnt_succ, hk, List.getElem?_set, List.getElem?_set]
     by_cases e1 : b = j
     · subst e1
       by_cases e2 : a = b
       · subst e2; simp [ha]; omega
       · simp [hb, e2, List.count_cons]
     · by_cases e2 : a = j
       · subst e2; simp [ha, e1, List.count_cons]
       · rw [if_neg e1, if_neg e2, cntL_get hj]; simp [List.count_cons, e1, e2]
   · rw [List.getElem?_eq_none (by simp; omega), List.getElem?_eq_none (by simp; omega)]
theorem shape_count {t : List NODE} {f : Int} (hl : t.length < 4294967296) (hr : RangesP t f) :
  lp valid_shape_s3 K0 ((t, List.replicate t.length 0, t, ((t.length : Nat) : Int), 0, ()), ()) = some ((t, cntL t t.length, ()), ()) := by
 have e0 : cntL t 0 = List.replicate t.length 0 := by simp [cntL, cnt_zero, List.map_const']
 have := lp_up (step := valid_shape_s3) (fun i => ((t, cntL t i, t, ((t.length : Nat) : Int), (i : Int), ()), ())) t.length (r := ((t, cntL t t.length, ()), ())) (by omega) (by
  intro g i hi
  have d0 : (i : Int) < ((t.length : Nat) : Int) := by omega
  have d1 : (0 : Int) ≤ (i : Int) := by omega
  cases hleaf : nLeaf t[i] with
  | true =>
   have : cntL t (i + 1) = cntL t i := by
    unfold cntL
    congr 1
    funext j
    rw [cnt_succ, kids_leaf hi hleaf]; simp
   rw [valid_shape_s3, cnd d0, cnd d1, Int.toNat_natCast, List.getElem?_eq_getElem hi, Option.bind_some, show t[i].1 = true from hleaf, iadd1 (by omega), this]
   rfl
  | false =>
   obtain ⟨r1, r2, r3, r4, r5, r6⟩ := hr i hi hleaf
   have hk := kids_split hi hleaf
   have l1 : (nL t[i]).toNat < t.length := by omega
   have l2 : (nR t[i]).toNat < t.length := by omega
   have c1 : (0 : Int) ≤ nL t[i] := by omega
   have c2 : (0 : Int) ≤ nR t[i] := by omega
   have c3 : nL t[i] < ((cntL t i).length : Int) := by rw [cntL_len]; omega
   obtain ⟨s1, s2⟩ := cntL_step l1 l2 hk
   have b1 := cnt_le t i (nL t[i]).toNat
   have b2 := cnt_le t i (nR t[i]).toNat
   have e1 : iadd .i64 ((cnt t i (nL t[i]).toNat : Nat) : Int) 1 = ((cnt t i (nL t[i]).toNat : Nat) : Int) + 1 := iadd1 (by omega)
   have e2 : iadd .i64 ((cnt t i (nR t[i]).toNat + (if (nL t[i]).toNat = (nR t[i]).toNat then 1 else 0) : Nat) : Int) 1 = ((cnt t i (nR t[i]).toNat + (if (nL t[i]).toNat = (nR t[i]).toNat then 1 else 0) : Nat) : Int) + 1 := iadd1 (by split <;> omega)
   have c4 : nR t[i] < (((cntL t i).set (nL t[i]).toNat (((cnt t i (nL t[i]).toNat : Nat) : Int) + 1)).length : Int) := by rw [List.length_set, cntL_len]; omega
   rw [valid_shape_s3, cnd d0, cnd d1, Int.toNat_natCast, List.getElem?_eq_getElem hi, Option.bind_some, show t[i].1 = false from hleaf, Bool.not_false, cond_true, cnd2 c1 c3, cntL_get l1, Option.bind_some, cnd2 c1 c3, Option.bind_some, e1, cnd2 c2 c4, s1, Option.bind_some, cnd2 c2 c4, Option.bind_some, e2, s2, iadd1 (by omega)]
   rfl) (by
  intro g
  rw [valid_shape_s3, cnd' (by omega)])
 rw [← e0]
 exact this
theorem shape_search {t : List NODE} {f : Int} (hl : t.length < 4294967296) (h0 : 0 < t.length) (hr : RangesP t f) (hc : ∀ j, 0 < j → j < t.length → cnt t t.length j = 1) :
  ∃ V, Srch t V [] ∧ lp valid_shape_s17 K0 ((t, List.replicate t.length false, [0], ()), ()) = some ((usedOf t.length V, ()), ()) := by
 obtain ⟨r, ⟨V, hV, rfl⟩, hlp⟩ := lp_wf (step := valid_shape_s17) (fun s => ∃ V S : List Nat, Srch t V S ∧ s = ((t, usedOf t.length V, ints S, ()), ())) (fun s => t.length + 1 - (s.1.2.1.filter id).length)
  (fun r => ∃ V, Srch t V [] ∧ r = ((usedOf t.length V, ()), ())) (v := ((t, List.replicate t.length false, [0], ()), ()))
  ⟨[], [0], Srch.init h0, by simp [usedOf, ints, List.map_const']⟩ (by simp; omega) (by
   rintro s ⟨V, S, hS, rfl⟩
   rcases List.eq_nil_or_concat S with rfl | ⟨S', x, hSx⟩
   · exact .inl ⟨_, ⟨V, hS, rfl⟩, fun g => by rw [valid_shape_s17, cnd' (by simp [ints])]⟩
   · rw [List.concat_eq_append] at hSx
     subst hSx
     have hnd := hS.nd
     have hVl : (V ++ (S' ++ [x])).length ≤ t.length := nodup_len hnd hS.lt
     have hSl : S'.length + 1 ≤ t.length := by simp at hVl; omega
     have hxlt : x < t.length := hS.lt x (by simp)
     have hst := Srch.step hc hr hS
     have hxV : x ∉ V := by
       intro hx
       rw [List.nodup_append] at hnd
       exact hnd.2.2 x hx x (by simp) rfl
     have hcount : ∀ U : List Nat, U.Nodup → (∀ y ∈ U, y < t.length) → ((usedOf t.length U).filter id).length = U.length := by
       intro U hU hlt
       have e1 : ((usedOf t.length U).filter id).length = ((List.range t.length).filter fun j => decide (j ∈ U)).length := by
         unfold usedOf
         rw [List.filter_map, List.length_map]; rfl
       rw [e1]
       refine List.Perm.length_eq ?_
       rw [List.perm_iff_count]
       intro a
       have n1 : ((List.range t.length).filter fun j => decide (j ∈ U)).Nodup := List.Nodup.sublist List.filter_sublist List.nodup_range
       have m1 : a ∈ ((List.range t.length).filter fun j => decide (j ∈ U)) ↔ a ∈ U := by
         simp; exact hlt a
       by_cases ha : a ∈ U
       · rw [List.Nodup.count hU, if_pos ha, List.Nodup.count n1, if_pos (m1.2 ha)]
       · rw [List.count_eq_zero_of_not_mem ha, List.count_eq_zero_of_not_mem (fun h => ha (m1.1 h))]
     have hVnd : V.Nodup := (List.nodup_append.1 hnd).1
     have hm1 := hcount V hVnd (fun y hy => hS.lt y (List.mem_append_left _ hy))
     have hVx : (V ++ [x]).Nodup := (List.nodup_append.1 hst.nd).1
     have hm2 := hcount (V ++ [x]) hVx (fun y hy => hst.lt y (List.mem_append_left _ hy))
     refine .inr ⟨_, ⟨V ++ [x], S' ++ kids t x, hst, rfl⟩, ?_, fun g => ?_⟩
     · show t.length + 1 - ((usedOf t.length (V ++ [x])).filter id).length < t.length + 1 - ((usedOf t.length V).filter id).length
       rw [hm1, hm2]
       simp at hVl ⊢; omega
     · have hlen : (ints (S' ++ [x])).length = S'.length + 1 := by simp
       have e1 : isub .i64 ((S'.length + 1 : Nat) : Int) 1 = ((S'.length : Nat) : Int) := by rw [isub_i] <;> omega
       have c0 : ((S'.length + 1 : Nat) : Int) > 0 := by omega
       have c1 : (0 : Int) ≤ ((S'.length : Nat) : Int) := by omega
       have c2 : ((S'.length : Nat) : Int) < ((S'.length + 1 : Nat) : Int) := by omega
       have g1 : (ints (S' ++ [x]))[S'.length]? = some ((x : Nat) : Int) := by simp [ints]
       have c3 : (decide ((0 : Int) ≤ ((S'.length : Nat) : Int)) && decide (((S'.length : Nat) : Int) ≤ ((S'.length : Nat) : Int)) && decide (((S'.length : Nat) : Int) ≤ ((S'.length + 1 : Nat) : Int))) = true := by
         rw [decide_eq_true c1, decide_eq_true (Int.le_refl _), decide_eq_true (Int.le_of_lt c2)]; rfl
       have c4 : (0 : Int) ≤ ((x : Nat) : Int) := by omega
       have c5 : ((x : Nat) : Int) < ((usedOf t.length V).length : Int) := by simp; omega
       have e2 : (((S'.length : Nat) : Int) - 0).toNat = S'.length := by omega
       have e3 : (ints (S' ++ [x])).take S'.length = ints S' := by simp [ints]
       rw [valid_shape_s17, hlen, cnd c0, e1, cnd2 c1 c2, Int.toNat_natCast, g1, Option.bind_some, c3, cond_true, cnd2 c4 c5, Int.toNat_natCast, usedOf_get hxlt, Option.bind_some, cnd c4, List.getElem?_eq_getElem hxlt, Option.bind_some, usedOf_set hxlt, e2, e3]
       cases hleaf : nLeaf t[x] with
       | true =>
         rw [show t[x].1 = true from hleaf, kids_leaf hxlt hleaf, List.append_nil]
         rfl
       | false =>
         obtain ⟨r1, r2, r3, r4, r5, r6⟩ := hr x hxlt hleaf
         have q1 : (((nL t[x]).toNat : Nat) : Int) = nL t[x] := by omega
         have q2 : (((nR t[x]).toNat : Nat) : Int) = nR t[x] := by omega
         have e4 : ints (S' ++ kids t x) = ints S' ++ [nL t[x], nR t[x]] := by
          rw [kids_split hxlt hleaf]
          simp only [ints, List.map_append, List.map_cons, List.map_nil, q1, q2]
         have hb8 : ((ints S').length + 2) * 8 ≤ 140737488355328 := by rw [ints_len]; omega
         rw [show t[x].1 = false from hleaf, blt hb8, cond_true, Bool.not_false, cond_true, e4])
 exact ⟨V, hV, hlp⟩
theorem shape_ok {t : List NODE} {f : Int} (hl : t.length < 4294967296) (h0 : 0 < t.length) (hr : RangesP t f) : ∃ a e, valid_shape t = some (a, e) ∧ (e = 0 ↔ ShapeP t) := by
 have hcount := shape_count hl hr
 have gd : (decide ((t.length : Int) = (t.length : Int)) && decide (0 ≤ (t.length : Int)) && decide (((8 : Nat) : Int) * (t.length : Int) ≤ 281474976710656) && decide ((t.length : Int) ≤ 9223372036854775807)) = true := by
   have h1 : (0 : Int) ≤ (t.length : Int) := by omega
   have h2 : ((8 : Nat) : Int) * (t.length : Int) ≤ 281474976710656 := by omega
   have h3 : (t.length : Int) ≤ 9223372036854775807 := by omega
   rw [decide_eq_true h1, decide_eq_true h2, decide_eq_true h3, decide_eq_true rfl]; rfl
 have gd1 : (decide ((t.length : Int) = (t.length : Int)) && decide (0 ≤ (t.length : Int)) && decide (((1 : Nat) : Int) * (t.length : Int) ≤ 281474976710656) && decide ((t.length : Int) ≤ 9223372036854775807)) = true := by
   have h1 : (0 : Int) ≤ (t.length : Int) := by omega
   have h2 : ((1 : Nat) : Int) * (t.length : Int) ≤ 281474976710656 := by omega
   have h3 : (t.length : Int) ≤ 9223372036854775807 := by omega
   rw [decide_eq_true h1, decide_eq_true h2, decide_eq_true h3, decide_eq_true rfl]; rfl
 rw [valid_shape, gd, cond_true, Int.toNat_natCast, hcount, Option.bind_some, cntL_len]
 rcases lp_all (step := valid_shape_s10) (fun i => ((t, cntL t t.length, ((t.length : Nat) : Int), (i : Int), ()), ())) t.length (fun i => i = 0 ∨ cnt t t.length i = 1) (fun i => .inr (((i : Int), 11, ()), ())) (.inl ((t, ()), ())) (by omega) (by
     intro i hi
     have d0 : (i : Int) < ((t.length : Nat) : Int) := by omega
     have d1 : (0 : Int) ≤ (i : Int) := by omega
     have d2 : (i : Int) < ((cntL t t.length).length : Int) := by rw [cntL_len]; omega
     by_cases hi0 : i = 0
     · refine .inl ⟨.inl hi0, fun g => ?_⟩
       rw [valid_shape_s10, cnd d0, cnd2 d1 d2, Int.toNat_natCast, cntL_get hi, Option.bind_some, cnd' (by omega), iadd1 (by omega)]
       rfl
     · by_cases h1 : cnt t t.length i = 1
       · refine .inl ⟨.inr h1, fun g => ?_⟩
         rw [valid_shape_s10, cnd d0, cnd2 d1 d2, Int.toNat_natCast, cntL_get hi, Option.bind_some, cnd (by omega), decide_eq_true (by omega), iadd1 (by omega)]
         rfl
       · refine .inr ⟨fun h => by rcases h with h | h <;> contradiction, fun g => ?_⟩
         rw [valid_shape_s10, cnd d0, cnd2 d1 d2, Int.toNat_natCast, cntL_get hi, Option.bind_some, cnd (by omega), decide_eq_false (by omega)]
         rfl) (by
     intro g
     rw [valid_shape_s10, cnd' (by omega)]) with ⟨h, hlp⟩ | ⟨i, hi, h, hlp⟩
 · have hlp : lp valid_shape_s10 K0 ((t, cntL t t.length, ((t.length : Nat) : Int), 0, ()), ()) = some (.inl ((t, ()), ())) := hlp
   have hc : ∀ j, 0 < j → j < t.length → cnt t t.length j = 1 := fun j h1 h2 => by
     rcases h j h2 with h3 | h3
     · omega
     · exact h3
   obtain ⟨V, hV, hlp2⟩ := shape_search hl h0 hr hc
   rw [hlp, Option.bind_some]
   dsimp only
   rw [gd1, cond_true, Int.toNat_natCast, hlp2, Option.bind_some]
   dsimp only
   rw [usedOf_len]
   rcases lp_all (step := valid_shape_s25) (fun i => ((usedOf t.length V, ((t.length : Nat) : Int), (i : Int), ()), ())) t.length (fun i => i ∈ V) (fun i => .inr (((i : Int), 11, ()), ())) (.inl ((), ())) (by omega) (by
       intro i hi
       have d0 : (i : Int) < ((t.length : Nat) : Int) := by omega
       have d1 : (0 : Int) ≤ (i : Int) := by omega
       have d2 : (i : Int) < ((usedOf t.length V).length : Int) := by rw [usedOf_len]; omega
       by_cases hiV : i ∈ V
       · refine .inl ⟨hiV, fun g => ?_⟩
         rw [valid_shape_s25, cnd d0, cnd2 d1 d2, Int.toNat_natCast, usedOf_get hi, Option.bind_some, decide_eq_true hiV, iadd1 (by omega)]
         rfl
       · refine .inr ⟨hiV, fun g => ?_⟩
         rw [valid_shape_s25, cnd d0, cnd2 d1 d2, Int.toNat_natCast, usedOf_get hi, Option.bind_some, decide_eq_false hiV]
         rfl) (by
       intro g
       rw [valid_shape_s25, cnd' (by omega)]) with ⟨h2, hlp3⟩ | ⟨i, hi, h2, hlp3⟩
   · have hlp3 : lp valid_shape_s25 K0 ((usedOf t.length V, ((t.length : Nat) : Int), 0, ()), ()) = some (.inl ((), ())) := hlp3
     rw [hlp3]
     exact ⟨0, 0, rfl, fun _ => ⟨hc, hV.ranked h2⟩, fun _ => rfl⟩
   · have hlp3 : lp valid_shape_s25 K0 ((usedOf t.length V, ((t.length : Nat) : Int), 0, ()), ()) = some (.inr (((i : Int), 11, ()), ())) := hlp3
     rw [hlp3]
     exact ⟨(i : Int), 11, rfl, fun e => (by cases e), fun hp => absurd (hV.all hc hp.2 i hi) h2⟩
 · have hlp : lp valid_shape_s10 K0 ((t, cntL t t.length, ((t.length : Nat) : Int), 0, ()), ()) = some (.inr (((i : Int), 11, ()), ())) := hlp
   rw [hlp]
   refine ⟨(i : Int), 11, rfl, fun e => (by cases e), fun hp => ?_⟩
   exfalso; apply h
   by_cases hi0 : i = 0
   · exact .inl hi0
   · exact .inr (hp.1 i (by omega) hi)
theorem lp_allh' {V T : Type} {step : (V → Option T) → V → Option T} (f : Nat → V) (n : Nat) (ok : Nat → Prop) (Q : T → Prop) (fin : T)
  (hs : ∀ i, i < n → (∀ j, j < i → ok j) → (ok i ∧ ∀ g, step g (f i) = g (f (i + 1))) ∨ (¬ ok i ∧ ∃ r, Q r ∧ ∀ g, step g (f i) = some r)) (he : ∀ g, step g (f n) = some fin) :
  ∀ (d i m : Nat), i + d = n → d < m → (∀ j, j < i → ok j) → ((∀ i, i < n → ok i) ∧ lp step m (f i) = some fin) ∨ (¬ (∀ i, i < n → ok i) ∧ ∃ r, Q r ∧ lp step m (f i) = some r) := by
 intro d
 induction d with
 | zero =>
  intro i m hi hm hok
  obtain ⟨m, rfl⟩ : ∃ k, m = k + 1 := ⟨m - 1, by omega⟩
  have : i = n := by omega
  subst this
  exact .inl ⟨hok, he _⟩
 | succ d ih =>
  intro i m hi hm hok
  obtain ⟨m, rfl⟩ : ∃ k, m = k + 1 := ⟨m - 1, by omega⟩
  rcases hs i (by omega) hok with ⟨h1, h2⟩ | ⟨h1, r, h2, h3⟩
  · have := ih (i + 1) m (by omega) (by omega) (fun j hj => by
     by_cases e : j = i
     · subst e; exact h1
     · exact hok j (by omega))
    have e : lp step (m + 1) (f i) = lp step m (f (i + 1)) := h2 _
    rw [e]; exact this
  · exact .inr ⟨fun h => h1 (h i (by omega)), r, h2, h3 _⟩
theorem lp_allh {V T : Type} {step : (V → Option T) → V → Option T} (f : Nat → V) (n : Nat) (ok : Nat → Prop) (Q : T → Prop) (fin : T) (hn : n < 18446744073709551616)
  (hs : ∀ i, i < n → (∀ j, j < i → ok j) → (ok i ∧ ∀ g, step g (f i) = g (f (i + 1))) ∨ (¬ ok i ∧ ∃ r, Q r ∧ ∀ g, step g (f i) = some r)) (he : ∀ g, step g (f n) = some fin) :
  ((∀ i, i < n → ok i) ∧ lp step K0 (f 0) = some fin) ∨ (¬ (∀ i, i < n → ok i) ∧ ∃ r, Q r ∧ lp step K0 (f 0) = some r) :=
 lp_allh' f n ok Q fin hs he n 0 K0 (by omega) hn (fun j h => by omega)
def NodeFits (n : NODE) : Prop := 0 ≤ nFeat n ∧ nFeat n ≤ 64 ∧ 0 ≤ nL n ∧ nL n ≤ 255 ∧ 0 ≤ nR n ∧ nR n ≤ 255
def TreeFits (t : List NODE) : Prop := 1 ≤ t.length ∧ t.length ≤ 255 ∧ ∀ i (h : i < t.length), NodeFits t[i]
def FitsP (m : MODEL) : Prop := 0 ≤ m.1 ∧ m.1 ≤ 64 ∧ m.2.length ≤ 64 ∧ ∀ i (h : i < m.2.length), TreeFits m.2[i]
theorem fits_inner (a : List (List NODE)) (b c : Int) {t : List NODE} (hl : t.length < 4294967296) :
   ((∀ i (h : i < t.length), NodeFits t[i]) ∧ lp model_Fits_s9 K0 ((a, b, c, t, ((t.length : Nat) : Int), 0, ()), ()) = some (.inl ((a, b, c, ()), ()))) ∨
   (¬ (∀ i (h : i < t.length), NodeFits t[i]) ∧ lp model_Fits_s9 K0 ((a, b, c, t, ((t.length : Nat) : Int), 0, ()), ()) = some (.inr ((false, ()), ()))) := by
 rcases lp_all (step := model_Fits_s9) (fun i => ((a, b, c, t, ((t.length : Nat) : Int), (i : Int), ()), ())) t.length (fun i => ∀ h : i < t.length, NodeFits t[i]) (fun i => .inr ((false, ()), ())) (.inl ((a, b, c, ()), ())) (by omega) (by
    intro i hi
    have d0 : (i : Int) < ((t.length : Nat) : Int) := by omega
    have d1 : (0 : Int) ≤ (i : Int) := by omega
    have head : ∀ g, model_Fits_s9 g ((a, b, c, t, ((t.length : Nat) : Int), (i : Int), ()), ()) = bif (decide (nFeat t[i] < 0)) then (some (.inr ((false, ()), ()))) else (bif (decide (nFeat t[i] > 64)) then (some (.inr ((false, ()), ()))) else (bif (decide (nL t[i] < 0)) then (some (.inr ((false, ()), ()))) else (bif (decide (nL t[i] > 255)) then (some (.inr ((false, ()), ()))) else (bif (decide (nR t[i] < 0)) then (some (.inr ((false, ()), ()))) else (bif (decide (nR t[i] > 255)) then (some (.inr ((false, ()), ()))) else (g ((a, b, c, t, ((t.length : Nat) : Int), ((i + 1 : Nat) : Int), ()), ()))))))) := by
      intro g
      rw [model_Fits_s9, cnd d0, cnd d1, Int.toNat_natCast, List.getElem?_eq_getElem hi, Option.bind_some, iadd1 (by omega)]
      rfl
    by_cases h : NodeFits t[i]
    · refine .inl ⟨fun _ => h, fun g => ?_⟩
      obtain ⟨h1, h2, h3, h4, h5, h6⟩ := h
      rw [head, cnd' (by omega), cnd' (by omega), cnd' (by omega), cnd' (by omega), cnd' (by omega), cnd' (by omega)]
    · refine .inr ⟨fun h' => h (h' hi), fun g => ?_⟩
      rw [head]
      by_cases h1 : nFeat t[i] < 0
      · rw [cnd h1]
      by_cases h2 : nFeat t[i] > 64
      · rw [cnd' h1, cnd h2]
      by_cases h3 : nL t[i] < 0
      · rw [cnd' h1, cnd' h2, cnd h3]
      by_cases h4 : nL t[i] > 255
      · rw [cnd' h1, cnd' h2, cnd' h3, cnd h4]
      by_cases h5 : nR t[i] < 0
      · rw [cnd' h1, cnd' h2, cnd' h3, cnd' h4, cnd h5]
      by_cases h6 : nR t[i] > 255
      · rw [cnd' h1, cnd' h2, cnd' h3, cnd' h4, cnd' h5, cnd h6]
      exfalso; apply h; unfold NodeFits; omega) (by
    intro g
    rw [model_Fits_s9, cnd' (by omega)]) with ⟨h, hlp⟩ | ⟨i, hi, h, hlp⟩
 · exact .inl ⟨fun i hi => h i hi hi, hlp⟩
 · exact .inr ⟨fun hh => h (fun hi => hh i hi), hlp⟩
theorem Fits_ok {m : MODEL} (hl : m.2.length < 4294967296) (ht : ∀ t ∈ m.2, t.length < 4294967296) : ∃ b, model_Fits m = some b ∧ (b = true ↔ FitsP m) := by
 unfold model_Fits
 by_cases h1 : m.1 < 0
 · exact ⟨false, by rw [cnd h1], fun h => (by cases h), fun h => by have := h.1; omega⟩
 by_cases h2 : m.1 > 64
 · exact ⟨false, by rw [cnd' h1, cnd h2], fun h => (by cases h), fun h => by have := h.2.1; omega⟩
 by_cases h3 : ((m.2.length : Nat) : Int) > 64
 · exact ⟨false, by rw [cnd' h1, cnd' h2, cnd h3], fun h => (by cases h), fun h => by have := h.2.2.1; omega⟩
 rw [cnd' h1, cnd' h2, cnd' h3]
 rcases lp_all (step := model_Fits_s4) (fun i => ((m.2, ((m.2.length : Nat) : Int), (i : Int), ()), ())) m.2.length (fun i => ∀ h : i < m.2.length, TreeFits m.2[i]) (fun i => .inr ((false, ()), ())) (.inl ((), ())) (by omega) (by
    intro i hi
    have d0 : (i : Int) < ((m.2.length : Nat) : Int) := by omega
    have d1 : (0 : Int) ≤ (i : Int) := by omega
    have hti := ht _ (List.getElem_mem hi)
    by_cases g1 : ((m.2[i].length : Nat) : Int) < 1
    · refine .inr ⟨fun h => by have := (h hi).1; omega, fun g => ?_⟩
      rw [model_Fits_s4, cnd d0, cnd d1, Int.toNat_natCast, List.getElem?_eq_getElem hi, Option.bind_some, cnd g1]
    by_cases g2 : ((m.2[i].length : Nat) : Int) > 255
    · refine .inr ⟨fun h => by have := (h hi).2.1; omega, fun g => ?_⟩
      rw [model_Fits_s4, cnd d0, cnd d1, Int.toNat_natCast, List.getElem?_eq_getElem hi, Option.bind_some, cnd' g1, cnd g2]
    rcases fits_inner m.2 ((m.2.length : Nat) : Int) (i : Int) hti with ⟨h, hlp⟩ | ⟨h, hlp⟩
    · refine .inl ⟨fun _ => ⟨by omega, by omega, h⟩, fun g => ?_⟩
      rw [model_Fits_s4, cnd d0, cnd d1, Int.toNat_natCast, List.getElem?_eq_getElem hi, Option.bind_some, cnd' g1, cnd' g2, hlp, Option.bind_some]
      dsimp only
      rw [iadd1 (by omega)]
      rfl
    · refine .inr ⟨fun hh => h (hh hi).2.2, fun g => ?_⟩
      rw [model_Fits_s4, cnd d0, cnd d1, Int.toNat_natCast, List.getElem?_eq_getElem hi, Option.bind_some, cnd' g1, cnd' g2, hlp, Option.bind_some]) (by
    intro g
    rw [model_Fits_s4, cnd' (by omega)]) with ⟨h, hlp⟩ | ⟨i, hi, h, hlp⟩
 · have hlp : lp model_Fits_s4 K0 ((m.2, ((m.2.length : Nat) : Int), 0, ()), ()) = some (.inl ((), ())) := hlp
   exact ⟨true, by rw [hlp]; rfl, fun _ => ⟨by omega, by omega, by omega, fun i hi => h i hi hi⟩, fun _ => rfl⟩
 · have hlp : lp model_Fits_s4 K0 ((m.2, ((m.2.length : Nat) : Int), 0, ()), ()) = some (.inr ((false, ()), ())) := hlp
   exact ⟨false, by rw [hlp]; rfl, fun h' => (by cases h'), fun hp => absurd (fun hh => hp.2.2.2 i hh) h⟩
def RuleP (f : Int) : Nat → List NODE → Prop
 | 0, t => RangesP t f
 | 1, t => ShapeP t
 | 2, t => CoversP t
 | _, t => SumsP t
def Good (m : MODEL) : Prop := FitsP m ∧ ∀ r, r < 4 → ∀ i (h : i < m.2.length), RuleP m.1 r m.2[i]
theorem Good.ranges {m : MODEL} (h : Good m) {i : Nat} (hi : i < m.2.length) : RangesP m.2[i] m.1 := h.2 0 (by decide) i hi
theorem Good.shape {m : MODEL} (h : Good m) {i : Nat} (hi : i < m.2.length) : ShapeP m.2[i] := h.2 1 (by decide) i hi
theorem Good.covers {m : MODEL} (h : Good m) {i : Nat} (hi : i < m.2.length) : CoversP m.2[i] := h.2 2 (by decide) i hi
def MSz (m : MODEL) (k : Nat) : Prop := ∀ t ∈ m.2, TSz t k
theorem check_inner {m : MODEL} {k : Nat} (hf : FitsP m) (hs : MSz m k) (hk : k < 500000000000) {r : Nat} (hr : r < 4) (hlow : ∀ r', r' < r → ∀ i (h : i < m.2.length), RuleP m.1 r' m.2[i]) (z : Int × Int × Int × Int) :
   ((∀ i (h : i < m.2.length), RuleP m.1 r m.2[i]) ∧ lp valid_Check_s7 K0 (((r : Int), (r : Int), m.2, ((m.2.length : Nat) : Int), 0, ()), ((m.1, m.2, ()), (z.1, z.2.1, z.2.2.1, z.2.2.2, ()), ())) = some (.inl (((r : Int), ()), ((m.1, m.2, ()), (z.1, z.2.1, z.2.2.1, z.2.2.2, ()), ())))) ∨
   (¬ (∀ i (h : i < m.2.length), RuleP m.1 r m.2[i]) ∧ ∃ e a b c, e ≠ 0 ∧ lp valid_Check_s7 K0 (((r : Int), (r : Int), m.2, ((m.2.length : Nat) : Int), 0, ()), ((m.1, m.2, ()), (z.1, z.2.1, z.2.2.1, z.2.2.2, ()), ())) = some (.inr ((), ((e, a, b, c, ()), ())))) := by
 have hlen := hf.2.2.1
 have ans : ∀ i (h : i < m.2.length), ∃ a e, (e = 0 ↔ RuleP m.1 r m.2[i]) ∧ ∀ g, valid_Check_s7 g (((r : Int), (r : Int), m.2, ((m.2.length : Nat) : Int), (i : Int), ()), ((m.1, m.2, ()), (z.1, z.2.1, z.2.2.1, z.2.2.2, ()), ())) =
     bif (!decide (e = 0)) then some (.inr ((), ((e, 0, (i : Int), a, ()), ()))) else g (((r : Int), (r : Int), m.2, ((m.2.length : Nat) : Int), ((i + 1 : Nat) : Int), ()), ((m.1, m.2, ()), (z.1, z.2.1, z.2.2.1, z.2.2.2, ()), ())) := by
   intro i hi
   have d0 : (i : Int) < ((m.2.length : Nat) : Int) := by omega
   have d1 : (0 : Int) ≤ (i : Int) := by omega
   have htf := hf.2.2.2 i hi
   have htl : m.2[i].length < 4294967296 := by have := htf.2.1; omega
   have ht0 : 0 < m.2[i].length := htf.1
   have hts := hs _ (List.getElem_mem hi)
   match r, hr with
   | 0, _ =>
     obtain ⟨a, e, h1, h2⟩ := ranges_ok (f := m.1) htl
     refine ⟨a, e, h2, fun g => ?_⟩
     rw [valid_Check_s7, cnd d0, cnd d1, Int.toNat_natCast, List.getElem?_eq_getElem hi, Option.bind_some, cnd (by rfl), h1, Option.bind_some, iadd1 (by omega)]
     rfl
   | 1, _ =>
     obtain ⟨a, e, h1, h2⟩ := shape_ok htl ht0 (hlow 0 (by decide) i hi)
     refine ⟨a, e, h2, fun g => ?_⟩
     rw [valid_Check_s7, cnd d0, cnd d1, Int.toNat_natCast, List.getElem?_eq_getElem hi, Option.bind_some, cnd' (by decide), cnd (by rfl), h1, Option.bind_some, iadd1 (by omega)]
     rfl
   | 2, _ =>
     obtain ⟨a, e, h1, h2⟩ := covers_ok htl hts (by omega)
     refine ⟨a, e, h2, fun g => ?_⟩
     rw [valid_Check_s7, cnd d0, cnd d1, Int.toNat_natCast, List.getElem?_eq_getElem hi, Option.bind_some, cnd' (by decide), cnd' (by decide), cnd (by rfl), h1, Option.bind_some, iadd1 (by omega)]
     rfl
   | 3, _ =>
     obtain ⟨a, e, h1, h2⟩ := sums_ok htl hts hk (hlow 0 (by decide) i hi)
     refine ⟨a, e, h2, fun g => ?_⟩
     rw [valid_Check_s7, cnd d0, cnd d1, Int.toNat_natCast, List.getElem?_eq_getElem hi, Option.bind_some, cnd' (by decide), cnd' (by decide), cnd' (by decide), cnd (by rfl), h1, Option.bind_some, iadd1 (by omega)]
     rfl
 have ans2 : ∀ i, ∃ a e, ∀ h : i < m.2.length, (e = 0 ↔ RuleP m.1 r m.2[i]) ∧ ∀ g, valid_Check_s7 g (((r : Int), (r : Int), m.2, ((m.2.length : Nat) : Int), (i : Int), ()), ((m.1, m.2, ()), (z.1, z.2.1, z.2.2.1, z.2.2.2, ()), ())) =
     bif (!decide (e = 0)) then some (.inr ((), ((e, 0, (i : Int), a, ()), ()))) else g (((r : Int), (r : Int), m.2, ((m.2.length : Nat) : Int), ((i + 1 : Nat) : Int), ()), ((m.1, m.2, ()), (z.1, z.2.1, z.2.2.1, z.2.2.2, ()), ())) := by
   intro i
   by_cases h : i < m.2.length
   · obtain ⟨a, e, h1, h2⟩ := ans i h
     exact ⟨a, e, fun _ => ⟨h1, h2⟩⟩
   · exact ⟨0, 0, fun h' => absurd h' h⟩
 have A := fun i => (ans2 i).choose
 let E : Nat → Int := fun i => (ans2 i).choose_spec.choose
 have hE : ∀ i (h : i < m.2.length), (E i = 0 ↔ RuleP m.1 r m.2[i]) ∧ ∀ g, valid_Check_s7 g (((r : Int), (r : Int), m.2, ((m.2.length : Nat) : Int), (i : Int), ()), ((m.1, m.2, ()), (z.1, z.2.1, z.2.2.1, z.2.2.2, ()), ())) =
     bif (!decide (E i = 0)) then some (.inr ((), ((E i, 0, (i : Int), (ans2 i).choose, ()), ()))) else g (((r : Int), (r : Int), m.2, ((m.2.length : Nat) : Int), ((i + 1 : Nat) : Int), ()), ((m.1, m.2, ()), (z.1, z.2.1, z.2.2.1, z.2.2.2, ()), ())) := fun i h => (ans2 i).choose_spec.choose_spec h
 rcases lp_all (step := valid_Check_s7) (fun i => (((r : Int), (r : Int), m.2, ((m.2.length : Nat) : Int), (i : Int), ()), ((m.1, m.2, ()), (z.1, z.2.1, z.2.2.1, z.2.2.2, ()), ()))) m.2.length (fun i => E i = 0) (fun i => .inr ((), ((E i, 0, (i : Int), (ans2 i).choose, ()), ()))) (.inl (((r : Int), ()), ((m.1, m.2, ()), (z.1, z.2.1, z.2.2.1, z.2.2.2, ()), ()))) (by omega) (by
     intro i hi
     obtain ⟨h1, h2⟩ := hE i hi
     by_cases h0 : E i = 0
     · exact .inl ⟨h0, fun g => by rw [h2, decide_eq_true h0]; rfl⟩
     · exact .inr ⟨h0, fun g => by rw [h2, decide_eq_false h0]; rfl⟩) (by
     intro g
     rw [valid_Check_s7, cnd' (by omega)]) with ⟨h, hlp⟩ | ⟨i, hi, h, hlp⟩
 · exact .inl ⟨fun i hi => (hE i hi).1.1 (h i hi), hlp⟩
 · exact .inr ⟨fun hh => h ((hE i hi).1.2 (hh i hi)), E i, 0, (i : Int), _, h, hlp⟩
theorem Ok_ok {m : MODEL} {k : Nat} (hl : m.2.length < 4294967296) (ht : ∀ t ∈ m.2, t.length < 4294967296) (hs : MSz m k) (hk : k < 500000000000) : ∃ b, valid_Ok m = some b ∧ (b = true ↔ Good m) := by
 obtain ⟨b, hb, hbf⟩ := Fits_ok hl ht
 cases b with
 | false =>
  have hnf : ¬ FitsP m := fun h => by have := hbf.2 h; cases this
  refine ⟨false, ?_, fun h => (by cases h), fun h => absurd h.1 hnf⟩
  rw [valid_Ok, valid_Check, hb, Option.bind_some]
  rfl
 | true =>
  have hf := hbf.1 rfl
  rcases lp_allh (step := valid_Check_s4) (fun r => (((r : Int), ()), ((m.1, m.2, ()), (0, 0, 0, 0, ()), ()))) 4 (fun r => ∀ i (h : i < m.2.length), RuleP m.1 r m.2[i]) (fun r => ∃ e a b c, e ≠ 0 ∧ r = .inr ((), ((e, a, b, c, ()), ()))) (.inl ((), ((0, 0, 0, 0, ()), ()))) (by omega) (by
     intro r hr hlow
     have d0 : (r : Int) < 4 := by omega
     rcases check_inner hf hs hk hr (fun r' hr' => hlow r' hr') (0, 0, 0, 0) with ⟨h1, h2⟩ | ⟨h1, e, a, b, c, h2, h3⟩
     · refine .inl ⟨h1, fun g => ?_⟩
       rw [valid_Check_s4, cnd d0, h2, Option.bind_some]
       dsimp only
       rw [iadd1 (by omega)]
       rfl
     · refine .inr ⟨h1, _, ⟨e, a, b, c, h2, rfl⟩, fun g => ?_⟩
       rw [valid_Check_s4, cnd d0, h3, Option.bind_some]) (by
     intro g
     rw [valid_Check_s4, cnd' (by decide)]) with ⟨h, hlp⟩ | ⟨h, r, ⟨e, a, b, c, he, rfl⟩, hlp⟩
  · have hlp : lp valid_Check_s4 K0 (((0 : Int), ()), ((m.1, m.2, ()), (0, 0, 0, 0, ()), ())) = _ := hlp
    refine ⟨true, ?_, fun _ => ⟨hf, h⟩, fun _ => rfl⟩
    rw [valid_Ok, valid_Check, hb, Option.bind_some, Bool.not_true, cond_false, hlp]
    rfl
  · have hlp : lp valid_Check_s4 K0 (((0 : Int), ()), ((m.1, m.2, ()), (0, 0, 0, 0, ()), ())) = _ := hlp
    refine ⟨false, ?_, fun h' => (by cases h'), fun hg => absurd hg.2 h⟩
    rw [valid_Ok, valid_Check, hb, Option.bind_some, Bool.not_true, cond_false, hlp, Option.bind_some]
    dsimp only
    rw [Option.bind_some, decide_eq_false he]
    rfl
theorem number07_ok (a : RAT) : dendronlaw07_number a = some (cutR 4 a) := by
 obtain ⟨⟨s, x⟩, y⟩ := a
 unfold dendronlaw07_number cutR
 by_cases h1 : 4 < x.length
 · have c1 : ((x.length : Nat) : Int) > 4 := by omega
   have c2 : (4 : Int) ≤ ((x.length : Nat) : Int) := by omega
   by_cases h2 : 4 < y.length
   · have c3 : ((y.length : Nat) : Int) > 4 := by omega
     have c4 : (4 : Int) ≤ ((y.length : Nat) : Int) := by omega
     rw [cnd c1, cnd c2, cnd c3, cnd c4]
   · have c3 : ¬ ((y.length : Nat) : Int) > 4 := by omega
     rw [cnd c1, cnd c2, cnd' c3, List.take_of_length_le (l := y) (by omega)]
 · have c1 : ¬ ((x.length : Nat) : Int) > 4 := by omega
   by_cases h2 : 4 < y.length
   · have c3 : ((y.length : Nat) : Int) > 4 := by omega
     have c4 : (4 : Int) ≤ ((y.length : Nat) : Int) := by omega
     rw [cnd' c1, cnd c3, cnd c4, List.take_of_length_le (l := x) (by omega)]
   · have c3 : ¬ ((y.length : Nat) : Int) > 4 := by omega
     rw [cnd' c1, cnd' c3, List.take_of_length_le (l := x) (by omega), List.take_of_length_le (l := y) (by omega)]
def cutNode (n : NODE) : NODE := (n.1, n.2.1, cutR 4 n.2.2.1, n.2.2.2.1, n.2.2.2.2.1, n.2.2.2.2.2.1, cutR 4 n.2.2.2.2.2.2.1, cutR 4 n.2.2.2.2.2.2.2)
def cutTree (t : List NODE) : List NODE := (t.take 15).map cutNode
def cutM (m : MODEL) : MODEL := (m.1, (m.2.take 6).map cutTree)
theorem cutNode_sz (n : NODE) : NSz (cutNode n) 4 := ⟨cutR_sz 4 _, cutR_sz 4 _, cutR_sz 4 _⟩
theorem cutTree_sz (t : List NODE) : TSz (cutTree t) 4 := by
 intro n hn
 obtain ⟨x, _, rfl⟩ := List.mem_map.1 hn
 exact cutNode_sz x
theorem cutTree_len (t : List NODE) : (cutTree t).length ≤ 15 := by simp [cutTree]; omega
theorem cutM_sz (m : MODEL) : MSz (cutM m) 4 := by
 intro t ht
 obtain ⟨x, _, rfl⟩ := List.mem_map.1 ht
 exact cutTree_sz x
theorem cutM_tlen (m : MODEL) : ∀ t ∈ (cutM m).2, t.length ≤ 15 := by
 intro t ht
 obtain ⟨x, _, rfl⟩ := List.mem_map.1 ht
 exact cutTree_len x
theorem Few07_inner {m : MODEL} {i : Nat} (hi : i < m.2.length) (hl : m.2[i].length ≤ 9223372036854775807) (hi2 : i < 4611686018427387904) (z w : Int × List (List NODE)) :
  lp dendronlaw07_Few_s7 K0 (((i : Int), [], 0, ()), ((m.1, m.2, ()), (z.1, z.2, ()), (w.1, w.2, ()), ())) = some (((i : Int), cutTree m.2[i], ()), ((m.1, m.2, ()), (z.1, z.2, ()), (w.1, w.2, ()), ())) := by
 have hn : min m.2[i].length 15 ≤ m.2[i].length := Nat.min_le_left _ _
 exact lp_up (step := dendronlaw07_Few_s7) (fun k => (((i : Int), (m.2[i].take k).map cutNode, (k : Int), ()), ((m.1, m.2, ()), (z.1, z.2, ()), (w.1, w.2, ()), ()))) (min m.2[i].length 15) (by omega) (by
  intro g k hk
  have h1 : k < m.2[i].length := by omega
  have d0 : (0 : Int) ≤ (i : Int) := by omega
  have d1 : (k : Int) < ((m.2[i].length : Nat) : Int) := by omega
  have d2 : (k : Int) < 15 := by omega
  have d3 : (0 : Int) ≤ (k : Int) := by omega
  have d4 : (((m.2[i].take k).map cutNode).length + 1) * 208 ≤ 140737488355328 := by simp; omega
  rw [dendronlaw07_Few_s7, cnd d0, Int.toNat_natCast, List.getElem?_eq_getElem hi, Option.bind_some, cnd d1, cnd d2, cnd d0, Option.bind_some, cnd d3, Int.toNat_natCast, List.getElem?_eq_getElem h1, Option.bind_some, number07_ok, Option.bind_some, number07_ok, Option.bind_some, number07_ok, Option.bind_some, blt d4, cond_true, iadd1 (by omega), map_take_succ _ h1]
  rfl) (by
  intro g
  have d0 : (0 : Int) ≤ (i : Int) := by omega
  by_cases h : m.2[i].length ≤ 15
  · have c1 : ¬ ((min m.2[i].length 15 : Nat) : Int) < ((m.2[i].length : Nat) : Int) := by omega
    rw [dendronlaw07_Few_s7, cnd d0, Int.toNat_natCast, List.getElem?_eq_getElem hi, Option.bind_some, cnd' c1, Nat.min_eq_left h, List.take_of_length_le (Nat.le_refl _), cutTree, List.take_of_length_le h]
  · have c1 : ((min m.2[i].length 15 : Nat) : Int) < ((m.2[i].length : Nat) : Int) := by omega
    have c2 : ¬ ((min m.2[i].length 15 : Nat) : Int) < 15 := by omega
    rw [dendronlaw07_Few_s7, cnd d0, Int.toNat_natCast, List.getElem?_eq_getElem hi, Option.bind_some, cnd c1, cnd' c2, Nat.min_eq_right (by omega), cutTree])
theorem Few07_ok (m : MODEL) (hl : m.2.length ≤ 9223372036854775807) (ht : ∀ t ∈ m.2, t.length ≤ 9223372036854775807) : dendronlaw07_Few m = some (cutM m) := by
 have hn : min m.2.length 6 ≤ m.2.length := Nat.min_le_left _ _
 have key := lp_up (step := dendronlaw07_Few_s3) (fun i => (((i : Int), ()), ((m.1, m.2, ()), (0, [], ()), (m.1, (m.2.take i).map cutTree, ()), ()))) (min m.2.length 6) (r := ((), ((0, [], ()), (m.1, (m.2.take 6).map cutTree, ()), ()))) (by omega) (by
  intro g i hi
  have h1 : i < m.2.length := by omega
  have d0 : (i : Int) < ((m.2.length : Nat) : Int) := by omega
  have d1 : (i : Int) < 6 := by omega
  have hin := Few07_inner h1 (ht _ (List.getElem_mem h1)) (by omega) (0, []) (m.1, (m.2.take i).map cutTree)
  have d4 : (((m.2.take i).map cutTree).length + 1) * 24 ≤ 140737488355328 := by simp; omega
  rw [dendronlaw07_Few_s3, cnd d0, cnd d1, hin, Option.bind_some, blt d4, cond_true, iadd1 (by omega), map_take_succ _ h1]
  rfl) (by
  intro g
  by_cases h : m.2.length ≤ 6
  · have c1 : ¬ ((min m.2.length 6 : Nat) : Int) < ((m.2.length : Nat) : Int) := by omega
    rw [dendronlaw07_Few_s3, cnd' c1, Nat.min_eq_left h, List.take_of_length_le (Nat.le_refl _), List.take_of_length_le h]
  · have c1 : ((min m.2.length 6 : Nat) : Int) < ((m.2.length : Nat) : Int) := by omega
    have c2 : ¬ ((min m.2.length 6 : Nat) : Int) < 6 := by omega
    rw [dendronlaw07_Few_s3, cnd c1, cnd' c2, Nat.min_eq_right (by omega)])
 have key' : lp dendronlaw07_Few_s3 K0 ((0, ()), ((m.1, m.2, ()), (0, [], ()), (m.1, [], ()), ())) = _ := key
 rw [dendronlaw07_Few, key']
 rfl
inductive TR where
 | leaf (i : Nat)
 | split (i : Nat) (l r : TR)
def TR.top : TR → Nat
 | .leaf i => i
 | .split i _ _ => i
def TR.size : TR → Nat
 | .leaf _ => 1
 | .split _ l r => 1 + l.size + r.size
def TR.deep : TR → Nat
 | .leaf _ => 1
 | .split _ l r => 1 + max l.deep r.deep
def Is (t : List NODE) (f : Int) : TR → Prop
 | .leaf i => ∃ h : i < t.length, nLeaf t[i] = true
 | .split i l r => ∃ h : i < t.length, nLeaf t[i] = false ∧ 0 ≤ nFeat t[i] ∧ nFeat t[i] < f ∧ nL t[i] = (l.top : Int) ∧ nR t[i] = (r.top : Int) ∧ Is t f l ∧ Is t f r
theorem tree_at {t : List NODE} {f : Int} (hr : RangesP t f) (hrk : Ranked t) : ∀ i, i < t.length → ∃ T, Is t f T ∧ T.top = i ∧ T.deep ≤ t.length + 1 := by
 obtain ⟨rk, hrk⟩ := hrk
 have key : ∀ (d i : Nat), i < t.length → rk i ≤ d → ∃ T, Is t f T ∧ T.top = i ∧ T.deep ≤ rk i + 1 := by
  intro d
  induction d with
  | zero =>
   intro i hi hd
   cases hl : nLeaf t[i] with
   | true => exact ⟨.leaf i, ⟨hi, hl⟩, rfl, by simp [TR.deep]⟩
   | false =>
    have := (hrk i hi).2 (nL t[i]).toNat (by rw [kids_split hi hl]; simp)
    omega
  | succ d ih =>
   intro i hi hd
   cases hl : nLeaf t[i] with
   | true => exact ⟨.leaf i, ⟨hi, hl⟩, rfl, by simp [TR.deep]⟩
   | false =>
    obtain ⟨r1, r2, r3, r4, r5, r6⟩ := hr i hi hl
    have k1 := (hrk i hi).2 (nL t[i]).toNat (by rw [kids_split hi hl]; simp)
    have k2 := (hrk i hi).2 (nR t[i]).toNat (by rw [kids_split hi hl]; simp)
    obtain ⟨L, hL, hLt, hLd⟩ := ih (nL t[i]).toNat (by omega) (by omega)
    obtain ⟨R, hR, hRt, hRd⟩ := ih (nR t[i]).toNat (by omega) (by omega)
    refine ⟨.split i L R, ⟨hi, hl, r1, r2, by rw [hLt]; omega, by rw [hRt]; omega, hL, hR⟩, rfl, ?_⟩
    simp only [TR.deep]
    omega
 intro i hi
 obtain ⟨T, h1, h2, h3⟩ := key (rk i) i hi (Nat.le_refl _)
 have := (hrk i hi).1
 exact ⟨T, h1, h2, by omega⟩
theorem Good.tree {m : MODEL} (h : Good m) {i : Nat} (hi : i < m.2.length) : ∃ T, Is m.2[i] m.1 T ∧ T.top = 0 ∧ T.deep ≤ m.2[i].length + 1 :=
 tree_at (h.ranges hi) (h.shape hi).2 0 (h.1.2.2.2 i hi).1
abbrev zR : RAT := ((false, []), [])
abbrev zN : NODE := (false, 0, zR, 0, 0, false, zR, zR)
def nodeAt (t : List NODE) (i : Nat) : NODE := (t[i]?).getD zN
theorem nodeAt_get {t : List NODE} {i : Nat} (h : i < t.length) : nodeAt t i = t[i] := by simp [nodeAt, h]
def cellAt (row : List CELL) (i : Nat) : CELL := (row[i]?).getD (false, zR)
theorem cellAt_get {row : List CELL} {i : Nat} (h : i < row.length) : cellAt row i = row[i] := by simp [cellAt, h]
def goes (n : NODE) (c : CELL) : Bool := if c.1 then nMiss n else decide (rv c.2 < rv (nCut n))
def goL (t : List NODE) (row : List CELL) (i : Nat) : Bool := goes (nodeAt t i) (cellAt row (nFeat (nodeAt t i)).toNat)
def wayT (t : List NODE) (row : List CELL) : TR → List Nat
 | .leaf i => [i]
 | .split i l r => i :: if goL t row i then wayT t row l else wayT t row r
def endT (t : List NODE) (row : List CELL) : TR → Nat
 | .leaf i => i
 | .split i l r => if goL t row i then endT t row l else endT t row r
theorem wayT_len (t : List NODE) (row : List CELL) (T : TR) : (wayT t row T).length ≤ T.deep := by
 induction T with
 | leaf i => simp [wayT, TR.deep]
 | split i l r ihl ihr =>
  simp only [wayT, TR.deep, List.length_cons]
  split <;> omega
theorem endT_lt {t : List NODE} {f : Int} {row : List CELL} {T : TR} (h : Is t f T) : endT t row T < t.length := by
 induction T with
 | leaf i => exact h.1
 | split i l r ihl ihr =>
  obtain ⟨h1, _, _, _, _, _, h2, h3⟩ := h
  simp only [endT]
  split
  · exact ihl h2
  · exact ihr h3
theorem Is.top_lt {t : List NODE} {f : Int} {T : TR} (h : Is t f T) : T.top < t.length := by
 cases T with
 | leaf i => exact h.1
 | split i l r => exact h.1
theorem TR.size_lt (T : TR) : T.size < 2 ^ T.deep := by
 induction T with
 | leaf i => simp [TR.size, TR.deep]
 | split i l r ihl ihr =>
  simp only [TR.size, TR.deep]
  have h1 : 2 ^ l.deep ≤ 2 ^ max l.deep r.deep := Nat.pow_le_pow_right (by decide) (Nat.le_max_left _ _)
  have h2 : 2 ^ r.deep ≤ 2 ^ max l.deep r.deep := Nat.pow_le_pow_right (by decide) (Nat.le_max_right _ _)
  rw [Nat.add_comm 1 (max l.deep r.deep), Nat.pow_succ]
  omega
theorem TR.size_le {T : TR} (h : T.deep ≤ 16) : T.size < 65536 := by
 have h1 := T.size_lt
 have h2 : 2 ^ T.deep ≤ 2 ^ 16 := Nat.pow_le_pow_right (by decide) h
 omega
theorem TR.deep_pos (T : TR) : 0 < T.deep := by cases T <;> simp [TR.deep] <;> omega
def expT (t : List NODE) (row : List CELL) (set : Nat) : TR → Rat
 | .leaf i => rv (nVal (nodeAt t i))
 | .split i l r => if set.testBit (nFeat (nodeAt t i)).toNat then (if goL t row i then expT t row set l else expT t row set r)
  else (cov t l.top * expT t row set l + cov t r.top * expT t row set r) / cov t i
def predT (t : List NODE) (row : List CELL) (T : TR) : Rat := rv (nVal (nodeAt t (endT t row T)))
theorem TSz.at {t : List NODE} {k : Nat} (h : TSz t k) {i : Nat} (hi : i < t.length) : NSz (nodeAt t i) k := by rw [nodeAt_get hi]; exact h _ (List.getElem_mem hi)
theorem predT_sz {t : List NODE} {f : Int} {row : List CELL} {T : TR} (hs : TSz t 4) (h : Is t f T) : SzQ (predT t row T) 4 := (hs.at (endT_lt h)).2.1.szQ (by decide)
theorem cov_sz {t : List NODE} (hs : TSz t 4) {i : Nat} (hi : i < t.length) : SzQ (cov t i) 4 := (hs.at hi).2.2.szQ (by decide)
theorem expT_sz {t : List NODE} {f : Int} {row : List CELL} {set : Nat} {T : TR} (hs : TSz t 4) (h : Is t f T) : SzQ (expT t row set T) (16 * T.size) := by
 induction T with
 | leaf i => exact ((hs.at h.1).2.1.szQ (by decide)).mono (by simp [TR.size])
 | split i l r ihl ihr =>
  obtain ⟨h1, _, _, _, _, _, h2, h3⟩ := h
  have a := ihl h2
  have b := ihr h3
  simp only [expT, TR.size]
  split
  · split
    · exact a.mono (by omega)
    · exact b.mono (by omega)
  · have := (((cov_sz hs h2.top_lt).mul a).add ((cov_sz hs h3.top_lt).mul b)).div (cov_sz hs h1)
    exact this.mono (by omega)
def mkT (t : List NODE) : Nat → Nat → TR
 | 0, i => .leaf i
 | d + 1, i => if nLeaf (nodeAt t i) then .leaf i else .split i (mkT t d (nL (nodeAt t i)).toNat) (mkT t d (nR (nodeAt t i)).toNat)
theorem mkT_eq {t : List NODE} {f : Int} : ∀ (d : Nat) (T : TR), Is t f T → T.deep ≤ d → mkT t d T.top = T := by
 intro d
 induction d with
 | zero => intro T _ h; have := T.deep_pos; omega
 | succ d ih =>
  intro T h hd
  cases T with
  | leaf i =>
   obtain ⟨h1, h2⟩ := h
   simp only [TR.top, mkT, nodeAt_get h1, h2, if_true]
  | split i l r =>
   obtain ⟨h1, h2, _, _, h3, h4, h5, h6⟩ := h
   simp only [TR.deep] at hd
   show mkT t (d + 1) i = _
   rw [mkT, nodeAt_get h1, h2, h3, h4, Int.toNat_natCast, Int.toNat_natCast, ih l h5 (by omega), ih r h6 (by omega)]
   rfl
def treeOf (t : List NODE) : TR := mkT t (t.length + 1) 0
theorem Good.treeOf {m : MODEL} (h : Good m) {i : Nat} (hi : i < m.2.length) : Is m.2[i] m.1 (treeOf m.2[i]) ∧ (treeOf m.2[i]).top = 0 ∧ (treeOf m.2[i]).deep ≤ m.2[i].length + 1 := by
 obtain ⟨T, h1, h2, h3⟩ := h.tree hi
 have : X.treeOf m.2[i] = T := by rw [X.treeOf, ← h2]; exact mkT_eq _ T h1 h3
 rw [this]; exact ⟨h1, h2, h3⟩
def treeAt (m : MODEL) (i : Nat) : List NODE := (m.2[i]?).getD []
theorem treeAt_get {m : MODEL} {i : Nat} (h : i < m.2.length) : treeAt m i = m.2[i] := by simp [treeAt, h]
def predM (m : MODEL) (row : List CELL) : Rat := rsum (fun i => predT (treeAt m i) row (treeOf (treeAt m i))) m.2.length
def sayM (m : MODEL) (row : List CELL) (set : Nat) : Rat := rsum (fun i => expT (treeAt m i) row set (treeOf (treeAt m i))) m.2.length
theorem MSz.at {m : MODEL} {k : Nat} (h : MSz m k) {i : Nat} (hi : i < m.2.length) : TSz (treeAt m i) k := by rw [treeAt_get hi]; exact h _ (List.getElem_mem hi)
theorem Good.isAt {m : MODEL} (h : Good m) {i : Nat} (hi : i < m.2.length) : Is (treeAt m i) m.1 (X.treeOf (treeAt m i)) := by rw [treeAt_get hi]; exact (h.treeOf hi).1
theorem predT_at {m : MODEL} {row : List CELL} (h : Good m) (hs : MSz m 4) {i : Nat} (hi : i < m.2.length) : SzQ (predT (treeAt m i) row (treeOf (treeAt m i))) 4 := predT_sz (hs.at hi) (h.isAt hi)
theorem deep16 {m : MODEL} (h : Good m) (hl : ∀ t ∈ m.2, t.length ≤ 15) {i : Nat} (hi : i < m.2.length) : (treeOf (treeAt m i)).deep ≤ 16 := by
 rw [treeAt_get hi]
 have := (h.treeOf hi).2.2
 have := hl _ (List.getElem_mem hi)
 omega
theorem expT_at {m : MODEL} {row : List CELL} {set : Nat} (h : Good m) (hs : MSz m 4) (hl : ∀ t ∈ m.2, t.length ≤ 15) {i : Nat} (hi : i < m.2.length) : SzQ (expT (treeAt m i) row set (treeOf (treeAt m i))) 1048576 := by
 have := TR.size_le (deep16 h hl hi)
 exact (expT_sz (hs.at hi) (h.isAt hi)).mono (by omega)
theorem predM_sz {m : MODEL} {row : List CELL} (h : Good m) (hs : MSz m 4) {n : Nat} (hn : n ≤ m.2.length) : SzQ (rsum (fun i => predT (treeAt m i) row (treeOf (treeAt m i))) n) (1 + n * 5) :=
 rsum_sz fun i hi => predT_at h hs (by omega)
theorem sayM_sz {m : MODEL} {row : List CELL} {set : Nat} (h : Good m) (hs : MSz m 4) (hl : ∀ t ∈ m.2, t.length ≤ 15) {n : Nat} (hn : n ≤ m.2.length) : SzQ (rsum (fun i => expT (treeAt m i) row set (treeOf (treeAt m i))) n) (1 + n * 1048577) :=
 rsum_sz fun i hi => expT_at h hs hl (by omega)
def CSz (row : List CELL) (k : Nat) : Prop := ∀ c ∈ row, SzR c.2 k
theorem goes_ok {n : NODE} {c : CELL} {k j : Nat} (hn : SzR (nCut n) k) (hk : k < 1099511627776) (hc : SzR c.2 j) (hj : j < 1099511627776) : route_goes n c = some (goes n c) := by
 unfold route_goes goes
 cases h : c.1 with
 | true => rfl
 | false =>
  rw [cond_false, ratio_Cmp_ok (hc.sm hj) (hn.sm hk), Option.bind_some, if_neg (by decide)]
  congr 1
  by_cases h : rv c.2 < rv (nCut n)
  · rw [decide_eq_true (rcmp_neg.2 h), decide_eq_true h]
  · rw [decide_eq_false (fun e => h (rcmp_neg.1 e)), decide_eq_false h]
theorem Left_ok {n : NODE} {c : CELL} {k j : Nat} (hn : SzR (nCut n) k) (hk : k < 1099511627776) (hc : SzR c.2 j) (hj : j < 1099511627776) : route_Left n c = some (!nLeaf n && goes n c) := by
 unfold route_Left
 rw [goes_ok hn hk hc hj]
 show _ = some (!n.1 && goes n c)
 cases h : n.1 with
 | true => rfl
 | false => rfl
theorem goL_ok {t : List NODE} {f : Int} {row : List CELL} {i : Nat} (hs : TSz t 4) (hc : CSz row 9) (hi : i < t.length) (h0 : 0 ≤ nFeat t[i]) (h1 : nFeat t[i] < (row.length : Int)) :
  ∃ c, row[(nFeat t[i]).toNat]? = some c ∧ SzR c.2 9 ∧ goes t[i] c = goL t row i := by
 have hlt : (nFeat t[i]).toNat < row.length := by omega
 refine ⟨row[(nFeat t[i]).toNat], List.getElem?_eq_getElem hlt, hc _ (List.getElem_mem hlt), ?_⟩
 rw [goL, nodeAt_get hi, cellAt_get hlt]
theorem next_ok {t : List NODE} {row : List CELL} {i : Nat} (hs : TSz t 4) (hc : CSz row 9) (hi : i < t.length) (h0 : 0 ≤ nFeat t[i]) (h1 : nFeat t[i] < (row.length : Int)) :
  route_next t[i] row = some (if goL t row i then nL t[i] else nR t[i]) := by
 obtain ⟨c, h2, h3, h4⟩ := goL_ok (f := 0) hs hc hi h0 h1
 have hz := hs _ (List.getElem_mem hi)
 rw [route_next, cnd h0, h2, Option.bind_some, goes_ok hz.1 (by decide) h3 (by decide), Option.bind_some, h4]
 cases goL t row i <;> rfl
theorem value_lp {t : List NODE} {row : List CELL} (hs : TSz t 4) (hc : CSz row 9) {z : Bool × List Int × List Int} : ∀ (T : TR) (m : Nat), Is t (row.length : Int) T → T.deep ≤ m →
  lp route_value_s2 m ((t, row, (T.top : Int), ()), ((z.1, z.2.1, z.2.2, ()), ())) = some ((t, (endT t row T : Int), ()), ((z.1, z.2.1, z.2.2, ()), ())) := by
 intro T
 induction T with
 | leaf i =>
  intro m h hm
  obtain ⟨h1, h2⟩ := h
  obtain ⟨m, rfl⟩ : ∃ k, m = k + 1 := ⟨m - 1, by simp only [TR.deep] at hm; omega⟩
  have d0 : (0 : Int) ≤ (i : Int) := by omega
  show route_value_s2 (lp route_value_s2 m) _ = _
  rw [show ((TR.leaf i).top : Int) = (i : Int) from rfl, route_value_s2, cnd d0, Int.toNat_natCast, List.getElem?_eq_getElem h1, Option.bind_some, show t[i].1 = true from h2]
  rfl
 | split i l r ihl ihr =>
  intro m h hm
  obtain ⟨h1, h2, f0, f1, h3, h4, h5, h6⟩ := h
  simp only [TR.deep] at hm
  obtain ⟨m, rfl⟩ : ∃ k, m = k + 1 := ⟨m - 1, by omega⟩
  have d0 : (0 : Int) ≤ (i : Int) := by omega
  show route_value_s2 (lp route_value_s2 m) _ = _
  rw [show ((TR.split i l r).top : Int) = (i : Int) from rfl, route_value_s2, cnd d0, Int.toNat_natCast, List.getElem?_eq_getElem h1, Option.bind_some, show t[i].1 = false from h2, Bool.not_false, cond_true, cnd d0, Option.bind_some, next_ok hs hc h1 f0 f1, Option.bind_some]
  simp only [endT]
  cases goL t row i with
  | true => rw [if_pos rfl, if_pos rfl, h3]; exact ihl m h5 (by omega)
  | false => rw [if_neg (by decide), if_neg (by decide), h4]; exact ihr m h6 (by omega)
theorem rvalue_ok {t : List NODE} {row : List CELL} {T : TR} (hs : TSz t 4) (hc : CSz row 9) (h : Is t (row.length : Int) T) (h0 : T.top = 0) (hd : T.deep ≤ 1000000) : route_value t row = some (canQ (predT t row T)) := by
 have key := value_lp hs hc (z := (false, [], [])) T K0 h (by unfold K0; omega)
 rw [h0] at key
 have key : lp route_value_s2 K0 ((t, row, 0, ()), ((false, [], [], ()), ())) = _ := key
 have hlt := endT_lt (row := row) h
 have hz := hs _ (List.getElem_mem hlt)
 rw [route_value, key, Option.bind_some]
 dsimp only
 rw [cnd (by omega), Int.toNat_natCast, List.getElem?_eq_getElem hlt, Option.bind_some, ratio_Clean_ok (hz.2.1.sm (by decide)), Option.bind_some, predT, nodeAt_get hlt]
theorem Way_lp {t : List NODE} {row : List CELL} (hs : TSz t 4) (hc : CSz row 9) : ∀ (T : TR) (m : Nat) (out : List Int), Is t (row.length : Int) T → T.deep ≤ m → T.deep + out.length ≤ 1000000 →
  lp route_Way_s5 m ((t, row, (T.top : Int), out, ()), ()) = some ((out ++ ints (wayT t row T).tail, ()), ()) := by
 intro T
 induction T with
 | leaf i =>
  intro m out h hm ho
  obtain ⟨h1, h2⟩ := h
  obtain ⟨m, rfl⟩ : ∃ k, m = k + 1 := ⟨m - 1, by simp only [TR.deep] at hm; omega⟩
  have d0 : (0 : Int) ≤ (i : Int) := by omega
  show route_Way_s5 (lp route_Way_s5 m) _ = _
  rw [show ((TR.leaf i).top : Int) = (i : Int) from rfl, route_Way_s5, cnd d0, Int.toNat_natCast, List.getElem?_eq_getElem h1, Option.bind_some, show t[i].1 = true from h2]
  simp [wayT, ints]
 | split i l r ihl ihr =>
  intro m out h hm ho
  obtain ⟨h1, h2, f0, f1, h3, h4, h5, h6⟩ := h
  simp only [TR.deep] at hm ho
  obtain ⟨m, rfl⟩ : ∃ k, m = k + 1 := ⟨m - 1, by omega⟩
  have d0 : (0 : Int) ≤ (i : Int) := by omega
  have head : ∀ U : TR, wayT t row U = U.top :: (wayT t row U).tail := by intro U; cases U <;> rfl
  show route_Way_s5 (lp route_Way_s5 m) _ = _
  rw [show ((TR.split i l r).top : Int) = (i : Int) from rfl, route_Way_s5, cnd d0, Int.toNat_natCast, List.getElem?_eq_getElem h1, Option.bind_some, show (!t[i].1) = true by rw [show t[i].1 = false from h2]; rfl, cond_true, cnd d0, Option.bind_some, next_ok hs hc h1 f0 f1, Option.bind_some, blt (by omega), cond_true]
  simp only [wayT, List.tail_cons]
  cases goL t row i with
  | true =>
   rw [if_pos rfl, if_pos rfl, h3, ihl m _ h5 (by omega) (by simp; omega)]
   rw [head l]; simp [ints]
  | false =>
   rw [if_neg (by decide), if_neg (by decide), h4, ihr m _ h6 (by omega) (by simp; omega)]
   rw [head r]; simp [ints]
theorem wayT_head (t : List NODE) (row : List CELL) (T : TR) : wayT t row T = T.top :: (wayT t row T).tail := by cases T <;> rfl
theorem TreeV_ok {t : List NODE} {f : Int} (ht : t.length ≤ 15) (hs : TSz t 4) : ∃ b, valid_Tree t f = some b ∧ (b = true ↔ Good (f, [t])) := by
 obtain ⟨b, h1, h2⟩ := Ok_ok (m := (f, [t])) (k := 4) (by simp) (by intro u hu; simp at hu; subst hu; omega) (by intro u hu; simp at hu; subst hu; exact hs) (by decide)
 exact ⟨b, by rw [valid_Tree, h1]; rfl, h2⟩
theorem route_Way_ok {t : List NODE} {row : List CELL} (ht : t.length ≤ 15) (hs : TSz t 4) (hc : CSz row 9) :
  (¬ Good ((row.length : Int), [t]) ∧ valid_Tree t (row.length : Int) = some false ∧ route_Way t row = some ([], 1)) ∨
  (Good ((row.length : Int), [t]) ∧ valid_Tree t (row.length : Int) = some true ∧ route_Way t row = some (ints (wayT t row (treeOf t)), 0)) := by
 obtain ⟨b, h1, h2⟩ := TreeV_ok (f := (row.length : Int)) ht hs
 cases b with
 | false => exact .inl ⟨fun h => by have := h2.2 h; simp at this, h1, by rw [route_Way, h1]; rfl⟩
 | true =>
  have hg := h2.1 rfl
  obtain ⟨g1, g2, g3⟩ := hg.treeOf (i := 0) (by simp)
  have g1 : Is t (row.length : Int) (treeOf t) := g1
  have g2 : (treeOf t).top = 0 := g2
  have g3 : (treeOf t).deep ≤ t.length + 1 := g3
  refine .inr ⟨hg, h1, ?_⟩
  have key := Way_lp hs hc (treeOf t) K0 [0] g1 (by unfold K0; omega) (by simp; omega)
  rw [g2] at key
  have key : lp route_Way_s5 K0 ((t, row, 0, [0], ()), ()) = _ := key
  rw [route_Way, h1, Option.bind_some, Bool.not_true, cond_false, key, Option.bind_some]
  rw [wayT_head t row (treeOf t), g2]
  rfl
theorem cutRow_sz (l : List CELL) : CSz (l.map cutCell) 9 := by
 intro c hc
 obtain ⟨x, _, rfl⟩ := List.mem_map.1 hc
 exact ⟨Nat.le_trans (cutR_sz 3 _).1 (by decide), Nat.le_trans (cutR_sz 3 _).2 (by decide)⟩
theorem fits_ok {m : MODEL} {row : List CELL} (hl : m.2.length < 4294967296) (ht : ∀ t ∈ m.2, t.length < 4294967296) (hs : MSz m 4) :
  ∃ e : Int, route_fits m row = some e ∧ route_Fits m row = some e ∧ dendronlaw10_Why m row = some e ∧ (e = 0 ↔ Good m ∧ (row.length : Int) = m.1) := by
 obtain ⟨b, h1, h2⟩ := Ok_ok hl ht hs (by decide)
 have key : ∃ e : Int, route_fits m row = some e ∧ (e = 0 ↔ Good m ∧ (row.length : Int) = m.1) := by
  cases b with
  | false => exact ⟨1, by rw [route_fits, h1]; rfl, by constructor; · intro h; exact absurd h (by decide)
                                                       · intro h; have := h2.2 h.1; simp at this⟩
  | true =>
   by_cases h : (row.length : Int) = m.1
   · exact ⟨0, by rw [route_fits, h1, Option.bind_some, Bool.not_true, cond_false, decide_eq_true h]; rfl, by simp [h2.1 rfl, h]⟩
   · exact ⟨14, by rw [route_fits, h1, Option.bind_some, Bool.not_true, cond_false, decide_eq_false h]; rfl, by simp [h]⟩
 obtain ⟨e, h3, h4⟩ := key
 have h5 : dendronlaw10_Why m row = route_fits m row := rfl
 exact ⟨e, h3, by rw [route_Fits, h3]; rfl, by rw [h5, h3], h4⟩
structure Askd (m : MODEL) (row : List CELL) : Prop where
 good : Good m
 len : (row.length : Int) = m.1
 ms : MSz m 4
 ml : m.2.length ≤ 6
 mt : ∀ t ∈ m.2, t.length ≤ 15
 cs : CSz row 9
theorem Askd.tree {m : MODEL} {row : List CELL} (h : Askd m row) {i : Nat} (hi : i < m.2.length) : TSz m.2[i] 4 ∧ Is m.2[i] (row.length : Int) (treeOf (treeAt m i)) ∧ (treeOf (treeAt m i)).top = 0 ∧ (treeOf (treeAt m i)).deep ≤ 16 ∧ treeAt m i = m.2[i] := by
 have h1 := h.good.treeOf hi
 have h2 := deep16 h.good h.mt hi
 rw [treeAt_get hi] at h2 ⊢
 exact ⟨h.ms _ (List.getElem_mem hi), by rw [h.len]; exact h1.1, h1.2.1, h2, rfl⟩
theorem sum_step {f : Nat → Rat} {n k : Nat} {q : RAT} (hs : SzQ (rsum f n) k) (hk : k < 1099511627776) (hq : Sm q) (e : rv q = f n) : ratio_Add (((canQ (rsum f n)).1.1, (canQ (rsum f n)).1.2), (canQ (rsum f n)).2) q = some (canQ (rsum f (n + 1))) := by
 have h1 := ratio_Add_ok (hs.sm hk) hq
 rw [rv_canQ, e] at h1
 exact h1
theorem Predict_ok {m : MODEL} {row : List CELL} (h : Askd m row) : route_Predict m row = some (canQ (predM m row), 0) := by
 obtain ⟨e, h1, _, _, h2⟩ := fits_ok (row := row) (by have := h.ml; omega) (fun t ht => by have := h.mt t ht; omega) h.ms
 have e0 : e = 0 := h2.2 ⟨h.good, h.len⟩
 subst e0
 have ml := h.ml
 have key := lp_up (step := route_Predict_s6) (fun i => ((row, m.2, ((m.2.length : Nat) : Int), (i : Int), ()), ((false, [], [], ()), ((canQ (rsum (fun i => predT (treeAt m i) row (treeOf (treeAt m i))) i)).1.1, (canQ (rsum (fun i => predT (treeAt m i) row (treeOf (treeAt m i))) i)).1.2, (canQ (rsum (fun i => predT (treeAt m i) row (treeOf (treeAt m i))) i)).2, ()), ()))) m.2.length (by omega) (by
  intro g i hi
  have d0 : (i : Int) < ((m.2.length : Nat) : Int) := by omega
  have d1 : (0 : Int) ≤ (i : Int) := by omega
  obtain ⟨t1, t2, t3, t4, t5⟩ := h.tree hi
  have hv := rvalue_ok t1 h.cs t2 t3 (by omega)
  have hq : SzQ (predT m.2[i] row (treeOf (treeAt m i))) 4 := predT_sz t1 t2
  have ha := sum_step (f := fun i => predT (treeAt m i) row (treeOf (treeAt m i))) (predM_sz (row := row) h.good h.ms (n := i) (by omega)) (by omega) (hq.sm (by decide)) (by rw [rv_canQ]; show _ = predT (treeAt m i) row _; rw [t5])
  rw [route_Predict_s6, cnd d0, cnd d1, Int.toNat_natCast, List.getElem?_eq_getElem hi, Option.bind_some, hv, Option.bind_some, ha, Option.bind_some, iadd1 (by omega)]
  rfl) (by
  intro g
  rw [route_Predict_s6, cnd' (by omega)])
 rw [route_Predict, h1, Option.bind_some, show (!decide ((0 : Int) = 0)) = false by decide, cond_false, ratio_Zero_ok, Option.bind_some]
 have key' : lp route_Predict_s6 K0 ((row, m.2, ((m.2.length : Nat) : Int), 0, ()), ((false, [], [], ()), ((canQ 0).1.1, (canQ 0).1.2, (canQ 0).2, ()), ())) = _ := key
 rw [key']
 rfl
theorem testBit_div (n k : Nat) : (n / 2 ^ k) % 2 = 1 ↔ n.testBit k = true := by
 rw [Nat.testBit_eq_decide_div_mod_eq, decide_eq_true_iff]
theorem known_ok {set k : Nat} (hs : set < 18446744073709551616) (hk : k ≤ 64) : expect_known (set : Int) (k : Int) = some (set.testBit k) := by
 have h2 : (set / 2 ^ k : Nat) < 18446744073709551616 := Nat.lt_of_le_of_lt (Nat.div_le_self _ _) hs
 have h3 := iand_nat (x := set / 2 ^ k) (y := 1) h2 (by decide)
 rw [expect_known, cnd' (by omega), shr_nat set k hk]
 have h3 : iand .u64 ((set / 2 ^ k : Nat) : Int) 1 = ((set / 2 ^ k &&& 1 : Nat) : Int) := h3
 rw [h3, Nat.and_one_is_mod]
 congr 1
 by_cases h : set.testBit k = true
 · rw [h, decide_eq_true]
   have := (testBit_div set k).2 h
   omega
 · have h' : set.testBit k = false := by simpa using h
   rw [h', decide_eq_false]
   intro e
   exact h ((testBit_div set k).1 (by omega))
theorem over_ok {a b : RAT} (ha : Sm a) (hb : Sm b) (h : rv b ≠ 0) : expect_over a b = some (canQ (rv a / rv b)) := by
 rw [expect_over, ratio_Div_ok ha hb, if_neg h]; rfl
theorem mean_ok {t : List NODE} {i a b : Nat} {x y : RAT} {p q : Rat} {k : Nat} (hs : TSz t 4) (hcov : CoversP t) (hi : i < t.length) (ha : a < t.length) (hb : b < t.length) (hL : nL t[i] = (a : Int)) (hR : nR t[i] = (b : Int)) (hx : rv x = p) (hy : rv y = q) (hxs : Sm x) (hys : Sm y)
  (hp : SzQ p k) (hq : SzQ q k) (hk : k < 1000000000) : expect_mean t t[i] x y = some (canQ ((cov t a * p + cov t b * q) / cov t i)) := by
 have za := (hs _ (List.getElem_mem ha)).2.2
 have zb := (hs _ (List.getElem_mem hb)).2.2
 have zi := (hs _ (List.getElem_mem hi)).2.2
 have m1 := ratio_Mul_ok (za.sm (by decide)) hxs
 have m2 := ratio_Mul_ok (zb.sm (by decide)) hys
 rw [hx] at m1
 rw [hy] at m2
 have s1 : SzQ (rv (nCov t[a]) * p) (4 + k) := (za.szQ (by decide)).mul hp
 have s2 : SzQ (rv (nCov t[b]) * q) (4 + k) := (zb.szQ (by decide)).mul hq
 have s3 := s1.add s2
 have m3 := ratio_Add_ok (s1.sm (by omega)) (s2.sm (by omega))
 rw [rv_canQ, rv_canQ] at m3
 have hne : rv (nCov t[i]) ≠ 0 := by
  have := hcov i hi
  intro e
  rw [e] at this
  exact absurd this (by decide)
 have m4 := over_ok (s3.sm (by omega)) (zi.sm (by decide)) hne
 rw [rv_canQ] at m4
 rw [expect_mean, show t[i].2.2.2.1 = (a : Int) from hL, cnd (by omega), Int.toNat_natCast, List.getElem?_eq_getElem ha, Option.bind_some, m1, Option.bind_some, show t[i].2.2.2.2.1 = (b : Int) from hR, cnd (by omega), Int.toNat_natCast, List.getElem?_eq_getElem hb, Option.bind_some, m2, Option.bind_some, m3, Option.bind_some, m4, Option.bind_some, cov_get ha, cov_get hb, cov_get hi]
theorem expect_value_ok {t : List NODE} {row : List CELL} {set : Nat} (hs : TSz t 4) (hc : CSz row 9) (hcov : CoversP t) (hset : set < 18446744073709551616) (hf64 : row.length ≤ 64) : ∀ (n : Nat) (T : TR), Is t (row.length : Int) T → T.deep ≤ n → T.size ≤ 1000000 →
  expect_value n t (T.top : Int) row (set : Int) = some (canQ (expT t row set T)) := by
 intro n
 induction n with
 | zero => intro T _ hd; have := T.deep_pos; omega
 | succ n ih =>
  intro T h hd hz
  show expect_value_b (expect_value n) t T.top row set = _
  cases T with
  | leaf i =>
   obtain ⟨h1, h2⟩ := h
   have d0 : (0 : Int) ≤ (i : Int) := by omega
   have z := hs _ (List.getElem_mem h1)
   rw [expect_value_b, show ((TR.leaf i).top : Int) = (i : Int) from rfl, cnd d0, Int.toNat_natCast, List.getElem?_eq_getElem h1, Option.bind_some, show t[i].1 = true from h2, cond_true, ratio_Clean_ok (z.2.1.sm (by decide)), Option.bind_some, expT, nodeAt_get h1]
  | split i l r =>
   have h0 := h
   obtain ⟨h1, h2, f0, f1, h3, h4, h5, h6⟩ := h
   have d0 : (0 : Int) ≤ (i : Int) := by omega
   simp only [TR.deep] at hd
   simp only [TR.size] at hz
   obtain ⟨c, g1, g2, g3⟩ := goL_ok (f := 0) hs hc h1 f0 f1
   have z := hs _ (List.getElem_mem h1)
   have el : expect_value n t t[i].2.2.2.1 row set = some (canQ (expT t row set l)) := by rw [show t[i].2.2.2.1 = _ from h3]; exact ih l h5 (by omega) (by omega)
   have er : expect_value n t t[i].2.2.2.2.1 row set = some (canQ (expT t row set r)) := by rw [show t[i].2.2.2.2.1 = _ from h4]; exact ih r h6 (by omega) (by omega)
   have hft : ((nFeat t[i]).toNat : Int) = nFeat t[i] := by omega
   have hkn := known_ok (k := (nFeat t[i]).toNat) hset (by omega)
   rw [hft] at hkn
   rw [expect_value_b, show ((TR.split i l r).top : Int) = (i : Int) from rfl, cnd d0, Int.toNat_natCast, List.getElem?_eq_getElem h1, Option.bind_some, show t[i].1 = false from h2, cond_false, hkn, Option.bind_some, expT, nodeAt_get h1]
   cases hb : set.testBit (nFeat t[i]).toNat with
   | false =>
    have sl := expT_sz (row := row) (set := set) hs h5
    have sr := expT_sz (row := row) (set := set) hs h6
    have sl' := sl.mono (m := 16000000) (by omega)
    have sr' := sr.mono (m := 16000000) (by omega)
    rw [Bool.not_false, cond_true, el, Option.bind_some, er, Option.bind_some, mean_ok hs hcov h1 h5.top_lt h6.top_lt h3 h4 (rv_canQ _) (rv_canQ _) (sl'.sm (by decide)) (sr'.sm (by decide)) sl' sr' (by decide), Option.bind_some, if_neg (by decide)]
   | true =>
    rw [Bool.not_true, cond_false, cnd f0, g1, Option.bind_some, Left_ok z.1 (by decide) g2 (by decide), Option.bind_some, g3, show (!nLeaf t[i]) = true by rw [h2]; rfl, Bool.true_and, if_pos rfl]
    cases goL t row i with
    | true => rw [cond_true, el, Option.bind_some, if_pos rfl]
    | false => rw [cond_false, er, Option.bind_some, if_neg (by decide)]
theorem Askd.cov {m : MODEL} {row : List CELL} (h : Askd m row) {i : Nat} (hi : i < m.2.length) : CoversP m.2[i] := h.good.covers hi
theorem Askd.f64 {m : MODEL} {row : List CELL} (h : Askd m row) : row.length ≤ 64 := by
 have := h.good.1.2.1
 have := h.len
 omega
theorem eValue_ok {m : MODEL} {row : List CELL} (h : Askd m row) {set : Nat} (hset : set < 18446744073709551616) : expect_Value m row (set : Int) = some (canQ (sayM m row set), 0) := by
 obtain ⟨e, _, h1, _, h2⟩ := fits_ok (row := row) (by have := h.ml; omega) (fun t ht => by have := h.mt t ht; omega) h.ms
 have e0 : e = 0 := h2.2 ⟨h.good, h.len⟩
 subst e0
 have ml := h.ml
 obtain ⟨F, eF⟩ : ∃ F : Nat → Rat, F = fun i => expT (treeAt m i) row set (treeOf (treeAt m i)) := ⟨_, rfl⟩
 have hF : ∀ n, n ≤ m.2.length → SzQ (rsum F n) (1 + n * 1048577) := fun n hn => by rw [eF]; exact sayM_sz h.good h.ms h.mt hn
 have key := lp_up (step := expect_Value_s6) (fun i => ((row, (set : Int), m.2, ((m.2.length : Nat) : Int), (i : Int), ()), ((false, [], [], ()), ((canQ (rsum F i)).1.1, (canQ (rsum F i)).1.2, (canQ (rsum F i)).2, ()), ()))) m.2.length (by omega) (by
  intro g i hi
  have d0 : (i : Int) < ((m.2.length : Nat) : Int) := by omega
  have d1 : (0 : Int) ≤ (i : Int) := by omega
  obtain ⟨t1, t2, t3, t4, t5⟩ := h.tree hi
  have hz := TR.size_le t4
  have hv := expect_value_ok t1 h.cs (h.cov hi) hset h.f64 R0 _ t2 (by unfold R0; omega) (by omega)
  rw [t3] at hv
  have hv : expect_value R0 m.2[i] 0 row set = some (canQ (expT m.2[i] row set (treeOf (treeAt m i)))) := hv
  have hq : SzQ (expT m.2[i] row set (treeOf (treeAt m i))) 1048576 := (expT_sz t1 t2).mono (by omega)
  have ha := sum_step (hF i (by omega)) (by omega) (hq.sm (by decide)) (by rw [rv_canQ, eF]; show _ = expT (treeAt m i) row set _; rw [t5])
  rw [expect_Value_s6, cnd d0, cnd d1, Int.toNat_natCast, List.getElem?_eq_getElem hi, Option.bind_some, hv, Option.bind_some, ha, Option.bind_some, iadd1 (by omega)]
  rfl) (by
  intro g
  rw [expect_Value_s6, cnd' (by omega)])
 rw [expect_Value, h1, Option.bind_some, show (!decide ((0 : Int) = 0)) = false by decide, cond_false, ratio_Zero_ok, Option.bind_some]
 have key' : lp expect_Value_s6 K0 ((row, (set : Int), m.2, ((m.2.length : Nat) : Int), 0, ()), ((false, [], [], ()), ((canQ 0).1.1, (canQ 0).1.2, (canQ 0).2, ()), ())) = _ := key
 rw [key']
 rw [sayM, ← eF]
 rfl
theorem expT_none (t : List NODE) (row row' : List CELL) (T : TR) : expT t row 0 T = expT t row' 0 T := by
 induction T with
 | leaf i => rfl
 | split i l r ihl ihr => simp only [expT, Nat.zero_testBit]; rw [ihl, ihr, if_neg (by decide), if_neg (by decide)]
theorem sayM_none (m : MODEL) (row row' : List CELL) : sayM m row 0 = sayM m row' 0 := rsum_congr fun i hi => expT_none _ _ _ _
theorem Base_ok {m : MODEL} (hg : Good m) (ms : MSz m 4) (ml : m.2.length ≤ 6) (mt : ∀ t ∈ m.2, t.length ≤ 15) (row : List CELL) : expect_Base m = some (canQ (sayM m row 0), 0) := by
 have f0 := hg.1.1
 have f1 := hg.1.2.1
 obtain ⟨b, h1, h2⟩ := Ok_ok (m := m) (k := 4) (by omega) (fun t ht => by have := mt t ht; omega) ms (by decide)
 have hb : b = true := h2.2 hg
 subst hb
 obtain ⟨z, ez⟩ : ∃ z, z = List.replicate m.1.toNat ((false, ((false, []), [])) : CELL) := ⟨_, rfl⟩
 have ha : Askd m z := ⟨hg, by rw [ez]; simp; omega, ms, ml, mt, by
  intro c hc
  rw [ez] at hc
  have := (List.mem_replicate.1 hc).2
  subst this
  exact ⟨Nat.zero_le _, Nat.zero_le _⟩⟩
 have hv := eValue_ok ha (set := 0) (by decide)
 have hv : expect_Value m z 0 = _ := hv
 have c1 : (decide (m.1 = m.1) && decide (0 ≤ m.1) && decide (((64 : Nat) : Int) * m.1 ≤ 281474976710656) && decide (m.1 ≤ 9223372036854775807)) = true := by
  rw [decide_eq_true rfl, decide_eq_true f0, decide_eq_true (by omega), decide_eq_true (by omega)]; rfl
 rw [expect_Base, h1, Option.bind_some, Bool.not_true, cond_false, c1, cond_true, ← ez, hv, Option.bind_some, sayM_none m z row]
theorem Small_ok (m0 : MODEL) (row0 : List CELL) (hl : m0.2.length ≤ 9223372036854775807) (ht : ∀ t ∈ m0.2, t.length ≤ 9223372036854775807) (hr : row0.length ≤ 9223372036854775807) :
   ∃ m row, dendronlaw11_Small m0 row0 = some (m, row) ∧ MSz m 4 ∧ m.2.length ≤ 3 ∧ (∀ t ∈ m.2, t.length ≤ 15) ∧ CSz row 9 := by
 have hf := Few07_ok m0 hl ht
 have ms := cutM_sz m0
 have mt := cutM_tlen m0
 have h9 := Few09_ok row0 70 hr (by decide)
 have h9 : dendronlaw09_Few row0 70 = some ((row0.take 70).map cutCell) := h9
 have cs := cutRow_sz (row0.take 70)
 by_cases h3 : ((cutM m0).2.length : Int) > 3
 · refine ⟨((cutM m0).1, (cutM m0).2.take 3), (row0.take 70).map cutCell, ?_, fun t h => ms t (List.mem_of_mem_take h), by simp; omega, fun t h => mt t (List.mem_of_mem_take h), cs⟩
   rw [dendronlaw11_Small, hf, Option.bind_some, cnd h3, cnd (by omega), h9]; rfl
 · refine ⟨cutM m0, (row0.take 70).map cutCell, ?_, ms, by omega, mt, cs⟩
   rw [dendronlaw11_Small, hf, Option.bind_some, cnd' h3, h9]; rfl
def qcan (qs : List Rat) : List RAT := qs.map canQ
@[simp] theorem qcan_len (qs : List Rat) : (qcan qs).length = qs.length := by simp [qcan]
def mT (t : List NODE) (T : TR) : Rat := expT t [] 0 T
theorem mT_split (t : List NODE) (i : Nat) (l r : TR) : mT t (.split i l r) = (cov t l.top * mT t l + cov t r.top * mT t r) / cov t i := by
 simp only [mT, expT, Nat.zero_testBit]; rw [if_neg (by decide)]
theorem mT_say (t : List NODE) (row : List CELL) (T : TR) : expT t row 0 T = mT t T := expT_none t row [] T
theorem mT_sz {t : List NODE} {f : Int} {T : TR} (hs : TSz t 4) (h : Is t f T) : SzQ (mT t T) (16 * T.size) := expT_sz hs h
def leavesT : TR → List Nat
 | .leaf i => [i]
 | .split _ l r => leavesT l ++ leavesT r
def lsum : List Rat → Rat
 | [] => 0
 | x :: r => x + lsum r
theorem lsum_append (a b : List Rat) : lsum (a ++ b) = lsum a + lsum b := by
 induction a with
 | nil => simp [lsum, Rat.zero_add]
 | cons x a ih => simp only [List.cons_append, lsum, ih, Rat.add_assoc]
theorem lsum_take_succ {l : List Rat} {i : Nat} (h : i < l.length) : lsum (l.take (i + 1)) = lsum (l.take i) + l[i] := by
 rw [List.take_succ_eq_append_getElem h, lsum_append]; simp [lsum, Rat.add_zero]
theorem lsum_sz {l : List Rat} {k : Nat} (h : ∀ x ∈ l, SzQ x k) : SzQ (lsum l) (1 + l.length * (k + 1)) := by
 induction l with
 | nil => simpa [lsum] using SzQ.zero
 | cons x l ih =>
  have h1 := h x List.mem_cons_self
  have h2 := ih fun y hy => h y (List.mem_cons_of_mem _ hy)
  exact (h1.add h2).mono (by simp only [List.length_cons, Nat.add_mul]; omega)
def InT (U : TR) : TR → Prop
 | .leaf i => U = .leaf i
 | .split i l r => U = .split i l r ∨ InT U l ∨ InT U r
theorem InT.self (T : TR) : InT T T := by cases T <;> simp [InT]
theorem InT.left {U : TR} {T : TR} {i : Nat} {l r : TR} (h : InT (.split i l r) T) : InT l T ∧ InT r T := by
 induction T with
 | leaf j => simp [InT] at h
 | split j a b iha ihb =>
  rcases h with h | h | h
  · injection h with h1 h2 h3; subst h2; subst h3; exact ⟨.inr (.inl (InT.self _)), .inr (.inr (InT.self _))⟩
  · have := iha h; exact ⟨.inr (.inl this.1), .inr (.inl this.2)⟩
  · have := ihb h; exact ⟨.inr (.inr this.1), .inr (.inr this.2)⟩
theorem InT.is {t : List NODE} {f : Int} {U T : TR} (h : InT U T) (hT : Is t f T) : Is t f U := by
 induction T with
 | leaf j => cases h; exact hT
 | split j a b iha ihb =>
  rcases h with h | h | h
  · subst h; exact hT
  · exact iha h hT.2.2.2.2.2.2.1
  · exact ihb h hT.2.2.2.2.2.2.2
theorem InT.deep {U T : TR} (h : InT U T) : U.deep ≤ T.deep := by
 induction T with
 | leaf j => cases h; exact Nat.le_refl _
 | split j a b iha ihb =>
  simp only [TR.deep]
  rcases h with h | h | h
  · subst h; simp only [TR.deep]; omega
  · have := iha h; omega
  · have := ihb h; omega
theorem InT.size {U T : TR} (h : InT U T) : U.size ≤ T.size := by
 induction T with
 | leaf j => cases h; exact Nat.le_refl _
 | split j a b iha ihb =>
  simp only [TR.size]
  rcases h with h | h | h
  · subst h; simp only [TR.size]; omega
  · have := iha h; omega
  · have := ihb h; omega
theorem InT.uniq {t : List NODE} {f : Int} {U U' T : TR} (h : InT U T) (h' : InT U' T) (hT : Is t f T) (e : U.top = U'.top) : U = U' := by
 have h1 := mkT_eq T.deep U (h.is hT) h.deep
 have h2 := mkT_eq T.deep U' (h'.is hT) h'.deep
 rw [← h1, ← h2, e]
def kidsT : TR → List TR
 | .leaf _ => []
 | .split _ l r => [l, r]
def sizes : List TR → Nat
 | [] => 0
 | U :: r => U.size + sizes r
theorem sizes_append (a b : List TR) : sizes (a ++ b) = sizes a + sizes b := by
 induction a with
 | nil => simp [sizes]
 | cons x a ih => simp only [List.cons_append, sizes, ih]; omega
theorem sizes_kids (U : TR) : U.size = 1 + sizes (kidsT U) := by cases U <;> simp [kidsT, sizes, TR.size]; omega
structure Down (T : TR) (L : List TR) (n : Nat) : Prop where
 le : n ≤ L.length
 all : ∀ U ∈ L, InT U T
 kid : ∀ p (h : p < L.length), p < n → ∀ c ∈ kidsT L[p], ∃ q, ∃ hq : q < L.length, p < q ∧ L[q] = c
 top : T ∈ L
 size : n + sizes (L.drop n) = T.size
theorem Down.init (T : TR) : Down T [T] 0 := ⟨by simp, by simp [InT.self], by intro p h hp; omega, by simp, by simp [sizes]⟩
theorem Down.step {T : TR} {L : List TR} {n : Nat} (h : Down T L n) (hn : n < L.length) : Down T (L ++ kidsT L[n]) (n + 1) := by
 have hm : L[n] ∈ L := List.getElem_mem hn
 refine ⟨by simp; omega, fun U hU => ?_, fun p hp hpn c hc => ?_, by simp [h.top], ?_⟩
 · rcases List.mem_append.1 hU with hU | hU
   · exact h.all U hU
   · have hi := h.all _ hm
     cases e : L[n] with
     | leaf j => rw [e] at hU; simp [kidsT] at hU
     | split j l r =>
      rw [e] at hU hi
      simp [kidsT] at hU
      have := hi.left (U := .leaf 0)
      rcases hU with rfl | rfl
      · exact this.1
      · exact this.2
 · have hpL : p < L.length := by omega
   rw [List.getElem_append_left hpL] at hc
   by_cases e : p = n
   · subst e
     obtain ⟨q, hq, rfl⟩ := List.getElem_of_mem hc
     exact ⟨L.length + q, by simp; omega, by omega, by rw [List.getElem_append_right (by omega)]; simp⟩
   · obtain ⟨q, hq, h1, h2⟩ := h.kid p hpL (by omega) c hc
     exact ⟨q, by simp; omega, h1, by rw [List.getElem_append_left hq]; exact h2⟩
 · have h1 := h.size
   rw [List.drop_eq_getElem_cons hn] at h1
   simp only [sizes] at h1
   rw [sizes_kids L[n]] at h1
   rw [List.drop_append_of_le_length (by omega), sizes_append]
   omega
theorem Down.len {T : TR} {L : List TR} {n : Nat} (h : Down T L n) : n ≤ T.size := by have := h.size; omega
theorem sizes_len (L : List TR) : L.length ≤ sizes L := by
 induction L with
 | nil => simp [sizes]
 | cons x L ih =>
  have : 0 < x.size := by cases x <;> simp [TR.size] <;> omega
  simp only [List.length_cons, sizes]; omega
theorem Down.llen {T : TR} {L : List TR} {n : Nat} (h : Down T L n) : L.length ≤ T.size := by
 have h1 := h.size
 have h2 := sizes_len (L.drop n)
 have h3 := h.le
 simp only [List.length_drop] at h2
 omega
theorem Down.has {T : TR} {L : List TR} (h : Down T L L.length) : ∀ U, InT U T → U ∈ L := by
 have key : ∀ A, A ∈ L → ∀ U, InT U A → U ∈ L := by
  intro A
  induction A with
  | leaf i => intro hA U hU; cases hU; exact hA
  | split i l r ihl ihr =>
   intro hA U hU
   obtain ⟨p, hp, e⟩ := List.getElem_of_mem hA
   have hk := h.kid p hp hp
   rw [e] at hk
   obtain ⟨q1, hq1, _, e1⟩ := hk l (by simp [kidsT])
   obtain ⟨q2, hq2, _, e2⟩ := hk r (by simp [kidsT])
   rcases hU with hU | hU | hU
   · subst hU; exact hA
   · exact ihl (e1 ▸ List.getElem_mem hq1) U hU
   · exact ihr (e2 ▸ List.getElem_mem hq2) U hU
 exact key T h.top
def tops (L : List TR) : List Int := ints (L.map TR.top)
theorem tops_len (L : List TR) : (tops L).length = L.length := by simp [tops, ints]
theorem tops_get {L : List TR} {n : Nat} (h : n < L.length) : (tops L)[n]? = some ((L[n].top : Nat) : Int) := by
 have := ints_get (o := L.map TR.top) (i := n) (by simpa using h)
 rw [tops, this]; simp
theorem tops_append (a b : List TR) : tops (a ++ b) = tops a ++ tops b := by simp [tops, ints]
theorem down_ok {t : List NODE} {f : Int} {T : TR} (h : Is t f T) (h0 : T.top = 0) (hz : T.size ≤ 1000000) :
  ∃ L, Down T L L.length ∧ expect_down t = some (tops L) := by
 obtain ⟨r, ⟨L, hL, rfl⟩, hlp⟩ := lp_wf (step := expect_down_s3) (fun s => ∃ L : List TR, ∃ n : Nat, Down T L n ∧ s = ((t, tops L, (n : Int), ()), ())) (fun s => T.size - s.1.2.2.1.toNat)
  (fun r => ∃ L, Down T L L.length ∧ r = ((tops L, ()), ())) (v := ((t, [0], 0, ()), ())) ⟨[T], 0, Down.init T, by simp [tops, ints, h0]⟩ (by simp; omega) (by
   rintro s ⟨L, n, hD, rfl⟩
   have hll := hD.llen
   have hle := hD.le
   have d1 : (0 : Int) ≤ (n : Int) := by omega
   have tl := tops_len L
   by_cases hn : n < L.length
   · have hst := hD.step hn
     have hns := hst.len
     have d0 : (n : Int) < ((tops L).length : Int) := by omega
     have hI := (hD.all _ (List.getElem_mem hn)).is h
     refine .inr ⟨((t, tops (L ++ kidsT L[n]), ((n + 1 : Nat) : Int), ()), ()), ⟨_, _, hst, rfl⟩, ?_, fun g => ?_⟩
     · simp only [Int.toNat_natCast]; omega
     · rw [expect_down_s3, cnd d0, cnd2 d1 d0, Int.toNat_natCast, tops_get hn, Option.bind_some, cnd (by omega), Int.toNat_natCast]
       cases e : L[n] with
       | leaf i =>
        rw [e] at hI
        obtain ⟨h1, h2⟩ := hI
        rw [show (TR.leaf i).top = i from rfl, List.getElem?_eq_getElem h1, Option.bind_some, show t[i].1 = true from h2, Bool.not_true, cond_false, iadd1 (by omega)]
        simp only [kidsT, List.append_nil]
        rfl
       | split i l r =>
        rw [e] at hI
        obtain ⟨h1, h2, f0, f1, h3, h4, h5, h6⟩ := hI
        rw [show (TR.split i l r).top = i from rfl, List.getElem?_eq_getElem h1, Option.bind_some, show (!t[i].1) = true by rw [show t[i].1 = false from h2]; rfl, cond_true, blt (by omega), cond_true, show t[i].2.2.2.1 = _ from h3, show t[i].2.2.2.2.1 = _ from h4, iadd1 (by omega), tops_append]
        rfl
   · have e : n = L.length := by omega
     subst e
     refine .inl ⟨_, ⟨L, hD, rfl⟩, fun g => ?_⟩
     rw [expect_down_s3, cnd' (by omega)])
 exact ⟨L, hL, by rw [expect_down, hlp, Option.bind_some]⟩
def meansL (t : List NODE) (T : TR) (out : List RAT) : Prop := out.length = t.length ∧ ∀ U, InT U T → out[U.top]? = some (canQ (mT t U))
theorem nodes_lp {t : List NODE} {f : Int} {T : TR} {L : List TR} (hs : TSz t 4) (hcov : CoversP t) (h : Is t f T) (hD : Down T L L.length) (hz : T.size ≤ 1000000) :
  ∃ out, meansL t T out ∧ lp expect_Nodes_s6 K0 ((t, List.replicate t.length zR, tops L, (L.length : Int) - 1, ()), ()) = some ((out, ()), ()) := by
 have hll := hD.llen
 obtain ⟨r, ⟨out, ho, rfl⟩, hlp⟩ := lp_inv (step := expect_Nodes_s6)
  (fun k s => ∃ out : List RAT, out.length = t.length ∧ (∀ p (hp : p < L.length), L.length ≤ p + k → out[L[p].top]? = some (canQ (mT t L[p]))) ∧ s = ((t, out, tops L, (L.length : Int) - 1 - (k : Int), ()), ()))
  (fun r => ∃ out, meansL t T out ∧ r = ((out, ()), ())) L.length (v := ((t, List.replicate t.length zR, tops L, (L.length : Int) - 1, ()), ()))
  ⟨List.replicate t.length zR, List.length_replicate .., fun p hp hk => by omega, by simp⟩ (by omega) (by
   rintro k s hk ⟨out, hol, hout, rfl⟩
   obtain ⟨p, hp⟩ : ∃ p, p = L.length - 1 - k := ⟨_, rfl⟩
   have hpl : p < L.length := by omega
   have ep : (L.length : Int) - 1 - (k : Int) = (p : Int) := by omega
   have hIn := hD.all _ (List.getElem_mem hpl)
   have hI := hIn.is h
   have hsz := hIn.size
   have htop := hI.top_lt
   have d1 : (0 : Int) ≤ (p : Int) := by omega
   have tl := tops_len L
   have d0 : (p : Int) < ((tops L).length : Int) := by omega
   have d2 : ((L[p].top : Nat) : Int) < (out.length : Int) := by omega
   have i1 : isub .i64 (p : Int) 1 = (L.length : Int) - 1 - ((k + 1 : Nat) : Int) := by rw [isub_i] <;> omega
   have new : ∀ q (hq : q < L.length), L.length ≤ q + (k + 1) → (out.set L[p].top (canQ (mT t L[p])))[L[q].top]? = some (canQ (mT t L[q])) := by
     intro q hq hqk
     rw [List.getElem?_set]
     by_cases e : L[p].top = L[q].top
     · have := hIn.uniq (hD.all _ (List.getElem_mem hq)) h e
       rw [if_pos e, if_pos (by omega), ← this]
     · rw [if_neg e]
       have : q ≠ p := by rintro rfl; exact e rfl
       exact hout q hq (by omega)
   refine ⟨((t, out.set L[p].top (canQ (mT t L[p])), tops L, (L.length : Int) - 1 - ((k + 1 : Nat) : Int), ()), ()), ⟨_, by simp [hol], new, rfl⟩, fun g => ?_⟩
   have hkid := hD.kid p hpl hpl
   rw [ep, expect_Nodes_s6, cnd (by omega), cnd2 d1 d0, Int.toNat_natCast, tops_get hpl, Option.bind_some, cnd (by omega), Int.toNat_natCast, i1]
   cases e : L[p] with
   | leaf i =>
     rw [e] at hI d2
     obtain ⟨h1, h2⟩ := hI
     have z := hs _ (List.getElem_mem h1)
     have et : (TR.leaf i).top = i := rfl
     rw [et] at d2 ⊢
     rw [List.getElem?_eq_getElem h1, Option.bind_some, show t[i].1 = true from h2, cond_true, cnd2 d1 d0, Option.bind_some, ratio_Clean_ok (z.2.1.sm (by decide)), Option.bind_some, cnd2 (by omega) d2, Int.toNat_natCast, List.getElem?_eq_getElem (by omega), Option.bind_some]
     simp only [mT, expT, nodeAt_get h1]
   | split i l r =>
     rw [e] at hI d2 hsz hkid
     simp only [TR.size] at hsz
     obtain ⟨h1, h2, f0, f1, h3, h4, h5, h6⟩ := hI
     have et : (TR.split i l r).top = i := rfl
     rw [et] at d2 ⊢
     obtain ⟨q1, hq1, hl1, e1⟩ := hkid l (by simp [kidsT])
     obtain ⟨q2, hq2, hl2, e2⟩ := hkid r (by simp [kidsT])
     have o1 := hout q1 hq1 (by omega)
     have o2 := hout q2 hq2 (by omega)
     rw [e1] at o1
     rw [e2] at o2
     have t1 := h5.top_lt
     have t2 := h6.top_lt
     have sl := (mT_sz hs h5).mono (m := 16000000) (by omega)
     have sr := (mT_sz hs h6).mono (m := 16000000) (by omega)
     have hm := mean_ok hs hcov h1 t1 t2 h3 h4 (rv_canQ (mT t l)) (rv_canQ (mT t r)) (sl.sm (by decide)) (sr.sm (by decide)) sl sr (by decide)
     rw [List.getElem?_eq_getElem h1, Option.bind_some, show t[i].1 = false from h2, cond_false, cnd2 d1 d0, Option.bind_some, show t[i].2.2.2.1 = _ from h3, cnd2 (by omega) (by omega), Int.toNat_natCast, o1, Option.bind_some, show t[i].2.2.2.2.1 = _ from h4, cnd2 (by omega) (by omega), Int.toNat_natCast, o2, Option.bind_some, hm, Option.bind_some, cnd2 (by omega) d2, Int.toNat_natCast, List.getElem?_eq_getElem (by omega), Option.bind_some, mT_split]) (by
   rintro s ⟨out, hol, hout, rfl⟩
   refine ⟨_, ⟨out, ⟨hol, fun U hU => ?_⟩, rfl⟩, fun g => ?_⟩
   · obtain ⟨p, hp, e⟩ := List.getElem_of_mem (hD.has U hU)
     rw [← e]
     exact hout p hp (by omega)
   · rw [expect_Nodes_s6, cnd' (by omega)])
 exact ⟨out, ho, hlp⟩
theorem Nodes_ok {t : List NODE} {f : Int} (ht : t.length ≤ 15) (hs : TSz t 4) (hg : Good (f, [t])) : ∃ out, meansL t (treeOf t) out ∧ expect_Nodes t f = some (out, 0) := by
 obtain ⟨b, h1, h2⟩ := TreeV_ok (f := f) ht hs
 have hb : b = true := h2.2 hg
 subst hb
 obtain ⟨g1, g2, g3⟩ := hg.treeOf (i := 0) (by simp)
 have g1 : Is t f (treeOf t) := g1
 have g2 : (treeOf t).top = 0 := g2
 have g3 : (treeOf t).deep ≤ t.length + 1 := g3
 have hz := TR.size_le (T := treeOf t) (by omega)
 obtain ⟨L, hD, hd⟩ := down_ok g1 g2 (by omega)
 have hll := hD.llen
 have hcov : CoversP t := hg.covers (i := 0) (by simp)
 obtain ⟨out, ho, hlp⟩ := nodes_lp hs hcov g1 hD (by omega)
 have c1 : (decide ((t.length : Int) = (t.length : Int)) && decide (0 ≤ (t.length : Int)) && decide (((56 : Nat) : Int) * (t.length : Int) ≤ 281474976710656) && decide ((t.length : Int) ≤ 9223372036854775807)) = true := by
  rw [decide_eq_true rfl, decide_eq_true (by omega), decide_eq_true (by omega), decide_eq_true (by omega)]; rfl
 have i1 : isub .i64 ((tops L).length : Int) 1 = (L.length : Int) - 1 := by rw [tops_len, isub_i] <;> omega
 refine ⟨out, ho, ?_⟩
 rw [expect_Nodes, h1, Option.bind_some, Bool.not_true, cond_false, c1, cond_true, hd, Option.bind_some, i1, Int.toNat_natCast, hlp, Option.bind_some]
theorem Askd.goodT {m : MODEL} {row : List CELL} (h : Askd m row) {i : Nat} (hi : i < m.2.length) : Good ((row.length : Int), [m.2[i]]) := by
 have hg := h.good
 refine ⟨⟨?_, ?_, ?_, ?_⟩, ?_⟩
 · rw [h.len]; exact hg.1.1
 · rw [h.len]; exact hg.1.2.1
 · simp
 · intro j hj
   have hj : j < 1 := hj
   have : j = 0 := by omega
   subst this
   exact hg.1.2.2.2 i hi
 · intro r hr j hj
   have hj : j < 1 := hj
   have : j = 0 := by omega
   subst this
   have := hg.2 r hr i hi
   show RuleP (row.length : Int) r m.2[i]
   rw [h.len]; exact this
theorem InT.trans {A B C : TR} (h : InT A B) (h' : InT B C) : InT A C := by
 induction C with
 | leaf j => cases h'; exact h
 | split j a b iha ihb =>
  rcases h' with h' | h' | h'
  · subst h'; exact h
  · exact .inr (.inl (iha h'))
  · exact .inr (.inr (ihb h'))
abbrev ST := Nat × Nat × Nat × Rat
abbrev STEP := Int × Int × Int × RAT
def encS (s : ST) : STEP := ((s.1 : Int), ((s.2.1 : Int), ((s.2.2.1 : Int), canQ s.2.2.2)))
def stepsT (t : List NODE) (row : List CELL) (k : Nat) : TR → List ST
 | .leaf _ => []
 | .split i l r => (k, i, (nFeat (nodeAt t i)).toNat, (if goL t row i then mT t l else mT t r) - mT t (.split i l r)) :: (if goL t row i then stepsT t row k l else stepsT t row k r)
theorem stepsT_len (t : List NODE) (row : List CELL) (k : Nat) (T : TR) : (stepsT t row k T).length + 1 = (wayT t row T).length := by
 induction T with
 | leaf i => rfl
 | split i l r ihl ihr =>
  simp only [stepsT, wayT, List.length_cons]
  cases goL t row i with
  | true => rw [if_pos rfl, if_pos rfl, ihl]
  | false => rw [if_neg (by decide), if_neg (by decide), ihr]
theorem stepsT_get {t : List NODE} {f : Int} {row : List CELL} {k : Nat} {T : TR} (h : Is t f T) : ∀ p (hp : p < (stepsT t row k T).length), ∃ U V, InT U T ∧ InT V T ∧ (wayT t row T)[p]? = some U.top ∧ (wayT t row T)[p + 1]? = some V.top ∧ (∃ i l r, U = .split i l r) ∧ (stepsT t row k T)[p] = (k, U.top, (nFeat (nodeAt t U.top)).toNat, mT t V - mT t U) := by
 induction T with
 | leaf i => intro p hp; simp [stepsT] at hp
 | split i l r ihl ihr =>
  obtain ⟨h1, h2, f0, f1, h3, h4, h5, h6⟩ := h
  intro p hp
  have hd : ∀ U : TR, (wayT t row U)[0]? = some U.top := by intro U; cases U <;> rfl
  cases hg : goL t row i with
  | true =>
   have e1 : stepsT t row k (.split i l r) = (k, i, (nFeat (nodeAt t i)).toNat, mT t l - mT t (.split i l r)) :: stepsT t row k l := by simp only [stepsT, hg, if_true]
   have e2 : wayT t row (.split i l r) = i :: wayT t row l := by simp only [wayT, hg, if_true]
   rw [e2]
   cases p with
   | zero =>
    refine ⟨.split i l r, l, .inl rfl, .inr (.inl (InT.self l)), rfl, by rw [List.getElem?_cons_succ]; exact hd l, ⟨i, l, r, rfl⟩, ?_⟩
    simp only [e1, List.getElem_cons_zero]
    rfl
   | succ p =>
    have hp' : p < (stepsT t row k l).length := by rw [e1] at hp; simpa using hp
    obtain ⟨U, V, hU, hV, g1, g2, g3, g4⟩ := ihl h5 p hp'
    refine ⟨U, V, .inr (.inl hU), .inr (.inl hV), by rw [List.getElem?_cons_succ]; exact g1, by rw [List.getElem?_cons_succ]; exact g2, g3, ?_⟩
    simp only [e1, List.getElem_cons_succ]
    exact g4
  | false =>
   have e1 : stepsT t row k (.split i l r) = (k, i, (nFeat (nodeAt t i)).toNat, mT t r - mT t (.split i l r)) :: stepsT t row k r := by simp [stepsT, hg]
   have e2 : wayT t row (.split i l r) = i :: wayT t row r := by simp [wayT, hg]
   rw [e2]
   cases p with
   | zero =>
    refine ⟨.split i l r, r, .inl rfl, .inr (.inr (InT.self r)), rfl, by rw [List.getElem?_cons_succ]; exact hd r, ⟨i, l, r, rfl⟩, ?_⟩
    simp only [e1, List.getElem_cons_zero]
    rfl
   | succ p =>
    have hp' : p < (stepsT t row k r).length := by rw [e1] at hp; simpa using hp
    obtain ⟨U, V, hU, hV, g1, g2, g3, g4⟩ := ihr h6 p hp'
    refine ⟨U, V, .inr (.inr hU), .inr (.inr hV), by rw [List.getElem?_cons_succ]; exact g1, by rw [List.getElem?_cons_succ]; exact g2, g3, ?_⟩
    simp only [e1, List.getElem_cons_succ]
    exact g4
theorem stepsT_sz {t : List NODE} {f : Int} {row : List CELL} {k : Nat} {T : TR} (hs : TSz t 4) (h : Is t f T) (hz : T.size ≤ 65536) (h0 : 0 ≤ f) : ∀ s ∈ stepsT t row k T, SzQ s.2.2.2 2100000 ∧ ((s.2.2.1 : Nat) : Int) < f ∧ ((s.2.2.1 : Nat) : Int) = nFeat (nodeAt t s.2.1) ∧ s.2.1 < t.length := by
 intro s hm
 obtain ⟨p, hp, rfl⟩ := List.getElem_of_mem hm
 obtain ⟨U, V, hU, hV, _, _, ⟨i, l, r, e⟩, g⟩ := stepsT_get h p hp
 have u := hU.size
 have v := hV.size
 have su := (mT_sz hs (hU.is h)).mono (m := 1048576) (by omega)
 have sv := (mT_sz hs (hV.is h)).mono (m := 1048576) (by omega)
 rw [g]
 refine ⟨(sv.sub su).mono (by decide), ?_⟩
 have hI := hU.is h
 rw [e] at hI
 obtain ⟨h1, h2, f0, f1, _⟩ := hI
 have et : U.top = i := by rw [e]; rfl
 refine ⟨?_, ?_, by rw [et]; exact h1⟩
 · show (((nFeat (nodeAt t U.top)).toNat : Nat) : Int) < f
   rw [et, nodeAt_get h1]; omega
 · show (((nFeat (nodeAt t U.top)).toNat : Nat) : Int) = nFeat (nodeAt t U.top)
   rw [et, nodeAt_get h1]; omega
def stepsM (m : MODEL) (row : List CELL) : Nat → List ST
 | 0 => []
 | n + 1 => stepsM m row n ++ stepsT (treeAt m n) row n (treeOf (treeAt m n))
theorem steps_inner {t : List NODE} {f : Int} {row : List CELL} {T : TR} {k : Nat} (hs : TSz t 4) (h : Is t f T) (hz : T.size ≤ 65536) (h0 : 0 ≤ f) (hd : T.deep ≤ 1000) {out : List RAT} (ho : meansL t T out) (m : MODEL) (a : List (List NODE)) (b c : Int) {acc : List ST} (hacc : acc.length ≤ 100000) :
  lp saabas_Steps_s11 K0 ((row, acc.map encS, (k : Int), t, ints (wayT t row T), out, 1, a, b, c, ()), ((m.1, m.2, ()), ())) = some ((row, (acc ++ stepsT t row k T).map encS, a, b, c, ()), ((m.1, m.2, ()), ())) := by
 obtain ⟨hol, ho⟩ := ho
 have hlen := stepsT_len t row k T
 have hwl := wayT_len t row T
 have li : (ints (wayT t row T)).length = (wayT t row T).length := by simp [ints]
 have key := lp_up (step := saabas_Steps_s11) (fun p => ((row, (acc ++ (stepsT t row k T).take p).map encS, (k : Int), t, ints (wayT t row T), out, ((p + 1 : Nat) : Int), a, b, c, ()), ((m.1, m.2, ()), ()))) (stepsT t row k T).length
  (r := ((row, (acc ++ stepsT t row k T).map encS, a, b, c, ()), ((m.1, m.2, ()), ()))) (by omega) (by
  intro g p hp
  obtain ⟨U, V, hU, hV, g1, g2, ⟨i, l, r, eU⟩, g3⟩ := stepsT_get h p hp
  have hUt := (hU.is h).top_lt
  have hVt := (hV.is h).top_lt
  have d0 : ((p + 1 : Nat) : Int) < ((ints (wayT t row T)).length : Int) := by omega
  have d1 : (0 : Int) ≤ ((p + 1 : Nat) : Int) := by omega
  have i1 : isub .i64 ((p + 1 : Nat) : Int) 1 = (p : Int) := by rw [isub_i] <;> omega
  have d2 : (0 : Int) ≤ (p : Int) := by omega
  have d3 : (p : Int) < ((ints (wayT t row T)).length : Int) := by omega
  have x1 : (ints (wayT t row T))[p]? = some ((U.top : Nat) : Int) := by rw [ints, List.getElem?_map, g1]; rfl
  have x2 : (ints (wayT t row T))[p + 1]? = some ((V.top : Nat) : Int) := by rw [ints, List.getElem?_map, g2]; rfl
  have oU := ho U hU
  have oV := ho V hV
  have u := hU.size
  have v := hV.size
  have su := (mT_sz hs (hU.is h)).mono (m := 1048576) (by omega)
  have sv := (mT_sz hs (hV.is h)).mono (m := 1048576) (by omega)
  have hsub := ratio_Sub_ok (sv.sm (by decide)) (su.sm (by decide))
  rw [rv_canQ, rv_canQ] at hsub
  have dU : (0 : Int) ≤ ((U.top : Nat) : Int) := by omega
  have dV : (0 : Int) ≤ ((V.top : Nat) : Int) := by omega
  have dU' : ((U.top : Nat) : Int) < (out.length : Int) := by omega
  have dV' : ((V.top : Nat) : Int) < (out.length : Int) := by omega
  have hI := hU.is h
  rw [eU] at hI
  obtain ⟨h1, h2, f0, f1, _⟩ := hI
  have et : U.top = i := by rw [eU]; rfl
  have ef : ((nFeat (nodeAt t U.top)).toNat : Int) = t[U.top].2.1 := by
   rw [nodeAt_get hUt]
   have : nFeat t[U.top] = nFeat t[i] := by simp only [et]
   show (((nFeat t[U.top]).toNat : Nat) : Int) = nFeat t[U.top]
   omega
  have e1 : (acc ++ (stepsT t row k T).take (p + 1)).map encS = (acc ++ (stepsT t row k T).take p).map encS ++ [((k : Int), (((U.top : Nat) : Int), (t[U.top].2.1, canQ (mT t V - mT t U))))] := by
   rw [List.take_succ_eq_append_getElem hp, ← List.append_assoc, List.map_append (l₁ := acc ++ (stepsT t row k T).take p), g3, ← ef]
   rfl
  rw [saabas_Steps_s11, cnd d0, i1, cnd2 d2 d3, Int.toNat_natCast, x1, Option.bind_some, cnd2 d2 d3, Option.bind_some, cnd dU, Int.toNat_natCast, List.getElem?_eq_getElem hUt, Option.bind_some, cnd2 d1 d0, Int.toNat_natCast, x2, Option.bind_some, cnd2 dV dV', Int.toNat_natCast, oV, Option.bind_some, cnd2 d2 d3, Option.bind_some, cnd2 dU dU', Int.toNat_natCast, oU, Option.bind_some, hsub, Option.bind_some, blt (by simp; omega), cond_true, e1, iadd1 (by omega)]
  rfl) (by
  intro g
  rw [saabas_Steps_s11, cnd' (by omega), List.take_of_length_le (Nat.le_refl _)])
 have key : lp saabas_Steps_s11 K0 ((row, (acc ++ []).map encS, (k : Int), t, ints (wayT t row T), out, 1, a, b, c, ()), ((m.1, m.2, ()), ())) = _ := key
 rw [List.append_nil] at key
 exact key
theorem Askd.tree2 {m : MODEL} {row : List CELL} (h : Askd m row) {i : Nat} (hi : i < m.2.length) : (treeOf m.2[i]).size ≤ 65536 ∧ treeAt m i = m.2[i] ∧ Is m.2[i] m.1 (treeOf m.2[i]) ∧ (treeOf m.2[i]).top = 0 ∧ (treeOf m.2[i]).deep ≤ 16 ∧ Good (m.1, [m.2[i]]) := by
 obtain ⟨t1, t2, t3, t4, t5⟩ := h.tree hi
 rw [t5] at t2 t3 t4
 have := TR.size_le t4
 have hg := h.goodT hi
 rw [h.len] at hg t2
 exact ⟨by omega, t5, t2, t3, t4, hg⟩
theorem stepsM_len {m : MODEL} {row : List CELL} (h : Askd m row) : ∀ n, n ≤ m.2.length → (stepsM m row n).length ≤ n * 16 := by
 intro n
 induction n with
 | zero => intro _; simp [stepsM]
 | succ n ih =>
  intro hn
  have := ih (by omega)
  obtain ⟨_, t2, _, _, t5, _⟩ := h.tree2 (i := n) (by omega)
  have h1 := stepsT_len (treeAt m n) row n (treeOf (treeAt m n))
  have h2 := wayT_len (treeAt m n) row (treeOf (treeAt m n))
  rw [t2] at h1 h2
  simp only [stepsM, List.length_append, t2]
  omega
theorem stepsM_sz {m : MODEL} {row : List CELL} (h : Askd m row) : ∀ n, n ≤ m.2.length → ∀ s ∈ stepsM m row n, SzQ s.2.2.2 2100000 ∧ ((s.2.2.1 : Nat) : Int) < m.1 := by
 intro n
 induction n with
 | zero => intro _ s hs; simp [stepsM] at hs
 | succ n ih =>
  intro hn s hs
  obtain ⟨t1, t2, t3, _, _, _⟩ := h.tree2 (i := n) (by omega)
  simp only [stepsM, List.mem_append, t2] at hs
  rcases hs with hs | hs
  · exact ih (by omega) s hs
  · have := stepsT_sz (row := row) (k := n) (h.ms _ (List.getElem_mem (by omega))) t3 t1 h.good.1.1 s hs
    exact ⟨this.1, this.2.1⟩
theorem Steps12_ok {m : MODEL} {row : List CELL} (h : Askd m row) : saabas_Steps m row = some ((stepsM m row m.2.length).map encS, 0) := by
 obtain ⟨e, _, h1, _, h2⟩ := fits_ok (row := row) (by have := h.ml; omega) (fun t ht => by have := h.mt t ht; omega) h.ms
 have e0 : e = 0 := h2.2 ⟨h.good, h.len⟩
 subst e0
 have ml := h.ml
 have key := lp_up (step := saabas_Steps_s6) (fun i => ((row, (stepsM m row i).map encS, m.2, (m.2.length : Int), (i : Int), ()), ((m.1, m.2, ()), ()))) m.2.length (r := (((stepsM m row m.2.length).map encS, ()), ())) (by omega) (by
  intro g i hi
  have d0 : (i : Int) < ((m.2.length : Nat) : Int) := by omega
  have d1 : (0 : Int) ≤ (i : Int) := by omega
  obtain ⟨t1, t2, t3, t4, t5, t6⟩ := h.tree2 hi
  have tl := h.mt _ (List.getElem_mem hi)
  have ts := h.ms _ (List.getElem_mem hi)
  obtain ⟨out, ho, hN⟩ := Nodes_ok tl ts t6
  have hg' := h.goodT hi
  rcases route_Way_ok tl ts h.cs with ⟨hb, _⟩ | ⟨_, _, hW⟩
  · exact absurd hg' hb
  · have hlen := stepsM_len h i (by omega)
    have hin := steps_inner (k := i) (row := row) ts t3 t1 h.good.1.1 (by omega) ho m m.2 (m.2.length : Int) (i : Int) (acc := stepsM m row i) (by omega)
    rw [saabas_Steps_s6, cnd d0, cnd d1, Int.toNat_natCast, List.getElem?_eq_getElem hi, Option.bind_some, hW, Option.bind_some, hN, Option.bind_some, hin, Option.bind_some]
    dsimp only
    rw [iadd1 (by omega), stepsM, t2]
    rfl) (by
  intro g
  rw [saabas_Steps_s6, cnd' (by omega)])
 have key : lp saabas_Steps_s6 K0 ((row, [], m.2, (m.2.length : Int), 0, ()), ((m.1, m.2, ()), ())) = _ := key
 rw [saabas_Steps, h1, Option.bind_some, show (!decide ((0 : Int) = 0)) = false by decide, cond_false, key, Option.bind_some]
theorem Steps12_bad {m : MODEL} {row : List CELL} {e : Int} (h : route_Fits m row = some e) (he : e ≠ 0) : saabas_Steps m row = some ([], e) := by
 rw [saabas_Steps, h, Option.bind_some, decide_eq_false he]; rfl
theorem law12_awake_ok : dendronlaw12_awake = some true := by decide +kernel
def addF (f : Nat) (s : ST) : Rat := if s.2.2.1 = f then s.2.2.2 else 0
def fsum (f : Nat) (l : List ST) : Rat := lsum (l.map (addF f))
theorem fsum_take {f : Nat} {l : List ST} {i : Nat} (h : i < l.length) : fsum f (l.take (i + 1)) = fsum f (l.take i) + addF f l[i] := by
 have := lsum_take_succ (l := l.map (addF f)) (i := i) (by simpa using h)
 rw [← List.map_take, ← List.map_take] at this
 rw [fsum, this, fsum]; simp
def StepsSz (l : List ST) (g : Nat) : Prop := l.length ≤ 10000 ∧ ∀ s ∈ l, SzQ s.2.2.2 2100000 ∧ s.2.2.1 < g
theorem fsum_sz {l : List ST} {g f i : Nat} (h : StepsSz l g) : SzQ (fsum f (l.take i)) 30000000000 := by
 have := lsum_sz (l := (l.take i).map (addF f)) (k := 2100000) (fun x hx => by
  obtain ⟨s, hs, rfl⟩ := List.mem_map.1 hx
  have := (h.2 s (List.mem_of_mem_take hs)).1
  unfold addF
  split
  · exact this
  · exact SzQ.zero.mono (by decide))
 have hl : ((l.take i).map (addF f)).length ≤ 10000 := by have := h.1; simp; omega
 have h3 := Nat.mul_le_mul_right (2100000 + 1) hl
 exact this.mono (Nat.le_trans (Nat.add_le_add_left h3 1) (by decide))
def valsL (g : Nat) (l : List ST) : List RAT := (List.range g).map fun f => canQ (fsum f l)
theorem valsL_len (g : Nat) (l : List ST) : (valsL g l).length = g := by simp [valsL]
theorem valsL_get {g f : Nat} (l : List ST) (h : f < g) : (valsL g l)[f]? = some (canQ (fsum f l)) := by simp [valsL, h]
theorem valsL_step {g i : Nat} {l : List ST} (h : i < l.length) : (valsL g (l.take i)).set l[i].2.2.1 (canQ (fsum l[i].2.2.1 (l.take i) + l[i].2.2.2)) = valsL g (l.take (i + 1)) := by
 apply List.ext_getElem?
 intro f
 rw [List.getElem?_set]
 by_cases hf : f < g
 · rw [valsL_get _ hf, valsL_get _ hf, fsum_take h, valsL_len]
   by_cases e : l[i].2.2.1 = f
   · rw [if_pos e, if_pos (by omega), e, addF, if_pos e]
   · rw [if_neg e, addF, if_neg e, Rat.add_zero]
 · have h1 : (valsL g (l.take i))[f]? = none := List.getElem?_eq_none (by rw [valsL_len]; omega)
   have h2 : (valsL g (l.take (i + 1)))[f]? = none := List.getElem?_eq_none (by rw [valsL_len]; omega)
   rw [h1, h2]
   split
   · rename_i e; rw [if_neg (by rw [valsL_len]; omega)]
   · rfl
theorem zeros12_ok {n : Nat} (h : n ≤ 1000000) : saabas_zeros (n : Int) = some (List.replicate n (canQ 0)) := by
 have key := lp_up (step := saabas_zeros_s3) (fun i => ((List.replicate i (canQ 0), (n : Int), (i : Int), ()), ())) n (r := ((List.replicate n (canQ 0), ()), ())) (by omega) (by
  intro g i hi
  have d0 : (i : Int) < (n : Int) := by omega
  rw [saabas_zeros_s3, cnd d0, ratio_Zero_ok, Option.bind_some, blt (by simp; omega), cond_true, iadd1 (by omega), List.replicate_succ']
  rfl) (by
  intro g
  rw [saabas_zeros_s3, cnd' (by omega)])
 have key : lp saabas_zeros_s3 K0 (([], (n : Int), 0, ()), ()) = _ := key
 rw [saabas_zeros, key, Option.bind_some]
theorem valsL_nil (g : Nat) : valsL g [] = List.replicate g (canQ 0) := by
 rw [valsL]
 have : (fun f : Nat => canQ (fsum f [])) = fun _ => canQ 0 := rfl
 rw [this, List.map_const', List.length_range]
theorem values_lp {l : List ST} {g : Nat} (h : StepsSz l g) : lp saabas_Values_s6 K0 ((valsL g [], l.map encS, (l.length : Int), 0, ()), ()) = some ((valsL g l, ()), ()) := by
 have hl := h.1
 have key := lp_up (step := saabas_Values_s6) (fun i => ((valsL g (l.take i), l.map encS, (l.length : Int), (i : Int), ()), ())) l.length (r := ((valsL g l, ()), ())) (by omega) (by
  intro gg i hi
  have lm : (l.map encS).length = l.length := by simp
  have d0 : (i : Int) < (l.length : Int) := by omega
  have d1 : (0 : Int) ≤ (i : Int) := by omega
  have d2 : (i : Int) < ((l.map encS).length : Int) := by omega
  obtain ⟨hq, hf⟩ := h.2 _ (List.getElem_mem hi)
  have gL : (l.map encS)[i]? = some (encS l[i]) := by simp [hi]
  have ef : (encS l[i]).2.2.1 = ((l[i].2.2.1 : Nat) : Int) := rfl
  have lv := valsL_len g (l.take i)
  have d3 : (0 : Int) ≤ ((l[i].2.2.1 : Nat) : Int) := by omega
  have d4 : ((l[i].2.2.1 : Nat) : Int) < ((valsL g (l.take i)).length : Int) := by omega
  have ha := ratio_Add_ok ((fsum_sz (f := l[i].2.2.1) (i := i) h).sm (by decide)) (hq.sm (by decide))
  rw [rv_canQ, rv_canQ] at ha
  have ha : ratio_Add (canQ (fsum l[i].2.2.1 (l.take i))) (encS l[i]).2.2.2 = _ := ha
  rw [saabas_Values_s6, cnd d0, cnd2 d1 d2, Int.toNat_natCast, gL, Option.bind_some, ef, cnd2 d3 d4, Int.toNat_natCast, valsL_get _ hf, Option.bind_some, ha, Option.bind_some, cnd2 d3 d4, Option.bind_some, valsL_step hi, iadd1 (by omega)]
  rfl) (by
  intro gg
  rw [saabas_Values_s6, cnd' (by omega), List.take_of_length_le (Nat.le_refl _)])
 exact key
theorem stepsOk {m : MODEL} {row : List CELL} (h : Askd m row) : StepsSz (stepsM m row m.2.length) m.1.toNat := by
 have h1 := stepsM_len h m.2.length (Nat.le_refl _)
 have h2 := stepsM_sz h m.2.length (Nat.le_refl _)
 have := h.ml
 exact ⟨by omega, fun s hs => ⟨(h2 s hs).1, by have := (h2 s hs).2; omega⟩⟩
theorem Values12_ok {m : MODEL} {row : List CELL} (h : Askd m row) : saabas_Values m row = some (valsL m.1.toNat (stepsM m row m.2.length), 0) := by
 have f0 := h.good.1.1
 have f1 := h.good.1.2.1
 obtain ⟨g, hg⟩ : ∃ g : Nat, m.1 = (g : Int) := ⟨m.1.toNat, by omega⟩
 have hS := Steps12_ok h
 have hz := stepsOk h
 rw [show m.1.toNat = g by omega] at hz ⊢
 obtain ⟨L, eL⟩ : ∃ L, L = stepsM m row m.2.length := ⟨_, rfl⟩
 rw [← eL] at hS hz ⊢
 have hlp := values_lp hz
 rw [saabas_Values, hS, Option.bind_some, show (!decide ((0 : Int) = 0)) = false by decide, cond_false, hg, zeros12_ok (by omega), Option.bind_some, List.length_map, ← valsL_nil, hlp, Option.bind_some]
theorem Values12_bad {m : MODEL} {row : List CELL} {e : Int} (h : route_Fits m row = some e) (he : e ≠ 0) : saabas_Values m row = some ([], e) := by
 rw [saabas_Values, Steps12_bad h he, Option.bind_some]
 dsimp only
 rw [decide_eq_false he]; rfl
theorem lsum_zero {l : List Rat} (h : ∀ x ∈ l, x = 0) : lsum l = 0 := by
 induction l with
 | nil => rfl
 | cons x l ih => rw [lsum, h x List.mem_cons_self, ih fun y hy => h y (List.mem_cons_of_mem _ hy), Rat.add_zero]
theorem rsum_zeros {f : Nat → Rat} {n : Nat} (h : ∀ i, i < n → f i = 0) : rsum f n = 0 := by
 induction n with
 | zero => rfl
 | succ n ih => rw [rsum, ih fun i hi => h i (by omega), h n (by omega), Rat.add_zero]
theorem rsum_addF (f g : Nat → Rat) (n : Nat) : rsum (fun i => f i + g i) n = rsum f n + rsum g n := by
 induction n with
 | zero => simp [rsum, Rat.add_zero]
 | succ n ih => rw [rsum, rsum, rsum, ih]; grind
def askT (t : List NODE) (f : Nat) : Bool := t.any fun n => !n.1 && decide (n.2.1 = (f : Int))
def usedQ (m : MODEL) (f : Nat) : Bool := m.2.any fun t => askT t f
def usedL (m : MODEL) : List Bool := (List.range m.1.toNat).map (usedQ m)
theorem usedL_len (m : MODEL) : (usedL m).length = m.1.toNat := by simp [usedL]
theorem usedL_get {m : MODEL} {f : Nat} (h : f < m.1.toNat) : (usedL m)[f]? = some (usedQ m f) := by simp [usedL, h]
theorem Used_ok {m : MODEL} (hv : valid_Ok m = some true) (hg : Good m) : valid_Used m = some (usedL m) := by
 obtain ⟨f0, f1, f2, f3⟩ := hg.1
 have hc : (decide (0 ≤ m.1) && (decide (m.1 ≤ 64) && (decide (m.2.length ≤ 64) && m.2.all fun t => decide (t.length ≤ 255) && t.all fun n => n.1 || (decide (0 ≤ n.2.1) && decide (n.2.1 < m.1))))) = true := by
  simp only [Bool.and_eq_true, decide_eq_true_eq, List.all_eq_true, Bool.or_eq_true]
  refine ⟨f0, f1, f2, fun t ht => ?_⟩
  obtain ⟨i, hi, rfl⟩ := List.mem_iff_getElem.1 ht
  refine ⟨(f3 i hi).2.1, fun n hn => ?_⟩
  obtain ⟨j, hj, rfl⟩ := List.mem_iff_getElem.1 hn
  cases hl : nLeaf m.2[i][j] with
  | true => exact .inl hl
  | false =>
   have := hg.ranges hi j hj hl
   exact .inr ⟨this.1, this.2.1⟩
 rw [valid_Used, hv, Option.bind_some, Bool.not_true, cond_false, hc, cond_true]
 rfl
theorem unasked_split {t : List NODE} {g : Int} {i f : Nat} {l r : TR} (h : Is t g (.split i l r)) (ha : askT t f = false) : (nFeat (nodeAt t i)).toNat ≠ f := by
 obtain ⟨h1, h2, f0, f1, _⟩ := h
 intro e
 rw [nodeAt_get h1] at e
 have : askT t f = true := by
  rw [askT, List.any_eq_true]
  refine ⟨t[i], List.getElem_mem h1, ?_⟩
  have h2 : t[i].1 = false := h2
  have e2 : t[i].2.1 = (f : Int) := by show nFeat t[i] = _; omega
  rw [h2, decide_eq_true e2]; rfl
 rw [ha] at this
 cases this
theorem unused_tree {m : MODEL} {f : Nat} (h : usedQ m f = false) {t : List NODE} (ht : t ∈ m.2) : askT t f = false := by
 rw [usedQ, List.any_eq_false] at h
 simpa using h t ht
theorem rsum_at (q : Rat) (j n : Nat) : rsum (fun f => if j = f then q else 0) n = if j < n then q else 0 := by
 induction n with
 | zero => rw [if_neg (by omega)]; rfl
 | succ n ih =>
  rw [rsum, ih]
  by_cases h : j < n
  · rw [if_pos h, if_neg (by omega), if_pos (by omega), Rat.add_zero]
  · by_cases e : j = n
    · rw [if_neg h, if_pos e, if_pos (by omega), Rat.zero_add]
    · rw [if_neg h, if_neg e, if_neg (by omega), Rat.add_zero]
theorem stepsT_feat {t : List NODE} {g : Int} {row : List CELL} {k f : Nat} {T : TR} (h : Is t g T) (ha : askT t f = false) : ∀ s ∈ stepsT t row k T, s.2.2.1 ≠ f := by
 induction T with
 | leaf i => intro s hs; cases hs
 | split i l r ihl ihr =>
  have h0 := h
  obtain ⟨h1, h2, f0, f1, h3, h4, h5, h6⟩ := h
  intro s hs
  simp only [stepsT] at hs
  rcases List.mem_cons.1 hs with rfl | hs
  · exact unasked_split h0 ha
  · split at hs
    · exact ihl h5 s hs
    · exact ihr h6 s hs
theorem stepsT_sum {t : List NODE} {row : List CELL} {k : Nat} (T : TR) : lsum ((stepsT t row k T).map fun s => s.2.2.2) = predT t row T - mT t T := by
 induction T with
 | leaf i => simp only [stepsT, List.map_nil, lsum, mT, expT, predT, endT]; grind
 | split i l r ihl ihr =>
  simp only [stepsT, List.map_cons, lsum]
  have hp : predT t row (.split i l r) = if goL t row i then predT t row l else predT t row r := by
    unfold predT
    rw [endT]
    split <;> rfl
  rw [hp]
  split
  · rw [ihl]; grind
  · rw [ihr]; grind
theorem stepsM_sum (m : MODEL) (row : List CELL) : ∀ n, lsum ((stepsM m row n).map fun s => s.2.2.2) = rsum (fun i => predT (treeAt m i) row (treeOf (treeAt m i))) n - rsum (fun i => expT (treeAt m i) row 0 (treeOf (treeAt m i))) n := by
 intro n
 induction n with
 | zero => show (0 : Rat) = 0 - 0; rw [Rat.sub_self]
 | succ n ih =>
  rw [stepsM, List.map_append, lsum_append, ih, stepsT_sum, rsum, rsum, ← mT_say (treeAt m n) row]; grind
theorem fsum_all {l : List ST} {n : Nat} (h : ∀ s ∈ l, s.2.2.1 < n) : rsum (fun f => fsum f l) n = lsum (l.map fun s => s.2.2.2) := by
 induction l with
 | nil => exact rsum_zeros fun i _ => rfl
 | cons s l ih =>
  have e : rsum (fun f => fsum f (s :: l)) n = rsum (fun f => (if s.2.2.1 = f then s.2.2.2 else 0) + fsum f l) n := rfl
  rw [e, rsum_addF, rsum_at, if_pos (h s List.mem_cons_self), ih fun x hx => h x (List.mem_cons_of_mem _ hx)]; rfl
theorem vals_map {g : Nat → Rat} {n i : Nat} (h : i < n) : vals ((List.range n).map fun f => canQ (g f)) i = g i := by
 unfold vals
 simp [h, rv_canQ]
theorem SaabasAdds_true (m0 : MODEL) (row0 : List CELL) (hl : m0.2.length ≤ 9223372036854775807) (ht : ∀ t ∈ m0.2, t.length ≤ 9223372036854775807) (hr : row0.length ≤ 9223372036854775807) : dendronlaw12_SaabasAdds m0 row0 = some true := by
 obtain ⟨m, row, hs, ms, ml, mt, cs⟩ := Small_ok m0 row0 hl ht hr
 obtain ⟨e, h1, h2, h3, h4⟩ := fits_ok (row := row) (by omega) (fun t h => by have := mt t h; omega) ms
 obtain ⟨b, hv, hb⟩ := Ok_ok (m := m) (by omega) (fun t h => by have := mt t h; omega) ms (by decide)
 rw [dendronlaw12_SaabasAdds, hs, Option.bind_some]
 dsimp only
 by_cases he : e = 0
 · subst he
   have ha : Askd m row := ⟨(h4.1 rfl).1, (h4.1 rfl).2, ms, by omega, mt, cs⟩
   have hbt : b = true := hb.2 ha.good
   subst hbt
   have f0 := ha.good.1.1
   have f1 := ha.good.1.2.1
   obtain ⟨n, hn⟩ : ∃ n, n = m.1.toNat := ⟨_, rfl⟩
   have hz := stepsOk ha
   have hU := Used_ok hv ha.good
   have ul := usedL_len m
   have ug : ∀ i, i < n → (usedL m)[i]? = some (usedQ m i) := fun i hi => usedL_get (by omega)
   obtain ⟨L, eL⟩ : ∃ L, L = stepsM m row m.2.length := ⟨_, rfl⟩
   have hV := Values12_ok ha
   rw [← eL, ← hn] at hV
   rw [← eL, ← hn] at hz
   rw [← hn] at ul
   have lv := valsL_len n L
   have hL48 : L.length ≤ 48 := by have := stepsM_len ha m.2.length (Nat.le_refl _); rw [← eL] at this; omega
   have fz : ∀ f, SzQ (fsum f L) 110000000 := fun f => by
    have := lsum_sz (l := L.map (addF f)) (k := 2100000) (fun x hx => by
     obtain ⟨s, hs, rfl⟩ := List.mem_map.1 hx
     unfold addF
     split
     · exact (hz.2 s hs).1
     · exact SzQ.zero.mono (by decide))
    exact this.mono (by rw [List.length_map]; have := Nat.mul_le_mul_right 2100001 hL48; omega)
   have hun : ∀ f, usedQ m f = false → fsum f L = 0 := fun f hu => by
    have key : ∀ k, k ≤ m.2.length → ∀ s ∈ stepsM m row k, s.2.2.1 ≠ f := by
     intro k
     induction k with
     | zero => intro _ s hs; cases hs
     | succ k ih =>
       intro hk s hs
       rw [stepsM] at hs
       rcases List.mem_append.1 hs with hs | hs
       · exact ih (by omega) s hs
       · obtain ⟨t1, t2, t3, t4, t5⟩ := ha.tree (show k < m.2.length by omega)
         refine stepsT_feat (g := (row.length : Int)) (by rw [t5] at t2 ⊢; exact t2) (by rw [t5]; exact unused_tree hu (List.getElem_mem _)) s hs
    have hk := key m.2.length (Nat.le_refl _)
    rw [← eL] at hk
    unfold fsum
    have : ∀ x ∈ L.map (addF f), x = 0 := fun x hx => by
     obtain ⟨s, hs, rfl⟩ := List.mem_map.1 hx
     rw [addF, if_neg (hk s hs)]
    exact lsum_zero this
   have key := lp_up (step := dendronlaw12_SaabasAdds_s11) (fun i => ((valsL n L, usedL m, (i : Int), ()), (((canQ (predM m row)).1.1, (canQ (predM m row)).1.2, (canQ (predM m row)).2, ()), ((canQ (sayM m row 0)).1.1, (canQ (sayM m row 0)).1.2, (canQ (sayM m row 0)).2, ()), ()))) n
    (r := .inl ((valsL n L, ()), (((canQ (predM m row)).1.1, (canQ (predM m row)).1.2, (canQ (predM m row)).2, ()), ((canQ (sayM m row 0)).1.1, (canQ (sayM m row 0)).1.2, (canQ (sayM m row 0)).2, ()), ()))) (by omega) (by
    intro g i hi
    have d0 : (i : Int) < ((valsL n L).length : Int) := by omega
    rw [dendronlaw12_SaabasAdds_s11, cnd d0, cnd (by omega), Int.toNat_natCast, ug i hi, Option.bind_some, iadd1 (by omega)]
    cases hu : usedQ m i with
    | true => rw [Bool.not_true, cond_false]; rfl
    | false =>
     rw [Bool.not_false, cond_true, cnd2 (by omega) d0, valsL_get _ hi, Option.bind_some, hun i hu, ratio_Sign_ok (SzQ.zero.sm (by decide)), Option.bind_some, rv_canQ, show rcmp 0 0 = 0 by decide, show (!decide ((0 : Int) = 0)) = false by decide, cond_false]
     rfl) (by
    intro g
    rw [dendronlaw12_SaabasAdds_s11, cnd' (by omega)])
   have key : lp dendronlaw12_SaabasAdds_s11 K0 ((valsL n L, usedL m, 0, ()), (((canQ (predM m row)).1.1, (canQ (predM m row)).1.2, (canQ (predM m row)).2, ()), ((canQ (sayM m row 0)).1.1, (canQ (sayM m row 0)).1.2, (canQ (sayM m row 0)).2, ()), ())) = _ := key
   have hvl : ∀ i, i < (valsL n L).length → vals (valsL n L) i = fsum i L := fun i hi => vals_map (by omega)
   have hS := ratio_Sum_ok (l := valsL n L) (k := 110000000) (fun x hx => by
    obtain ⟨f, _, rfl⟩ := List.mem_map.1 hx
    exact (fz f).sm (by decide)) (fun i hi => by rw [hvl i hi]; exact fz i) (by
     rw [lv]
     have := Nat.mul_le_mul_right (110000000 + 1) (show n ≤ 64 by omega)
     omega) (by omega)
   rw [rsum_congr hvl, lv, fsum_all (fun s hs => (hz.2 s hs).2), eL, stepsM_sum] at hS
   have hS : ratio_Sum (valsL n (stepsM m row m.2.length)) = some (canQ (predM m row - sayM m row 0)) := hS
   rw [← eL] at hS
   have pz : SzQ (predM m row) 31 := (predM_sz (row := row) ha.good ms (n := m.2.length) (Nat.le_refl _)).mono (by omega)
   have sz : SzQ (sayM m row 0) 4000000 := (sayM_sz ha.good ms mt (Nat.le_refl _)).mono (by
    have := Nat.mul_le_mul_right 1048577 (show m.2.length ≤ 3 by omega); omega)
   have hD := ratio_Sub_ok (pz.sm (by decide)) (sz.sm (by decide))
   rw [rv_canQ, rv_canQ] at hD
   have dz := pz.sub sz
   have hE := ratio_Same_ok (dz.sm (by decide)) (dz.sm (by decide))
   rw [decide_eq_true rfl] at hE
   rw [hV, Option.bind_some, show (!decide ((0 : Int) = 0)) = false by decide, cond_false, Predict_ok ha, Option.bind_some, Base_ok ha.good ms (by omega) mt row, Option.bind_some, hU, Option.bind_some]
   dsimp only
   rw [show (!decide ((0 : Int) = 0)) = false by decide, cond_false, cond_false, ul, lv, decide_eq_true rfl, Bool.not_true, cond_false, key, Option.bind_some]
   dsimp only
   rw [hS, Option.bind_some]
   show (ratio_Sub (canQ _) (canQ _)).bind _ = _
   rw [hD, Option.bind_some, hE, Option.bind_some, law12_awake_ok]
   rfl
 · rw [Values12_bad h2 he, Option.bind_some, decide_eq_false he, Bool.not_false, cond_true, h3, Option.bind_some, cnd rfl, law12_awake_ok]
   rfl
abbrev zC : CELL := (false, ((false, []), []))
def oneRow (m : MODEL) (k : Nat) (z : CELL) : List CELL := (List.replicate m.1.toNat zC).set k z
theorem askd_one {m : MODEL} (hg : Good m) (ms : MSz m 4) (ml : m.2.length ≤ 6) (mt : ∀ t ∈ m.2, t.length ≤ 15) {k : Nat} {z : CELL} (hz : SzR z.2 9) : Askd m (oneRow m k z) := by
 have f0 := hg.1.1
 refine ⟨hg, by simp [oneRow]; omega, ms, ml, mt, ?_⟩
 intro c hc
 rcases List.mem_or_eq_of_mem_set hc with hc | rfl
 · have := (List.mem_replicate.1 hc).2
   subst this
   exact ⟨Nat.zero_le _, Nat.zero_le _⟩
 · exact hz
def featE (b : Bool) (m : MODEL) (i : Int) : Int := if b then (if i < 0 ∨ i ≥ m.1 then 8 else 0) else 1
theorem feature_ok {m : MODEL} {b : Bool} (hv : valid_Ok m = some b) (i : Int) : depend_feature m i = some (featE b m i) := by
 rw [depend_feature, hv, Option.bind_some]
 cases b with
 | false => rfl
 | true =>
  rw [Bool.not_true, cond_false, featE, if_pos rfl]
  by_cases h1 : i < 0
  · rw [cnd h1, if_pos (.inl h1)]
  · by_cases h2 : i ≥ m.1
    · rw [cnd' h1, cnd h2, if_pos (.inr h2)]
    · rw [cnd' h1, cnd' h2, if_neg (by omega)]
theorem why13_ok {m : MODEL} {b : Bool} (hv : valid_Ok m = some b) (i : Int) : dendronlaw13_why m i = some (featE b m i) := feature_ok hv i
theorem featE_zero {m : MODEL} {b : Bool} {i : Int} (h : featE b m i = 0) : b = true ∧ 0 ≤ i ∧ i < m.1 := by
 unfold featE at h
 cases b with
 | false => simp at h
 | true =>
  rw [if_pos rfl] at h
  by_cases h1 : i < 0 ∨ i ≥ m.1
  · rw [if_pos h1] at h; cases h
  · exact ⟨rfl, by omega, by omega⟩
theorem shl_one {k : Nat} (h : k < 64) : shlV .u64 1 (k : Int) = ((2 ^ k : Nat) : Int) := by
 have hp : 2 ^ k < 2 ^ 64 := Nat.pow_lt_pow_right (by decide) h
 have := shl_nat (x := 1) (s := k) (by omega) (by omega)
 rw [Nat.one_mul] at this
 exact this
theorem pow_lt64 {k : Nat} (h : k < 64) : 2 ^ k < 18446744073709551616 := by
 have hp : 2 ^ k < 2 ^ 64 := Nat.pow_lt_pow_right (by decide) h
 exact hp
theorem Cover_ok {m : MODEL} (hv : valid_Ok m = some true) (hg : Good m) (ms : MSz m 4) (ml : m.2.length ≤ 6) (mt : ∀ t ∈ m.2, t.length ≤ 15) {k : Nat} (hk : (k : Int) < m.1) {z : CELL} (hz : SzR z.2 9) :
  depend_Cover m (k : Int) z = some (canQ (sayM m (oneRow m k z) (2 ^ k)), 0) := by
 have f0 := hg.1.1
 have f1 := hg.1.2.1
 have hf := feature_ok hv (k : Int)
 rw [featE, if_pos rfl, if_neg (by omega)] at hf
 have ha := askd_one hg ms ml mt (k := k) hz
 have hs := shl_one (k := k) (by omega)
 have hvv := eValue_ok ha (set := 2 ^ k) (pow_lt64 (by omega))
 obtain ⟨n, hn⟩ : ∃ n, n = 2 ^ k := ⟨_, rfl⟩
 rw [← hn] at hs hvv ⊢
 have c1 : (decide (m.1 = m.1) && decide (0 ≤ m.1) && decide (((64 : Nat) : Int) * m.1 ≤ 281474976710656) && decide (m.1 ≤ 9223372036854775807)) = true := by
  rw [decide_eq_true rfl, decide_eq_true f0, decide_eq_true (by omega), decide_eq_true (by omega)]; rfl
 have l1 : (List.replicate m.1.toNat zC).length = m.1.toNat := List.length_replicate ..
 rw [depend_Cover, hf, Option.bind_some, show (!decide ((0 : Int) = 0)) = false by decide, cond_false, c1, cond_true, cnd2 (by omega) (by rw [l1]; omega), Int.toNat_natCast, List.getElem?_eq_getElem (by rw [l1]; omega), Option.bind_some, cnd' (by omega), hs]
 show (expect_Value m (oneRow m k z) (n : Int)).bind _ = _
 rw [hvv, Option.bind_some]
theorem expT_unasked {t : List NODE} {g : Int} {row row' : List CELL} {k : Nat} {T : TR} (h : Is t g T) (ha : askT t k = false) : expT t row (2 ^ k) T = expT t row' 0 T := by
 induction T with
 | leaf i => rfl
 | split i l r ihl ihr =>
  have h0 := h
  obtain ⟨h1, h2, f0, f1, h3, h4, h5, h6⟩ := h
  have hne := unasked_split h0 ha
  simp only [expT, ihl h5, ihr h6]
  rw [Nat.testBit_two_pow, decide_eq_false (fun e => hne e.symm), Nat.zero_testBit]
  rfl
theorem sayM_unasked {m : MODEL} {row row' : List CELL} {k : Nat} (h : Good m) (hu : usedQ m k = false) : sayM m row (2 ^ k) = sayM m row' 0 :=
 rsum_congr fun i hi => expT_unasked (h.isAt hi) (by rw [treeAt_get hi]; exact unused_tree hu (List.getElem_mem hi))
theorem unasked_inner {i : Int} {k : Nat} (hk : i = (k : Int)) (a : List (List NODE)) (c1 c2 : Int) {t : List NODE} (ht : t.length ≤ 1000) :
   lp depend_Unasked_s8 K0 ((i, a, c1, c2, t, (t.length : Int), 0, ()), ()) = some (if askT t k then .inr ((false, 0, ()), ()) else .inl ((i, a, c1, c2, ()), ())) := by
 subst hk
 have key := lp_all (step := depend_Unasked_s8) (fun j => (((k : Int), a, c1, c2, t, (t.length : Int), (j : Int), ()), ())) t.length (fun j => ∀ h : j < t.length, (!t[j].1 && decide (t[j].2.1 = (k : Int))) = false) (fun _ => .inr ((false, 0, ()), ())) (.inl (((k : Int), a, c1, c2, ()), ())) (by omega) (by
   intro j hj
   have st : ∀ g, depend_Unasked_s8 g (((k : Int), a, c1, c2, t, (t.length : Int), (j : Int), ()), ()) = bif (!t[j].1 && decide (t[j].2.1 = (k : Int))) then some (.inr ((false, 0, ()), ())) else g (((k : Int), a, c1, c2, t, (t.length : Int), ((j + 1 : Nat) : Int), ()), ()) := by
    intro g
    rw [depend_Unasked_s8, cnd (by omega), cnd (by omega), Int.toNat_natCast, List.getElem?_eq_getElem hj, Option.bind_some, iadd1 (by omega)]
    cases t[j].1 <;> cases decide (t[j].2.1 = (k : Int)) <;> rfl
   cases hb : (!t[j].1 && decide (t[j].2.1 = (k : Int))) with
   | false => exact .inl ⟨fun _ => hb, fun g => by rw [st g, hb]; rfl⟩
   | true => exact .inr ⟨fun hh => absurd (hh hj) (by rw [hb]; decide), fun g => by rw [st g, hb]; rfl⟩) (by
   intro g
   rw [depend_Unasked_s8, cnd' (by omega)])
 have key : (_ ∧ lp depend_Unasked_s8 K0 (((k : Int), a, c1, c2, t, (t.length : Int), 0, ()), ()) = _) ∨ ∃ j, _ ∧ _ ∧ lp depend_Unasked_s8 K0 (((k : Int), a, c1, c2, t, (t.length : Int), 0, ()), ()) = _ := key
 rcases key with ⟨hall, e⟩ | ⟨j, hj, hn, e⟩
 · have : askT t k = false := by
    rw [askT, List.any_eq_false]
    intro n hn
    obtain ⟨j, hj, rfl⟩ := List.mem_iff_getElem.1 hn
    rw [hall j hj hj]; decide
   rw [e, this]; rfl
 · have : askT t k = true := by
    cases hb : askT t k with
    | true => rfl
    | false =>
     rw [askT, List.any_eq_false] at hb
     exact absurd (fun h => by simpa using hb _ (List.getElem_mem h)) hn
   rw [e, this]; rfl
theorem Unasked_ok {m : MODEL} (hv : valid_Ok m = some true) (ml : m.2.length ≤ 6) (mt : ∀ t ∈ m.2, t.length ≤ 15) {k : Nat} (hk : (k : Int) < m.1) : depend_Unasked m (k : Int) = some (!usedQ m k, 0) := by
 have hf := feature_ok hv (k : Int)
 rw [featE, if_pos rfl, if_neg (by omega)] at hf
 have key := lp_all (step := depend_Unasked_s5) (fun j => (((k : Int), m.2, (m.2.length : Int), (j : Int), ()), ())) m.2.length (fun j => ∀ h : j < m.2.length, askT m.2[j] k = false) (fun _ => .inr ((false, 0, ()), ())) (.inl ((), ())) (by omega) (by
   intro j hj
   have hi := unasked_inner (i := (k : Int)) rfl m.2 (m.2.length : Int) (j : Int) (t := m.2[j]) (by have := mt _ (List.getElem_mem hj); omega)
   have st : ∀ g, depend_Unasked_s5 g (((k : Int), m.2, (m.2.length : Int), (j : Int), ()), ()) = bif askT m.2[j] k then some (.inr ((false, 0, ()), ())) else g (((k : Int), m.2, (m.2.length : Int), ((j + 1 : Nat) : Int), ()), ()) := by
    intro g
    rw [depend_Unasked_s5, cnd (by omega), cnd (by omega), Int.toNat_natCast, List.getElem?_eq_getElem hj, Option.bind_some, hi, Option.bind_some]
    cases askT m.2[j] k with
    | true => rfl
    | false =>
     rw [if_neg (by decide)]
     dsimp only
     rw [iadd1 (by omega)]; rfl
   cases hb : askT m.2[j] k with
   | false => exact .inl ⟨fun _ => hb, fun g => by rw [st g, hb]; rfl⟩
   | true => exact .inr ⟨fun hh => absurd (hh hj) (by rw [hb]; decide), fun g => by rw [st g, hb]; rfl⟩) (by
   intro g
   rw [depend_Unasked_s5, cnd' (by omega)])
 have key : (_ ∧ lp depend_Unasked_s5 K0 (((k : Int), m.2, (m.2.length : Int), 0, ()), ()) = _) ∨ ∃ j, _ ∧ _ ∧ lp depend_Unasked_s5 K0 (((k : Int), m.2, (m.2.length : Int), 0, ()), ()) = _ := key
 rw [depend_Unasked, hf, Option.bind_some, show (!decide ((0 : Int) = 0)) = false by decide, cond_false]
 rcases key with ⟨hall, e⟩ | ⟨j, hj, hn, e⟩
 · have : usedQ m k = false := by
    rw [usedQ, List.any_eq_false]
    intro t ht
    obtain ⟨j, hj, rfl⟩ := List.mem_iff_getElem.1 ht
    rw [hall j hj hj]; decide
   rw [e, this]; rfl
 · have : usedQ m k = true := by
    cases hb : usedQ m k with
    | true => rfl
    | false =>
     rw [usedQ, List.any_eq_false] at hb
     exact absurd (fun h => by simpa using hb _ (List.getElem_mem h)) hn
   rw [e, this]; rfl
theorem Unasked_bad {m : MODEL} {b : Bool} (hv : valid_Ok m = some b) {i : Int} (h : featE b m i ≠ 0) : depend_Unasked m i = some (false, featE b m i) := by
 rw [depend_Unasked, feature_ok hv, Option.bind_some, decide_eq_false h, Bool.not_false, cond_true]
theorem DependUnasked_true (m0 : MODEL) (i : Int) (z0 : CELL) (hl : m0.2.length ≤ 9223372036854775807) (ht : ∀ t ∈ m0.2, t.length ≤ 9223372036854775807) : dendronlaw13_DependUnasked m0 i z0 = some true := by
 have hf := Few07_ok m0 hl ht
 have ms := cutM_sz m0
 have mt := cutM_tlen m0
 have ml : (cutM m0).2.length ≤ 6 := by simp [cutM]; omega
 obtain ⟨m, em⟩ : ∃ m, m = cutM m0 := ⟨_, rfl⟩
 rw [← em] at hf ms mt ml
 have h9 := Few09_ok [z0] 1 (by simp) (by decide)
 have h9 : dendronlaw09_Few [z0] 1 = some [cutCell z0] := h9
 obtain ⟨b, hv, hb⟩ := Ok_ok (m := m) (by omega) (fun t h => by have := mt t h; omega) ms (by decide)
 have hW := why13_ok hv i
 rw [dendronlaw13_DependUnasked, hf, Option.bind_some, h9, Option.bind_some, cnd (by simp), List.getElem?_cons_zero, Option.bind_some]
 by_cases h0 : featE b m i = 0
 · obtain ⟨hbt, i0, i1⟩ := featE_zero h0
   subst hbt
   have hg := hb.1 rfl
   obtain ⟨k, rfl⟩ := Int.eq_ofNat_of_zero_le i0
   have hU := Used_ok hv hg
   have ul := usedL_len m
   have hk : k < m.1.toNat := by omega
   rw [Unasked_ok hv ml mt i1, Option.bind_some, hW, Option.bind_some, h0]
   dsimp only
   rw [show (!decide ((0 : Int) = 0)) = false by decide, cond_false, hU, Option.bind_some, cond_false, cnd' (by omega), cnd (by omega), Int.toNat_natCast, usedL_get hk, Option.bind_some]
   cases hu : usedQ m k with
   | true => rw [show ((!true) == true) = false by decide, cond_false, Bool.not_true, Bool.not_false, cond_true, law13_awake_ok]; rfl
   | false =>
    have hC := Cover_ok hv hg ms ml mt i1 (z := cutCell z0) ⟨Nat.le_trans (cutR_sz 3 _).1 (by decide), Nat.le_trans (cutR_sz 3 _).2 (by decide)⟩
    have hB := Base_ok hg ms ml mt (oneRow m k (cutCell z0))
    have sz : SzQ (sayM m (oneRow m k (cutCell z0)) 0) 7000000 := (sayM_sz hg ms mt (Nat.le_refl _)).mono (by
     have := Nat.mul_le_mul_right 1048577 ml; omega)
    have hE := ratio_Same_ok (sz.sm (by decide)) (sz.sm (by decide))
    rw [decide_eq_true rfl] at hE
    rw [sayM_unasked (row' := oneRow m k (cutCell z0)) hg hu] at hC
    rw [show ((!false) == false) = false by decide, cond_false, Bool.not_false, Bool.not_true, cond_false, hC, Option.bind_some, hB, Option.bind_some, cnd rfl, cnd rfl, hE, Option.bind_some, law13_awake_ok]
    rfl
 · rw [Unasked_bad hv h0, Option.bind_some, hW, Option.bind_some, decide_eq_false h0, Bool.not_false, cond_true]
   dsimp only
   rw [cond_true, Option.bind_some, cnd rfl, law13_awake_ok]
   rfl
end Go.Proofs.YtjjgbpeapgmhoaaDoor.X
