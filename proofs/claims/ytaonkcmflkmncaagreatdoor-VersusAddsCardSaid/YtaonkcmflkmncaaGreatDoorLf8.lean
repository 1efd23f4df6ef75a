/- Own work: part of the proof; the first line of each part says what it tells. -/
import Derived.Test.YtaonkcmflkmncaaGreatDoorLf7


namespace Go.Proofs.YtaonkcmflkmncaaGreatDoor.X
open Go
set_option linter.unusedVariables false
set_option linter.unusedSimpArgs false
def kids (t : List NODE) (i : Nat) : List Nat :=
 match t[i]? with
 | some n => if nLeaf n then [] else [(nL n).toNat, (nR n).toNat]
 | none => []
theorem kids_leaf {t : List NODE} {i : Nat} (h : i < t.length) (hl : nLeaf t[i] = true) : kids t i = [] := by
 have hl' : t[i].1 = true := hl
 simp [kids, h, hl']
theorem kids_split {t : List NODE} {i : Nat} (h : i < t.length) (hl : nLeaf t[i] = false) : kids t i = [(nL t[i]).toNat, (nR t[i]).toNat] := by
 have hl' : t[i].1 = false := hl
 simp [kids, h, hl']
def cnt (t : List NODE) (i j : Nat) : Nat := ((List.range i).flatMap (kids t)).count j
theorem cnt_zero (t : List NODE) (j : Nat) : cnt t 0 j = 0 := by simp [cnt]
theorem cnt_succ (t : List NODE) (i j : Nat) : cnt t (i + 1) j = cnt t i j + (kids t i).count j := by
 simp [cnt, List.range_succ, List.flatMap_append]
theorem cnt_le (t : List NODE) (i j : Nat) : cnt t i j ≤ 2 * i := by
 induction i with
 | zero => simp [cnt_zero]
 | succ i ih =>
  rw [cnt_succ]
  have h1 : (kids t i).count j ≤ (kids t i).length := List.count_le_length
  have h2 : (kids t i).length ≤ 2 := by
   unfold kids
   split
   · split <;> simp
   · simp
  omega
def Ranked (t : List NODE) : Prop := ∃ rk : Nat → Nat, ∀ i, i < t.length → rk i ≤ t.length ∧ ∀ c ∈ kids t i, rk c < rk i
def ShapeP (t : List NODE) : Prop := (∀ j, 0 < j → j < t.length → cnt t t.length j = 1) ∧ Ranked t
theorem nodup_len : ∀ {n : Nat} {V : List Nat}, V.Nodup → (∀ x ∈ V, x < n) → V.length ≤ n
 | 0, V, _, h => by
  cases V with
  | nil => simp
  | cons x V => have := h x List.mem_cons_self; omega
 | n + 1, V, hnd, h => by
  by_cases hm : n ∈ V
  · have h1 : (V.erase n).Nodup := hnd.sublist List.erase_sublist
    have h2 : ∀ x ∈ V.erase n, x < n := by
     intro x hx
     have := (List.Nodup.mem_erase_iff hnd).1 hx
     have := h x this.2
     omega
    have h3 := nodup_len h1 h2
    have h4 := List.length_erase_of_mem hm
    omega
  · have := nodup_len hnd (n := n) (fun x hx => by
     have := h x hx
     have : x ≠ n := fun e => hm (e ▸ hx)
     omega)
    omega
section
variable {t : List NODE} {f : Int}
theorem kids_lt (hr : RangesP t f) {i c : Nat} (hi : i < t.length) (hc : c ∈ kids t i) : 0 < c ∧ c < t.length := by
 cases hl : nLeaf t[i] with
 | true => rw [kids_leaf hi hl] at hc; cases hc
 | false =>
  obtain ⟨_, _, h1, h2, h3, h4⟩ := hr i hi hl
  rw [kids_split hi hl] at hc
  simp at hc
  rcases hc with rfl | rfl <;> omega
theorem cnt_split (t : List NODE) (j : Nat) {a n : Nat} (ha : a < n) : (kids t a).count j ≤ cnt t n j := by
 induction n with
 | zero => omega
 | succ n ih =>
  rw [cnt_succ]
  by_cases e : a = n
  · subst e; omega
  · have := ih (by omega); omega
theorem cnt_two (t : List NODE) (j : Nat) {a b n : Nat} (hab : a < b) (hb : b < n) : (kids t a).count j + (kids t b).count j ≤ cnt t n j := by
 induction n with
 | zero => omega
 | succ n ih =>
  rw [cnt_succ]
  by_cases e : b = n
  · subst e
    have := cnt_split t j hab
    omega
  · have := ih (by omega); omega
theorem parent_one (hc : ∀ j, 0 < j → j < t.length → cnt t t.length j = 1) (hr : RangesP t f) {a b j : Nat} (ha : a < t.length) (hb : b < t.length) (h1 : j ∈ kids t a) (h2 : j ∈ kids t b) : a = b := by
 obtain ⟨j0, jl⟩ := kids_lt hr ha h1
 have c1 := List.count_pos_iff.2 h1
 have c2 := List.count_pos_iff.2 h2
 have := hc j j0 jl
 rcases Nat.lt_trichotomy a b with h | h | h
 · have := cnt_two t j h hb; omega
 · exact h
 · have := cnt_two t j h ha; omega
theorem kids_nodup (hc : ∀ j, 0 < j → j < t.length → cnt t t.length j = 1) (hr : RangesP t f) {a : Nat} (ha : a < t.length) : (kids t a).Nodup := by
 rw [List.nodup_iff_count]
 intro j
 by_cases hj : j ∈ kids t a
 · obtain ⟨j0, jl⟩ := kids_lt hr ha hj
   have h1 := cnt_split t j ha
   have h2 := hc j j0 jl
   exact Nat.le_trans h1 (Nat.le_of_eq h2)
 · rw [List.count_eq_zero_of_not_mem hj]; omega
theorem has_parent (hc : ∀ j, 0 < j → j < t.length → cnt t t.length j = 1) {j : Nat} (h0 : 0 < j) (hj : j < t.length) : ∃ p, p < t.length ∧ j ∈ kids t p := by
 have h1 := hc j h0 hj
 have h2 : j ∈ (List.range t.length).flatMap (kids t) := List.count_pos_iff.1 (by rw [← cnt, h1]; omega)
 obtain ⟨p, hp, hm⟩ := List.mem_flatMap.1 h2
 exact ⟨p, by simpa using hp, hm⟩
end
structure Srch (t : List NODE) (V S : List Nat) : Prop where
 nd : (V ++ S).Nodup
 lt : ∀ x ∈ V ++ S, x < t.length
 par : ∀ c ∈ V ++ S, c ≠ 0 → ∃ p ∈ V, c ∈ kids t p
 kid : ∀ p ∈ V, ∀ c ∈ kids t p, c ∈ V ++ S
 root : 0 ∈ V ++ S
 ord : V.Pairwise fun a b => a ∉ kids t b
 self : ∀ x ∈ V, x ∉ kids t x
theorem Srch.init {t : List NODE} (h : 0 < t.length) : Srch t [] [0] where
 nd := by simp
 lt := by simpa using h
 par := by simp
 kid := by simp
 root := by simp
 ord := List.Pairwise.nil
 self := by simp
theorem Srch.step {t : List NODE} {f : Int} (hc : ∀ j, 0 < j → j < t.length → cnt t t.length j = 1) (hr : RangesP t f) {V S : List Nat} {x : Nat} (h : Srch t V (S ++ [x])) : Srch t (V ++ [x]) (S ++ kids t x) := by
 have hxlt : x < t.length := h.lt x (by simp)
 have hnd := h.nd
 rw [← List.append_assoc, List.nodup_append] at hnd
 obtain ⟨n1, n2, n3⟩ := hnd
 have hxVS : x ∉ V ++ S := fun hx => n3 x hx x (by simp) rfl
 have hnew : ∀ c ∈ kids t x, c ∉ V ++ (S ++ [x]) := by
   intro c hcx hmem
   obtain ⟨c0, cl⟩ := kids_lt hr hxlt hcx
   obtain ⟨p, hp, hcp⟩ := h.par c hmem (by omega)
   have := parent_one hc hr (h.lt p (List.mem_append_left _ hp)) hxlt hcp hcx
   subst this
   exact hxVS (List.mem_append_left _ hp)
 have hperm : ((V ++ [x]) ++ (S ++ kids t x)).Perm ((V ++ (S ++ [x])) ++ kids t x) := by
   have e1 : (V ++ [x]) ++ (S ++ kids t x) = V ++ ([x] ++ S) ++ kids t x := by simp
   have e2 : (V ++ (S ++ [x])) ++ kids t x = V ++ (S ++ [x]) ++ kids t x := rfl
   rw [e1, e2]
   exact List.Perm.append_right _ (List.Perm.append_left _ List.perm_append_comm)
 have hmem : ∀ y, y ∈ (V ++ [x]) ++ (S ++ kids t x) ↔ y ∈ V ++ (S ++ [x]) ∨ y ∈ kids t x := by
   intro y; rw [hperm.mem_iff, List.mem_append]
 refine ⟨?_, ?_, ?_, ?_, ?_, ?_, ?_⟩
 · rw [hperm.nodup_iff, List.nodup_append]
   exact ⟨h.nd, kids_nodup hc hr hxlt, fun a ha b hb e => hnew b hb (e ▸ ha)⟩
 · intro y hy
   rcases (hmem y).1 hy with hy | hy
   · exact h.lt y hy
   · exact (kids_lt hr hxlt hy).2
 · intro c hcm hc0
   rcases (hmem c).1 hcm with hy | hy
   · obtain ⟨p, hp, hcp⟩ := h.par c hy hc0
     exact ⟨p, List.mem_append_left _ hp, hcp⟩
   · exact ⟨x, by simp, hy⟩
 · intro p hp c hcp
   rw [hmem]
   rcases List.mem_append.1 hp with hp | hp
   · exact .inl (h.kid p hp c hcp)
   · simp at hp; subst hp; exact .inr hcp
 · rw [hmem]; exact .inl h.root
 · rw [List.pairwise_append]
   refine ⟨h.ord, by simp, fun a ha b hb => ?_⟩
   simp at hb; subst hb
   intro hak
   exact hnew a hak (List.mem_append_left _ ha)
 · intro y hy
   rcases List.mem_append.1 hy with hy | hy
   · exact h.self y hy
   · simp at hy; subst hy
     intro hk
     exact hnew y hk (by simp)
theorem Srch.ranked {t : List NODE} {V : List Nat} (h : Srch t V []) (hall : ∀ i, i < t.length → i ∈ V) : Ranked t := by
 have hnd : V.Nodup := by simpa using h.nd
 have hlen : V.length ≤ t.length := nodup_len hnd (fun x hx => h.lt x (by simpa using hx))
 refine ⟨fun i => V.length - V.idxOf i, fun i hi => ⟨by show V.length - V.idxOf i ≤ t.length; omega, fun c hc => ?_⟩⟩
 have hiV := hall i hi
 have hcV : c ∈ V := by simpa using h.kid i hiV c hc
 have h1 : V.idxOf i < V.length := List.idxOf_lt_length_iff.2 hiV
 have h2 : V.idxOf c < V.length := List.idxOf_lt_length_iff.2 hcV
 have g1 : V[V.idxOf i] = i := List.getElem_idxOf h1
 have g2 : V[V.idxOf c] = c := List.getElem_idxOf h2
 have hne : ¬ V.idxOf c ≤ V.idxOf i := by
  intro hle
  by_cases e : V.idxOf c = V.idxOf i
  · have : c = i := by rw [← g1, ← g2]; simp [e]
    subst this
    exact h.self c hiV hc
  · have := List.pairwise_iff_getElem.1 h.ord _ _ h2 h1 (by omega)
    rw [g1, g2] at this
    exact this hc
 show V.length - V.idxOf c < V.length - V.idxOf i
 omega
theorem Srch.all {t : List NODE} {V : List Nat} (h : Srch t V []) (hc : ∀ j, 0 < j → j < t.length → cnt t t.length j = 1) (hrk : Ranked t) : ∀ i, i < t.length → i ∈ V := by
 obtain ⟨rk, hrk⟩ := hrk
 have key : ∀ (d i : Nat), i < t.length → t.length - rk i ≤ d → i ∈ V := by
  intro d
  induction d with
  | zero =>
   intro i hi hd
   by_cases h0 : i = 0
   · subst h0; simpa using h.root
   · obtain ⟨p, hp, hm⟩ := has_parent hc (by omega) hi
     have h1 := (hrk p hp).1
     have h2 := (hrk p hp).2 i hm
     omega
  | succ d ih =>
   intro i hi hd
   by_cases h0 : i = 0
   · subst h0; simpa using h.root
   · obtain ⟨p, hp, hm⟩ := has_parent hc (by omega) hi
     have h1 := (hrk p hp).1
     have h2 := (hrk p hp).2 i hm
     have := ih p hp (by omega)
     simpa using h.kid p this i hm
 exact fun i hi => key _ i hi (Nat.le_refl _)
def cntL (t : List NODE) (i : Nat) : List Int := (List.range t.length).map fun j => ((cnt t i j : Nat) : Int)
@[simp] theorem cntL_len (t : List NODE) (i : Nat) : (cntL t i).length = t.length := by simp [cntL]
theorem cntL_get {t : List NODE} {i j : Nat} (h : j < t.length) : (cntL t i)[j]? = some ((cnt t i j : Nat) : Int) := by simp [cntL, h]
theorem cntL_step {t : List NODE} {i a b : Nat} (ha : a < t.length) (hb : b < t.length) (hk : kids t i = [a, b]) :
   ((cntL t i).set a (((cnt t i a : Nat) : Int) + 1))[b]? = some ((cnt t i b + (if a = b then 1 else 0) : Nat) : Int) ∧
   ((cntL t i).set a (((cnt t i a : Nat) : Int) + 1)).set b (((cnt t i b + (if a = b then 1 else 0) : Nat) : Int) + 1) = cntL t (i + 1) := by
 constructor
 · rw [List.getElem?_set]
   by_cases e : a = b
   · subst e; simp [ha]
   · rw [if_neg e, cntL_get hb]; simp [e]
 · apply List.ext_getElem?
   intro j
   by_cases hj : j < t.length
   · rw [cntL_get hj, cnt_succ, hk, List.getElem?_set, List.getElem?_set]
     by_cases e1 : b = j
     · subst e1
       by_cases e2 : a = b
       · subst e2; simp [ha]; omega
       · simp [hb, e2, List.count_cons]
     · by_cases e2 : a = j
       · subst e2; simp [ha, e1, List.count_cons]
       · rw [if_neg e1, if_neg e2, cntL_get hj]; simp [List.count_cons, e1, e2]
   · rw [List.getElem?_eq_none (by simp; omega), List.getElem?_eq_none (by simp; omega)]
theorem shape_count {t : List NODE} {f : Int} (hl : t.length < 4294967296) (hr : RangesP t f) :
  lp valid_shape_s3 K0 ((t, List.replicate t.length 0, t, ((t.length : Nat) : Int), 0, ()), ()) = some ((t, cntL t t.length, ()), ()) := by
 have e0 : cntL t 0 = List.replicate t.length 0 := by simp [cntL, cnt_zero, List.map_const']
 have := lp_up (step := valid_shape_s3) (fun i => ((t, cntL t i, t, ((t.length : Nat) : Int), (i : Int), ()), ())) t.length (r := ((t, cntL t t.length, ()), ())) (by omega) (by
  intro g i hi
  have d0 : (i : Int) < ((t.length : Nat) : Int) := by omega
  have d1 : (0 : Int) ≤ (i : Int) := by omega
  cases hleaf : nLeaf t[i] with
  | true =>
   have : cntL t (i + 1) = cntL t i := by
    unfold cntL
    congr 1
    funext j
    rw [cnt_succ, kids_leaf hi hleaf]; simp
   rw [valid_shape_s3, cnd d0, cnd d1, Int.toNat_natCast, List.getElem?_eq_getElem hi, Option.bind_some, show t[i].1 = true from hleaf, iadd1 (by omega), this]
   rfl
  | false =>
   obtain ⟨r1, r2, r3, r4, r5, r6⟩ := hr i hi hleaf
   have hk := kids_split hi hleaf
   have l1 : (nL t[i]).toNat < t.length := by omega
   have l2 : (nR t[i]).toNat < t.length := by omega
   have c1 : (0 : Int) ≤ nL t[i] := by omega
   have c2 : (0 : Int) ≤ nR t[i] := by omega
   have c3 : nL t[i] < ((cntL t i).length : Int) := by rw [cntL_len]; omega
   obtain ⟨s1, s2⟩ := cntL_step l1 l2 hk
   have b1 := cnt_le t i (nL t[i]).toNat
   have b2 := cnt_le t i (nR t[i]).toNat
   have e1 : iadd .i64 ((cnt t i (nL t[i]).toNat : Nat) : Int) 1 = ((cnt t i (nL t[i]).toNat : Nat) : Int) + 1 := iadd1 (by omega)
   have e2 : iadd .i64 ((cnt t i (nR t[i]).toNat + (if (nL t[i]).toNat = (nR t[i]).toNat then 1 else 0) : Nat) : Int) 1 = ((cnt t i (nR t[i]).toNat + (if (nL t[i]).toNat = (nR t[i]).toNat then 1 else 0) : Nat) : Int) + 1 := iadd1 (by split <;> omega)
   have c4 : nR t[i] < (((cntL t i).set (nL t[i]).toNat (((cnt t i (nL t[i]).toNat : Nat) : Int) + 1)).length : Int) := by rw [List.length_set, cntL_len]; omega
   rw [valid_shape_s3, cnd d0, cnd d1, Int.toNat_natCast, List.getElem?_eq_getElem hi, Option.bind_some, show t[i].1 = false from hleaf, Bool.not_false, cond_true, cnd2 c1 c3, cntL_get l1, Option.bind_some, cnd2 c1 c3, Option.bind_some, e1, cnd2 c2 c4, s1, Option.bind_some, cnd2 c2 c4, Option.bind_some, e2, s2, iadd1 (by omega)]
   rfl) (by
  intro g
  rw [valid_shape_s3, cnd' (by omega)])
 rw [← e0]
 exact this
theorem shape_search {t : List NODE} {f : Int} (hl : t.length < 4294967296) (h0 : 0 < t.length) (hr : RangesP t f) (hc : ∀ j, 0 < j → j < t.length → cnt t t.length j = 1) :
  ∃ V, Srch t V [] ∧ lp valid_shape_s17 K0 ((t, List.replicate t.length false, [0], ()), ()) = some ((usedOf t.length V, ()), ()) := by
 obtain ⟨r, ⟨V, hV, rfl⟩, hlp⟩ := lp_wf (step := valid_shape_s17) (fun s => ∃ V S : List Nat, Srch t V S ∧ s = ((t, usedOf t.length V, ints S, ()), ())) (fun s => t.length + 1 - (s.1.2.1.filter id).length)
  (fun r => ∃ V, Srch t V [] ∧ r = ((usedOf t.length V, ()), ())) (v := ((t, List.replicate t.length false, [0], ()), ()))
  ⟨[], [0], Srch.init h0, by simp [usedOf, ints, List.map_const']⟩ (by simp; omega) (by
   rintro s ⟨V, S, hS, rfl⟩
   rcases List.eq_nil_or_concat S with rfl | ⟨S', x, hSx⟩
   · exact .inl ⟨_, ⟨V, hS, rfl⟩, fun g => by rw [valid_shape_s17, cnd' (by simp [ints])]⟩
   · rw [List.concat_eq_append] at hSx
     subst hSx
     have hnd := hS.nd
     have hVl : (V ++ (S' ++ [x])).length ≤ t.length := nodup_len hnd hS.lt
     have hSl : S'.length + 1 ≤ t.length := by simp at hVl; omega
     have hxlt : x < t.length := hS.lt x (by simp)
     have hst := Srch.step hc hr hS
     have hxV : x ∉ V := by
       intro hx
       rw [List.nodup_append] at hnd
       exact hnd.2.2 x hx x (by simp) rfl
     have hcount : ∀ U : List Nat, U.Nodup → (∀ y ∈ U, y < t.length) → ((usedOf t.length U).filter id).length = U.length := by
       intro U hU hlt
       have e1 : ((usedOf t.length U).filter id).length = ((List.range t.length).filter fun j => decide (j ∈ U)).length := by
         unfold usedOf
         rw [List.filter_map, List.length_map]; rfl
       rw [e1]
       refine List.Perm.length_eq ?_
       rw [List.perm_iff_count]
       intro a
       have n1 : ((List.range t.length).filter fun j => decide (j ∈ U)).Nodup := List.Nodup.sublist List.filter_sublist List.nodup_range
       have m1 : a ∈ ((List.range t.length).filter fun j => decide (j ∈ U)) ↔ a ∈ U := by
         simp; exact hlt a
       by_cases ha : a ∈ U
       · rw [List.Nodup.count hU, if_pos ha, List.Nodup.count n1, if_pos (m1.2 ha)]
       · rw [List.count_eq_zero_of_not_mem ha, List.count_eq_zero_of_not_mem (fun h => ha (m1.1 h))]
     have hVnd : V.Nodup := (List.nodup_append.1 hnd).1
     have hm1 := hcount V hVnd (fun y hy => hS.lt y (List.mem_append_left _ hy))
     have hVx : (V ++ [x]).Nodup := (List.nodup_append.1 hst.nd).1
     have hm2 := hcount (V ++ [x]) hVx (fun y hy => hst.lt y (List.mem_append_left _ hy))
     refine .inr ⟨_, ⟨V ++ [x], S' ++ kids t x, hst, rfl⟩, ?_, fun g => ?_⟩
     · show t.length + 1 - ((usedOf t.length (V ++ [x])).filter id).length < t.length + 1 - ((usedOf t.length V).filter id).length
       rw [hm1, hm2]
       simp at hVl ⊢; omega
     · have hlen : (ints (S' ++ [x])).length = S'.length + 1 := by simp
       have e1 : isub .i64 ((S'.length + 1 : Nat) : Int) 1 = ((S'.length : Nat) : Int) := by rw [isub_i] <;> omega
       have c0 : ((S'.length + 1 : Nat) : Int) > 0 := by omega
       have c1 : (0 : Int) ≤ ((S'.length : Nat) : Int) := by omega
       have c2 : ((S'.length : Nat) : Int) < ((S'.length + 1 : Nat) : Int) := by omega
       have g1 : (ints (S' ++ [x]))[S'.length]? = some ((x : Nat) : Int) := by simp [ints]
       have c3 : (decide ((0 : Int) ≤ ((S'.length : Nat) : Int)) && decide (((S'.length : Nat) : Int) ≤ ((S'.length : Nat) : Int)) && decide (((S'.length : Nat) : Int) ≤ ((S'.length + 1 : Nat) : Int))) = true := by
         rw [decide_eq_true c1, decide_eq_true (Int.le_refl _), decide_eq_true (Int.le_of_lt c2)]; rfl
       have c4 : (0 : Int) ≤ ((x : Nat) : Int) := by omega
       have c5 : ((x : Nat) : Int) < ((usedOf t.length V).length : Int) := by simp; omega
       have e2 : (((S'.length : Nat) : Int) - 0).toNat = S'.length := by omega
       have e3 : (ints (S' ++ [x])).take S'.length = ints S' := by simp [ints]
       rw [valid_shape_s17, hlen, cnd c0, e1, cnd2 c1 c2, Int.toNat_natCast, g1, Option.bind_some, c3, cond_true, cnd2 c4 c5, Int.toNat_natCast, usedOf_get hxlt, Option.bind_some, cnd c4, List.getElem?_eq_getElem hxlt, Option.bind_some, usedOf_set hxlt, e2, e3]
       cases hleaf : nLeaf t[x] with
       | true =>
         rw [show t[x].1 = true from hleaf, kids_leaf hxlt hleaf, List.append_nil]
         rfl
       | false =>
         obtain ⟨r1, r2, r3, r4, r5, r6⟩ := hr x hxlt hleaf
         have q1 : (((nL t[x]).toNat : Nat) : Int) = nL t[x] := by omega
         have q2 : (((nR t[x]).toNat : Nat) : Int) = nR t[x] := by omega
         have e4 : ints (S' ++ kids t x) = ints S' ++ [nL t[x], nR t[x]] := by
          rw [kids_split hxlt hleaf]
          simp only [ints, List.map_append, List.map_cons, List.map_nil, q1, q2]
         have hb8 : ((ints S').length + 2) * 8 ≤ 140737488355328 := by rw [ints_len]; omega
         rw [show t[x].1 = false from hleaf, blt hb8, cond_true, Bool.not_false, cond_true, e4])
 exact ⟨V, hV, hlp⟩
theorem shape_ok {t : List NODE} {f : Int} (hl : t.length < 4294967296) (h0 : 0 < t.length) (hr : RangesP t f) : ∃ a e, valid_shape t = some (a, e) ∧ (e = 0 ↔ ShapeP t) := by
 have hcount := shape_count hl hr
 have gd : (decide ((t.length : Int) = (t.length : Int)) && decide (0 ≤ (t.length : Int)) && decide (((8 : Nat) : Int) * (t.length : Int) ≤ 281474976710656) && decide ((t.length : Int) ≤ 9223372036854775807)) = true := by
   have h1 : (0 : Int) ≤ (t.length : Int) := by omega
   have h2 : ((8 : Nat) : Int) * (t.length : Int) ≤ 281474976710656 := by omega
   have h3 : (t.length : Int) ≤ 9223372036854775807 := by omega
   rw [decide_eq_true h1, decide_eq_true h2, decide_eq_true h3, decide_eq_true rfl]; rfl
 have gd1 : (decide ((t.length : Int) = (t.length : Int)) && decide (0 ≤ (t.length : Int)) && decide (((1 : Nat) : Int) * (t.length : Int) ≤ 281474976710656) && decide ((t.length : Int) ≤ 9223372036854775807)) = true := by
   have h1 : (0 : Int) ≤ (t.length : Int) := by omega
   have h2 : ((1 : Nat) : Int) * (t.length : Int) ≤ 281474976710656 := by omega
   have h3 : (t.length : Int) ≤ 9223372036854775807 := by omega
   rw [decide_eq_true h1, decide_eq_true h2, decide_eq_true h3, decide_eq_true rfl]; rfl
 rw [valid_shape, gd, cond_true, Int.toNat_natCast, hcount, Option.bind_some, cntL_len]
 rcases lp_all (step := valid_shape_s10) (fun i => ((t, cntL t t.length, ((t.length : Nat) : Int), (i : Int), ()), ())) t.length (fun i => i = 0 ∨ cnt t t.length i = 1) (fun i => .inr (((i : Int), 11, ()), ())) (.inl ((t, ()), ())) (by omega) (by
     intro i hi
     have d0 : (i : Int) < ((t.length : Nat) : Int) := by omega
     have d1 : (0 : Int) ≤ (i : Int) := by omega
     have d2 : (i : Int) < ((cntL t t.length).length : Int) := by rw [cntL_len]; omega
     by_cases hi0 : i = 0
     · refine .inl ⟨.inl hi0, fun g => ?_⟩
       rw [valid_shape_s10, cnd d0, cnd2 d1 d2, Int.toNat_natCast, cntL_get hi, Option.bind_some, cnd' (by omega), iadd1 (by omega)]
       rfl
     · by_cases h1 : cnt t t.length i = 1
       · refine .inl ⟨.inr h1, fun g => ?_⟩
         rw [valid_shape_s10, cnd d0, cnd2 d1 d2, Int.toNat_natCast, cntL_get hi, Option.bind_some, cnd (by omega), decide_eq_true (by omega), iadd1 (by omega)]
         rfl
       · refine .inr ⟨fun h => by rcases h with h | h <;> contradiction, fun g => ?_⟩
         rw [valid_shape_s10, cnd d0, cnd2 d1 d2, Int.toNat_natCast, cntL_get hi, Option.bind_some, cnd (by omega), decide_eq_false (by omega)]
         rfl) (by
     intro g
     rw [valid_shape_s10, cnd' (by omega)]) with ⟨h, hlp⟩ | ⟨i, hi, h, hlp⟩
 · have hlp : lp valid_shape_s10 K0 ((t, cntL t t.length, ((t.length : Nat) : Int), 0, ()), ()) = some (.inl ((t, ()), ())) := hlp
   have hc : ∀ j, 0 < j → j < t.length → cnt t t.length j = 1 := fun j h1 h2 => by
     rcases h j h2 with h3 | h3
     · omega
     · exact h3
   obtain ⟨V, hV, hlp2⟩ := shape_search hl h0 hr hc
   rw [hlp, Option.bind_some]
   dsimp only
   rw [gd1, cond_true, Int.toNat_natCast, hlp2, Option.bind_some]
   dsimp only
   rw [usedOf_len]
   rcases lp_all (step := valid_shape_s25) (fun i => ((usedOf t.length V, ((t.length : Nat) : Int), (i : Int), ()), ())) t.length (fun i => i ∈ V) (fun i => .inr (((i : Int), 11, ()), ())) (.inl ((), ())) (by omega) (by
       intro i hi
       have d0 : (i : Int) < ((t.length : Nat) : Int) := by omega
       have d1 : (0 : Int) ≤ (i : Int) := by omega
       have d2 : (i : Int) < ((usedOf t.length V).length : Int) := by rw [usedOf_len]; omega
       by_cases hiV : i ∈ V
       · refine .inl ⟨hiV, fun g => ?_⟩
         rw [valid_shape_s25, cnd d0, cnd2 d1 d2, Int.toNat_natCast, usedOf_get hi, Option.bind_some, decide_eq_true hiV, iadd1 (by omega)]
         rfl
       · refine .inr ⟨hiV, fun g => ?_⟩
         rw [valid_shape_s25, cnd d0, cnd2 d1 d2, Int.toNat_natCast, usedOf_get hi, Option.bind_some, decide_eq_false hiV]
         rfl) (by
       intro g
       rw [valid_shape_s25, cnd' (by omega)]) with ⟨h2, hlp3⟩ | ⟨i, hi, h2, hlp3⟩
   · have hlp3 : lp valid_shape_s25 K0 ((usedOf t.length V, ((t.length : Nat) : Int), 0, ()), ()) = some (.inl ((), ())) := hlp3
     rw [hlp3]
     exact ⟨0, 0, rfl, fun _ => ⟨hc, hV.ranked h2⟩, fun _ => rfl⟩
   · have hlp3 : lp valid_shape_s25 K0 ((usedOf t.length V, ((t.length : Nat) : Int), 0, ()), ()) = some (.inr (((i : Int), 11, ()), ())) := hlp3
     rw [hlp3]
     exact ⟨(i : Int), 11, rfl, fun e => (by cases e), fun hp => absurd (hV.all hc hp.2 i hi) h2⟩
 · have hlp : lp valid_shape_s10 K0 ((t, cntL t t.length, ((t.length : Nat) : Int), 0, ()), ()) = some (.inr (((i : Int), 11, ()), ())) := hlp
   rw [hlp]
   refine ⟨(i : Int), 11, rfl, fun e => (by cases e), fun hp => ?_⟩
   exfalso; apply h
   by_cases hi0 : i = 0
   · exact .inl hi0
   · exact .inr (hp.1 i (by omega) hi)
theorem lp_allh' {V T : Type} {step : (V → Option T) → V → Option T} (f : Nat → V) (n : Nat) (ok : Nat → Prop) (Q : T → Prop) (fin : T)
  (hs : ∀ i, i < n → (∀ j, j < i → ok j) → (ok i ∧ ∀ g, step g (f i) = g (f (i + 1))) ∨ (¬ ok i ∧ ∃ r, Q r ∧ ∀ g, step g (f i) = some r)) (he : ∀ g, step g (f n) = some fin) :
  ∀ (d i m : Nat), i + d = n → d < m → (∀ j, j < i → ok j) → ((∀ i, i < n → ok i) ∧ lp step m (f i) = some fin) ∨ (¬ (∀ i, i < n → ok i) ∧ ∃ r, Q r ∧ lp step m (f i) = some r) := by
 intro d
 induction d with
 | zero =>
  intro i m hi hm hok
  obtain ⟨m, rfl⟩ : ∃ k, m = k + 1 := ⟨m - 1, by omega⟩
  have : i = n := by omega
  subst this
  exact .inl ⟨hok, he _⟩
 | succ d ih =>
  intro i m hi hm hok
  obtain ⟨m, rfl⟩ : ∃ k, m = k + 1 := ⟨m - 1, by omega⟩
  rcases hs i (by omega) hok with ⟨h1, h2⟩ | ⟨h1, r, h2, h3⟩
  · have := ih (i + 1) m (by omega) (by omega) (fun j hj => by
     by_cases e : j = i
     · subst e; exact h1
     · exact hok j (by omega))
    have e : lp step (m + 1) (f i) = lp step m (f (i + 1)) := h2 _
    rw [e]; exact this
  · exact .inr ⟨fun h => h1 (h i (by omega)), r, h2, h3 _⟩
theorem lp_allh {V T : Type} {step : (V → Option T) → V → Option T} (f : Nat → V) (n : Nat) (ok : Nat → Prop) (Q : T → Prop) (fin : T) (hn : n < 18446744073709551616)
  (hs : ∀ i, i < n → (∀ j, j < i → ok j) → (ok i ∧ ∀ g, step g (f i) = g (f (i + 1))) ∨ (¬ ok i ∧ ∃ r, Q r ∧ ∀ g, step g (f i) = some r)) (he : ∀ g, step g (f n) = some fin) :
  ((∀ i, i < n → ok i) ∧ lp step K0 (f 0) = some fin) ∨ (¬ (∀ i, i < n → ok i) ∧ ∃ r, Q r ∧ lp step K0 (f 0) = some r) :=
 lp_allh' f n ok Q fin hs he n 0 K0 (by omega) hn (fun j h => by omega)
def NodeFits (n : NODE) : Prop := 0 ≤ nFeat n ∧ nFeat n ≤ 64 ∧ 0 ≤ nL n ∧ nL n ≤ 255 ∧ 0 ≤ nR n ∧ nR n ≤ 255
def TreeFits (t : List NODE) : Prop := 1 ≤ t.length ∧ t.length ≤ 255 ∧ ∀ i (h : i < t.length), NodeFits t[i]
def FitsP (m : MODEL) : Prop := 0 ≤ m.1 ∧ m.1 ≤ 64 ∧ m.2.length ≤ 64 ∧ ∀ i (h : i < m.2.length), TreeFits m.2[i]
theorem fits_inner (a : List (List NODE)) (b c : Int) {t : List NODE} (hl : t.length < 4294967296) :
   ((∀ i (h : i < t.length), NodeFits t[i]) ∧ lp model_Fits_s9 K0 ((a, b, c, t, ((t.length : Nat) : Int), 0, ()), ()) = some (.inl ((a, b, c, ()), ()))) ∨
   (¬ (∀ i (h : i < t.length), NodeFits t[i]) ∧ lp model_Fits_s9 K0 ((a, b, c, t, ((t.length : Nat) : Int), 0, ()), ()) = some (.inr ((false, ()), ()))) := by
 rcases lp_all (step := model_Fits_s9) (fun i => ((a, b, c, t, ((t.length : Nat) : Int), (i : Int), ()), ())) t.length (fun i => ∀ h : i < t.length, NodeFits t[i]) (fun i => .inr ((false, ()), ())) (.inl ((a, b, c, ()), ())) (by omega) (by
    intro i hi
    have d0 : (i : Int) < ((t.length : Nat) : Int) := by omega
    have d1 : (0 : Int) ≤ (i : Int) := by omega
    have head : ∀ g, model_Fits_s9 g ((a, b, c, t, ((t.length : Nat) : Int), (i : Int), ()), ()) = bif (decide (nFeat t[i] < 0)) then (some (.inr ((false, ()), ()))) else (bif (decide (nFeat t[i] > 64)) then (some (.inr ((false, ()), ()))) else (bif (decide (nL t[i] < 0)) then (some (.inr ((false, ()), ()))) else (bif (decide (nL t[i] > 255)) then (some (.inr ((false, ()), ()))) else (bif (decide (nR t[i] < 0)) then (some (.inr ((false, ()), ()))) else (bif (decide (nR t[i] > 255)) then (some (.inr ((false, ()), ()))) else (g ((a, b, c, t, ((t.length : Nat) : Int), ((i + 1 : Nat) : Int), ()), ()))))))) := by
      intro g
      rw [model_Fits_s9, cnd d0, cnd d1, Int.toNat_natCast, List.getElem?_eq_getElem hi, Option.bind_some, iadd1 (by omega)]
      rfl
    by_cases h : NodeFits t[i]
    · refine .inl ⟨fun _ => h, fun g => ?_⟩
      obtain ⟨h1, h2, h3, h4, h5, h6⟩ := h
      rw [head, cnd' (by omega), cnd' (by omega), cnd' (by omega), cnd' (by omega), cnd' (by omega), cnd' (by omega)]
    · refine .inr ⟨fun h' => h (h' hi), fun g => ?_⟩
      rw [head]
      by_cases h1 : nFeat t[i] < 0
      · rw [cnd h1]
      by_cases h2 : nFeat t[i] > 64
      · rw [cnd' h1, cnd h2]
      by_cases h3 : nL t[i] < 0
      · rw [cnd' h1, cnd' h2, cnd h3]
      by_cases h4 : nL t[i] > 255
      · rw [cnd' h1, cnd' h2, cnd' h3, cnd h4]
      by_cases h5 : nR t[i] < 0
      · rw [cnd' h1, cnd' h2, cnd' h3, cnd' h4, cnd h5]
      by_cases h6 : nR t[i] > 255
      · rw [cnd' h1, cnd' h2, cnd' h3, cnd' h4, cnd' h5, cnd h6]
      exfalso; apply h; unfold NodeFits; omega) (by
    intro g
    rw [model_Fits_s9, cnd' (by omega)]) with ⟨h, hlp⟩ | ⟨i, hi, h, hlp⟩
 · exact .inl ⟨fun i hi => h i hi hi, hlp⟩
 · exact .inr ⟨fun hh => h (fun hi => hh i hi), hlp⟩
theorem Fits_ok {m : MODEL} (hl : m.2.length < 4294967296) (ht : ∀ t ∈ m.2, t.length < 4294967296) : ∃ b, model_Fits m = some b ∧ (b = true ↔ FitsP m) := by
 unfold model_Fits
 by_cases h1 : m.1 < 0
 · exact ⟨false, by rw [cnd h1], fun h => (by cases h), fun h => by have := h.1; omega⟩
 by_cases h2 : m.1 > 64
 · exact ⟨false, by rw [cnd' h1, cnd h2], fun h => (by cases h), fun h => by have := h.2.1; omega⟩
 by_cases h3 : ((m.2.length : Nat) : Int) > 64
 · exact ⟨false, by rw [cnd' h1, cnd' h2, cnd h3], fun h => (by cases h), fun h => by have := h.2.2.1; omega⟩
 rw [cnd' h1, cnd' h2, cnd' h3]
 rcases lp_all (step := model_Fits_s4) (fun i => ((m.2, ((m.2.length : Nat) : Int), (i : Int), ()), ())) m.2.length (fun i => ∀ h : i < m.2.length, TreeFits m.2[i]) (fun i => .inr ((false, ()), ())) (.inl ((), ())) (by omega) (by
    intro i hi
    have d0 : (i : Int) < ((m.2.length : Nat) : Int) := by omega
    have d1 : (0 : Int) ≤ (i : Int) := by omega
    have hti := ht _ (List.getElem_mem hi)
    by_cases g1 : ((m.2[i].length : Nat) : Int) < 1
    · refine .inr ⟨fun h => by have := (h hi).1; omega, fun g => ?_⟩
      rw [model_Fits_s4, cnd d0, cnd d1, Int.toNat_natCast, List.getElem?_eq_getElem hi, Option.bind_some, cnd g1]
    by_cases g2 : ((m.2[i].length : Nat) : Int) > 255
    · refine .inr ⟨fun h => by have := (h hi).2.1; omega, fun g => ?_⟩
      rw [model_Fits_s4, cnd d0, cnd d1, Int.toNat_natCast, List.getElem?_eq_getElem hi, Option.bind_some, cnd' g1, cnd g2]
    rcases fits_inner m.2 ((m.2.length : Nat) : Int) (i : Int) hti with ⟨h, hlp⟩ | ⟨h, hlp⟩
    · refine .inl ⟨fun _ => ⟨by omega, by omega, h⟩, fun g => ?_⟩
      rw [model_Fits_s4, cnd d0, cnd d1, Int.toNat_natCast, List.getElem?_eq_getElem hi, Option.bind_some, cnd' g1, cnd' g2, hlp, Option.bind_some]
      dsimp only
      rw [iadd1 (by omega)]
      rfl
    · refine .inr ⟨fun hh => h (hh hi).2.2, fun g => ?_⟩
      rw [model_Fits_s4, cnd d0, cnd d1, Int.toNat_natCast, List.getElem?_eq_getElem hi, Option.bind_some, cnd' g1, cnd' g2, hlp, Option.bind_some]) (by
    intro g
    rw [model_Fits_s4, cnd' (by omega)]) with ⟨h, hlp⟩ | ⟨i, hi, h, hlp⟩
 · have hlp : lp model_Fits_s4 K0 ((m.2, ((m.2.length : Nat) : Int), 0, ()), ()) = some (.inl ((), ())) := hlp
   exact ⟨true, by rw [hlp]; rfl, fun _ => ⟨by omega, by omega, by omega, fun i hi => h i hi hi⟩, fun _ => rfl⟩
 · have hlp : lp model_Fits_s4 K0 ((m.2, ((m.2.length : Nat) : Int), 0, ()), ()) = some (.inr ((false, ()), ())) := hlp
   exact ⟨false, by rw [hlp]; rfl, fun h' => (by cases h'), fun hp => absurd (fun hh => hp.2.2.2 i hh) h⟩
def RuleP (f : Int) : Nat → List NODE → Prop
 | 0, t => RangesP t f
 | 1, t => ShapeP t
 | 2, t => CoversP t
 | _, t => SumsP t
def Good (m : MODEL) : Prop := FitsP m ∧ ∀ r, r < 4 → ∀ i (h : i < m.2.length), RuleP m.1 r m.2[i]
theorem Good.ranges {m : MODEL} (h : Good m) {i : Nat} (hi : i < m.2.length) : RangesP m.2[i] m.1 := h.2 0 (by decide) i hi
theorem Good.shape {m : MODEL} (h : Good m) {i : Nat} (hi : i < m.2.length) : ShapeP m.2[i] := h.2 1 (by decide) i hi
theorem Good.covers {m : MODEL} (h : Good m) {i : Nat} (hi : i < m.2.length) : CoversP m.2[i] := h.2 2 (by decide) i hi
def MSz (m : MODEL) (k : Nat) : Prop := ∀ t ∈ m.2, TSz t k
theorem check_inner {m : MODEL} {k : Nat} (hf : FitsP m) (hs : MSz m k) (hk : k < 500000000000) {r : Nat} (hr : r < 4) (hlow : ∀ r', r' < r → ∀ i (h : i < m.2.length), RuleP m.1 r' m.2[i]) (z : Int × Int × Int × Int) :
   ((∀ i (h : i < m.2.length), RuleP m.1 r m.2[i]) ∧ lp valid_Check_s7 K0 (((r : Int), (r : Int), m.2, ((m.2.length : Nat) : Int), 0, ()), ((m.1, m.2, ()), (z.1, z.2.1, z.2.2.1, z.2.2.2, ()), ())) = some (.inl (((r : Int), ()), ((m.1, m.2, ()), (z.1, z.2.1, z.2.2.1, z.2.2.2, ()), ())))) ∨
   (¬ (∀ i (h : i < m.2.length), RuleP m.1 r m.2[i]) ∧ ∃ e a b c, e ≠ 0 ∧ lp valid_Check_s7 K0 (((r : Int), (r : Int), m.2, ((m.2.length : Nat) : Int), 0, ()), ((m.1, m.2, ()), (z.1, z.2.1, z.2.2.1, z.2.2.2, ()), ())) = some (.inr ((), ((e, a, b, c, ()), ())))) := by
 have hlen := hf.2.2.1
 have ans : ∀ i (h : i < m.2.length), ∃ a e, (e = 0 ↔ RuleP m.1 r m.2[i]) ∧ ∀ g, valid_Check_s7 g (((r : Int), (r : Int), m.2, ((m.2.length : Nat) : Int), (i : Int), ()), ((m.1, m.2, ()), (z.1, z.2.1, z.2.2.1, z.2.2.2, ()), ())) =
     bif (!decide (e = 0)) then some (.inr ((), ((e, 0, (i : Int), a, ()), ()))) else g (((r : Int), (r : Int), m.2, ((m.2.length : Nat) : Int), ((i + 1 : Nat) : Int), ()), ((m.1, m.2, ()), (z.1, z.2.1, z.2.2.1, z.2.2.2, ()), ())) := by
   intro i hi
   have d0 : (i : Int) < ((m.2.length : Nat) : Int) := by omega
   have d1 : (0 : Int) ≤ (i : Int) := by omega
   have htf := hf.2.2.2 i hi
   have htl : m.2[i].length < 4294967296 := by have := htf.2.1; omega
   have ht0 : 0 < m.2[i].length := htf.1
   have hts := hs _ (List.getElem_mem hi)
   match r, hr with
   | 0, _ =>
     obtain ⟨a, e, h1, h2⟩ := ranges_ok (f := m.1) htl
     refine ⟨a, e, h2, fun g => ?_⟩
     rw [valid_Check_s7, cnd d0, cnd d1, Int.toNat_natCast, List.getElem?_eq_getElem hi, Option.bind_some, cnd (by rfl), h1, Option.bind_some, iadd1 (by omega)]
     rfl
   | 1, _ =>
     obtain ⟨a, e, h1, h2⟩ := shape_ok htl ht0 (hlow 0 (by decide) i hi)
     refine ⟨a, e, h2, fun g => ?_⟩
     rw [valid_Check_s7, cnd d0, cnd d1, Int.toNat_natCast, List.getElem?_eq_getElem hi, Option.bind_some, cnd' (by decide), cnd (by rfl), h1, Option.bind_some, iadd1 (by omega)]
     rfl
   | 2, _ =>
     obtain ⟨a, e, h1, h2⟩ := covers_ok htl hts (by omega)
     refine ⟨a, e, h2, fun g => ?_⟩
     rw [valid_Check_s7, cnd d0, cnd d1, Int.toNat_natCast, List.getElem?_eq_getElem hi, Option.bind_some, cnd' (by decide), cnd' (by decide), cnd (by rfl), h1, Option.bind_some, iadd1 (by omega)]
     rfl
   | 3, _ =>
     obtain ⟨a, e, h1, h2⟩ := sums_ok htl hts hk (hlow 0 (by decide) i hi)
     refine ⟨a, e, h2, fun g => ?_⟩
     rw [valid_Check_s7, cnd d0, cnd d1, Int.toNat_natCast, List.getElem?_eq_getElem hi, Option.bind_some, cnd' (by decide), cnd' (by decide), cnd' (by decide), cnd (by rfl), h1, Option.bind_some, iadd1 (by omega)]
     rfl
 have ans2 : ∀ i, ∃ a e, ∀ h : i < m.2.length, (e = 0 ↔ RuleP m.1 r m.2[i]) ∧ ∀ g, valid_Check_s7 g (((r : Int), (r : Int), m.2, ((m.2.length : Nat) : Int), (i : Int), ()), ((m.1, m.2, ()), (z.1, z.2.1, z.2.2.1, z.2.2.2, ()), ())) =
     bif (!decide (e = 0)) then some (.inr ((), ((e, 0, (i : Int), a, ()), ()))) else g (((r : Int), (r : Int), m.2, ((m.2.length : Nat) : Int), ((i + 1 : Nat) : Int), ()), ((m.1, m.2, ()), (z.1, z.2.1, z.2.2.1, z.2.2.2, ()), ())) := by
   intro i
   by_cases h : i < m.2.length
   · obtain ⟨a, e, h1, h2⟩ := ans i h
     exact ⟨a, e, fun _ => ⟨h1, h2⟩⟩
   · exact ⟨0, 0, fun h' => absurd h' h⟩
 have A := fun i => (ans2 i).choose
 let E : Nat → Int := fun i => (ans2 i).choose_spec.choose
 have hE : ∀ i (h : i < m.2.length), (E i = 0 ↔ RuleP m.1 r m.2[i]) ∧ ∀ g, valid_Check_s7 g (((r : Int), (r : Int), m.2, ((m.2.length : Nat) : Int), (i : Int), ()), ((m.1, m.2, ()), (z.1, z.2.1, z.2.2.1, z.2.2.2, ()), ())) =
     bif (!decide (E i = 0)) then some (.inr ((), ((E i, 0, (i : Int), (ans2 i).choose, ()), ()))) else g (((r : Int), (r : Int), m.2, ((m.2.length : Nat) : Int), ((i + 1 : Nat) : Int), ()), ((m.1, m.2, ()), (z.1, z.2.1, z.2.2.1, z.2.2.2, ()), ())) := fun i h => (ans2 i).choose_spec.choose_spec h
 rcases lp_all (step := valid_Check_s7) (fun i => (((r : Int), (r : Int), m.2, ((m.2.length : Nat) : Int), (i : Int), ()), ((m.1, m.2, ()), (z.1, z.2.1, z.2.2.1, z.2.2.2, ()), ()))) m.2.length (fun i => E i = 0) (fun i => .inr ((), ((E i, 0, (i : Int), (ans2 i).choose, ()), ()))) (.inl (((r : Int), ()), ((m.1, m.2, ()), (z.1, z.2.1, z.2.2.1, z.2.2.2, ()), ()))) (by omega) (by
     intro i hi
     obtain ⟨h1, h2⟩ := hE i hi
     by_cases h0 : E i = 0
     · exact .inl ⟨h0, fun g => by rw [h2, decide_eq_true h0]; rfl⟩
     · exact .inr ⟨h0, fun g => by rw [h2, decide_eq_false h0]; rfl⟩) (by
     intro g
     rw [valid_Check_s7, cnd' (by omega)]) with ⟨h, hlp⟩ | ⟨i, hi, h, hlp⟩
 · exact .inl ⟨fun i hi => (hE i hi).1.1 (h i hi), hlp⟩
 · exact .inr ⟨fun hh => h ((hE i hi).1.2 (hh i hi)), E i, 0, (i : Int), _, h, hlp⟩
theorem Ok_ok {m : MODEL} {k : Nat} (hl : m.2.length < 4294967296) (ht : ∀ t ∈ m.2, t.length < 4294967296) (hs : MSz m k) (hk : k < 500000000000) : ∃ b, valid_Ok m = some b ∧ (b = true ↔ Good m) := by
 obtain ⟨b, hb, hbf⟩ := Fits_ok hl ht
 cases b with
 | false =>
  have hnf : ¬ FitsP m := fun h => by have := hbf.2 h; cases this
  refine ⟨false, ?_, fun h => (by cases h), fun h => absurd h.1 hnf⟩
  rw [valid_Ok, valid_Check, hb, Option.bind_some]
  rfl
 | true =>
  have hf := hbf.1 rfl
  rcases lp_allh (step := valid_Check_s4) (fun r => (((r : Int), ()), ((m.1, m.2, ()), (0, 0, 0, 0, ()), ()))) 4 (fun r => ∀ i (h : i < m.2.length), RuleP m.1 r m.2[i]) (fun r => ∃ e a b c, e ≠ 0 ∧ r = .inr ((), ((e, a, b, c, ()), ()))) (.inl ((), ((0, 0, 0, 0, ()), ()))) (by omega) (by
     intro r hr hlow
     have d0 : (r : Int) < 4 := by omega
     rcases check_inner hf hs hk hr (fun r' hr' => hlow r' hr') (0, 0, 0, 0) with ⟨h1, h2⟩ | ⟨h1, e, a, b, c, h2, h3⟩
     · refine .inl ⟨h1, fun g => ?_⟩
       rw [valid_Check_s4, cnd d0, h2, Option.bind_some]
       dsimp only
       rw [iadd1 (by omega)]
       rfl
     · refine .inr ⟨h1, _, ⟨e, a, b, c, h2, rfl⟩, fun g => ?_⟩
       rw [valid_Check_s4, cnd d0, h3, Option.bind_some]) (by
     intro g
     rw [valid_Check_s4, cnd' (by decide)]) with ⟨h, hlp⟩ | ⟨h, r, ⟨e, a, b, c, he, rfl⟩, hlp⟩
  · have hlp : lp valid_Check_s4 K0 (((0 : Int), ()), ((m.1, m.2, ()), (0, 0, 0, 0, ()), ())) = _ := hlp
    refine ⟨true, ?_, fun _ => ⟨hf, h⟩, fun _ => rfl⟩
    rw [valid_Ok, valid_Check, hb, Option.bind_some, Bool.not_true, cond_false, hlp]
    rfl
  · have hlp : lp valid_Check_s4 K0 (((0 : Int), ()), ((m.1, m.2, ()), (0, 0, 0, 0, ()), ())) = _ := hlp
    refine ⟨false, ?_, fun h' => (by cases h'), fun hg => absurd hg.2 h⟩
    rw [valid_Ok, valid_Check, hb, Option.bind_some, Bool.not_true, cond_false, hlp, Option.bind_some]
    dsimp only
    rw [Option.bind_some, decide_eq_false he]
    rfl
theorem number07_ok (a : RAT) : dendronlaw07_number a = some (cutR 4 a) := by
 obtain ⟨⟨s, x⟩, y⟩ := a
 unfold dendronlaw07_number cutR
 by_cases h1 : 4 < x.length
 · have c1 : ((x.length : Nat) : Int) > 4 := by omega
   have c2 : (4 : Int) ≤ ((x.length : Nat) : Int) := by omega
   by_cases h2 : 4 < y.length
   · have c3 : ((y.length : Nat) : Int) > 4 := by omega
     have c4 : (4 : Int) ≤ ((y.length : Nat) : Int) := by omega
     rw [cnd c1, cnd c2, cnd c3, cnd c4]
   · have c3 : ¬ ((y.length : Nat) : Int) > 4 := by omega
     rw [cnd c1, cnd c2, cnd' c3, List.take_of_length_le (l := y) (by omega)]
 · have c1 : ¬ ((x.length : Nat) : Int) > 4 := by omega
   by_cases h2 : 4 < y.length
   · have c3 : ((y.length : Nat) : Int) > 4 := by omega
     have c4 : (4 : Int) ≤ ((y.length : Nat) : Int) := by omega
     rw [cnd' c1, cnd c3, cnd c4, List.take_of_length_le (l := x) (by omega)]
   · have c3 : ¬ ((y.length : Nat) : Int) > 4 := by omega
     rw [cnd' c1, cnd' c3, List.take_of_length_le (l := x) (by omega), List.take_of_length_le (l := y) (by omega)]
def cutNode (n : NODE) : NODE := (n.1, n.2.1, cutR 4 n.2.2.1, n.2.2.2.1, n.2.2.2.2.1, n.2.2.2.2.2.1, cutR 4 n.2.2.2.2.2.2.1, cutR 4 n.2.2.2.2.2.2.2)
def cutTree (t : List NODE) : List NODE := (t.take 15).map cutNode
def cutM (m : MODEL) : MODEL := (m.1, (m.2.take 6).map cutTree)
theorem cutNode_sz (n : NODE) : NSz (cutNode n) 4 := ⟨cutR_sz 4 _, cutR_sz 4 _, cutR_sz 4 _⟩
theorem cutTree_sz (t : List NODE) : TSz (cutTree t) 4 := by
 intro n hn
 obtain ⟨x, _, rfl⟩ := List.mem_map.1 hn
 exact cutNode_sz x
theorem cutTree_len (t : List NODE) : (cutTree t).length ≤ 15 := by simp [cutTree]; omega
theorem cutM_sz (m : MODEL) : MSz (cutM m) 4 := by
 intro t ht
 obtain ⟨x, _, rfl⟩ := List.mem_map.1 ht
 exact cutTree_sz x
theorem cutM_tlen (m : MODEL) : ∀ t ∈ (cutM m).2, t.length ≤ 15 := by
 intro t ht
 obtain ⟨x, _, rfl⟩ := List.mem_map.1 ht
 exact cutTree_len x
theorem Few07_inner {m : MODEL} {i : Nat} (hi : i < m.2.length) (hl : m.2[i].length ≤ 9223372036854775807) (hi2 : i < 4611686018427387904) (z w : Int × List (List NODE)) :
  lp dendronlaw07_Few_s7 K0 (((i : Int), [], 0, ()), ((m.1, m.2, ()), (z.1, z.2, ()), (w.1, w.2, ()), ())) = some (((i : Int), cutTree m.2[i], ()), ((m.1, m.2, ()), (z.1, z.2, ()), (w.1, w.2, ()), ())) := by
 have hn : min m.2[i].length 15 ≤ m.2[i].length := Nat.min_le_left _ _
 exact lp_up (step := dendronlaw07_Few_s7) (fun k => (((i : Int), (m.2[i].take k).map cutNode, (k : Int), ()), ((m.1, m.2, ()), (z.1, z.2, ()), (w.1, w.2, ()), ()))) (min m.2[i].length 15) (by omega) (by
  intro g k hk
  have h1 : k < m.2[i].length := by omega
  have d0 : (0 : Int) ≤ (i : Int) := by omega
  have d1 : (k : Int) < ((m.2[i].length : Nat) : Int) := by omega
  have d2 : (k : Int) < 15 := by omega
  have d3 : (0 : Int) ≤ (k : Int) := by omega
  have d4 : (((m.2[i].take k).map cutNode).length + 1) * 208 ≤ 140737488355328 := by simp; omega
  rw [dendronlaw07_Few_s7, cnd d0, Int.toNat_natCast, List.getElem?_eq_getElem hi, Option.bind_some, cnd d1, cnd d2, cnd d0, Option.bind_some, cnd d3, Int.toNat_natCast, List.getElem?_eq_getElem h1, Option.bind_some, number07_ok, Option.bind_some, number07_ok, Option.bind_some, number07_ok, Option.bind_some, blt d4, cond_true, iadd1 (by omega), map_take_succ _ h1]
  rfl) (by
  intro g
  have d0 : (0 : Int) ≤ (i : Int) := by omega
  by_cases h : m.2[i].length ≤ 15
  · have c1 : ¬ ((min m.2[i].length 15 : Nat) : Int) < ((m.2[i].length : Nat) : Int) := by omega
    rw [dendronlaw07_Few_s7, cnd d0, Int.toNat_natCast, List.getElem?_eq_getElem hi, Option.bind_some, cnd' c1, Nat.min_eq_left h, List.take_of_length_le (Nat.le_refl _), cutTree, List.take_of_length_le h]
  · have c1 : ((min m.2[i].length 15 : Nat) : Int) < ((m.2[i].length : Nat) : Int) := by omega
    have c2 : ¬ ((min m.2[i].length 15 : Nat) : Int) < 15 := by omega
    rw [dendronlaw07_Few_s7, cnd d0, Int.toNat_natCast, List.getElem?_eq_getElem hi, Option.bind_some, cnd c1, cnd' c2, Nat.min_eq_right (by omega), cutTree])
theorem Few07_ok (m : MODEL) (hl : m.2.length ≤ 9223372036854775807) (ht : ∀ t ∈ m.2, t.length ≤ 9223372036854775807) : dendronlaw07_Few m = some (cutM m) := by
 have hn : min m.2.length 6 ≤ m.2.length := Nat.min_le_left _ _
 have key := lp_up (step := dendronlaw07_Few_s3) (fun i => (((i : Int), ()), ((m.1, m.2, ()), (0, [], ()), (m.1, (m.2.take i).map cutTree, ()), ()))) (min m.2.length 6) (r := ((), ((0, [], ()), (m.1, (m.2.take 6).map cutTree, ()), ()))) (by omega) (by
  intro g i hi
  have h1 : i < m.2.length := by omega
  have d0 : (i : Int) < ((m.2.length : Nat) : Int) := by omega
  have d1 : (i : Int) < 6 := by omega
  have hin := Few07_inner h1 (ht _ (List.getElem_mem h1)) (by omega) (0, []) (m.1, (m.2.take i).map cutTree)
  have d4 : (((m.2.take i).map cutTree).length + 1) * 24 ≤ 140737488355328 := by simp; omega
  rw [dendronlaw07_Few_s3, cnd d0, cnd d1, hin, Option.bind_some, blt d4, cond_true, iadd1 (by omega), map_take_succ _ h1]
  rfl) (by
  intro g
  by_cases h : m.2.length ≤ 6
  · have c1 : ¬ ((min m.2.length 6 : Nat) : Int) < ((m.2.length : Nat) : Int) := by omega
    rw [dendronlaw07_Few_s3, cnd' c1, Nat.min_eq_left h, List.take_of_length_le (Nat.le_refl _), List.take_of_length_le h]
  · have c1 : ((min m.2.length 6 : Nat) : Int) < ((m.2.length : Nat) : Int) := by omega
    have c2 : ¬ ((min m.2.length 6 : Nat) : Int) < 6 := by omega
    rw [dendronlaw07_Few_s3, cnd c1, cnd' c2, Nat.min_eq_right (by omega)])
 have key' : lp dendronlaw07_Few_s3 K0 ((0, ()), ((m.1, m.2, ()), (0, [], ()), (m.1, [], ()), ())) = _ := key
 rw [dendronlaw07_Few, key']
 rfl
inductive TR where
 | leaf (i : Nat)
 | split (i : Nat) (l r : TR)
def TR.top : TR → Nat
 | .leaf i => i
 | .split i _ _ => i
def TR.size : TR → Nat
 | .leaf _ => 1
 | .split _ l r => 1 + l.size + r.size
def TR.deep : TR → Nat
 | .leaf _ => 1
 | .split _ l r => 1 + max l.deep r.deep
def Is (t : List NODE) (f : Int) : TR → Prop
 | .leaf i => ∃ h : i < t.length, nLeaf t[i] = true
 | .split i l r => ∃ h : i < t.length, nLeaf t[i] = false ∧ 0 ≤ nFeat t[i] ∧ nFeat t[i] < f ∧ nL t[i] = (l.top : Int) ∧ nR t[i] = (r.top : Int) ∧ Is t f l ∧ Is t f r
theorem tree_at {t : List NODE} {f : Int} (hr : RangesP t f) (hrk : Ranked t) : ∀ i, i < t.length → ∃ T, Is t f T ∧ T.top = i ∧ T.deep ≤ t.length + 1 := by
 obtain ⟨rk, hrk⟩ := hrk
 have key : ∀ (d i : Nat), i < t.length → rk i ≤ d → ∃ T, Is t f T ∧ T.top = i ∧ T.deep ≤ rk i + 1 := by
  intro d
  induction d with
  | zero =>
   intro i hi hd
   cases hl : nLeaf t[i] with
   | true => exact ⟨.leaf i, ⟨hi, hl⟩, rfl, by simp [TR.deep]⟩
   | false =>
    have := (hrk i hi).2 (nL t[i]).toNat (by rw [kids_split hi hl]; simp)
    omega
  | succ d ih =>
   intro i hi hd
   cases hl : nLeaf t[i] with
   | true => exact ⟨.leaf i, ⟨hi, hl⟩, rfl, by simp [TR.deep]⟩
   | false =>
    obtain ⟨r1, r2, r3, r4, r5, r6⟩ := hr i hi hl
    have k1 := (hrk i hi).2 (nL t[i]).toNat (by rw [kids_split hi hl]; simp)
    have k2 := (hrk i hi).2 (nR t[i]).toNat (by rw [kids_split hi hl]; simp)
    obtain ⟨L, hL, hLt, hLd⟩ := ih (nL t[i]).toNat (by omega) (by omega)
    obtain ⟨R, hR, hRt, hRd⟩ := ih (nR t[i]).toNat (by omega) (by omega)
    refine ⟨.split i L R, ⟨hi, hl, r1, r2, by rw [hLt]; omega, by rw [hRt]; omega, hL, hR⟩, rfl, ?_⟩
    simp only [TR.deep]
    omega
 intro i hi
 obtain ⟨T, h1, h2, h3⟩ := key (rk i) i hi (Nat.le_refl _)
 have := (hrk i hi).1
 exact ⟨T, h1, h2, by omega⟩
theorem Good.tree {m : MODEL} (h : Good m) {i : Nat} (hi : i < m.2.length) : ∃ T, Is m.2[i] m.1 T ∧ T.top = 0 ∧ T.deep ≤ m.2[i].length + 1 :=
 tree_at (h.ranges hi) (h.shape hi).2 0 (h.1.2.2.2 i hi).1
abbrev zR : RAT := ((false, []), [])
abbrev zN : NODE := (false, 0, zR, 0, 0, false, zR, zR)
def nodeAt (t : List NODE) (i : Nat) : NODE := (t[i]?).getD zN
theorem nodeAt_get {t : List NODE} {i : Nat} (h : i < t.length) : nodeAt t i = t[i] := by simp [nodeAt, h]
def cellAt (row : List CELL) (i : Nat) : CELL := (row[i]?).getD (false, zR)
theorem cellAt_get {row : List CELL} {i : Nat} (h : i < row.length) : cellAt row i = row[i] := by simp [cellAt, h]
def goes (n : NODE) (c : CELL) : Bool := if c.1 then nMiss n else decide (rv c.2 < rv (nCut n))
def goL (t : List NODE) (row : List CELL) (i : Nat) : Bool := goes (nodeAt t i) (cellAt row (nFeat (nodeAt t i)).toNat)
def wayT (t : List NODE) (row : List CELL) : TR → List Nat
 | .leaf i => [i]
 | .split i l r => i :: if goL t row i then wayT t row l else wayT t row r
def endT (t : List NODE) (row : List CELL) : TR → Nat
 | .leaf i => i
 | .split i l r => if goL t row i then endT t row l else endT t row r
theorem endT_lt {t : List NODE} {f : Int} {row : List CELL} {T : TR} (h : Is t f T) : endT t row T < t.length := by
 induction T with
 | leaf i => exact h.1
 | split i l r ihl ihr =>
  obtain ⟨h1, _, _, _, _, _, h2, h3⟩ := h
  simp only [endT]
  split
  · exact ihl h2
  · exact ihr h3
theorem Is.top_lt {t : List NODE} {f : Int} {T : TR} (h : Is t f T) : T.top < t.length := by
 cases T with
 | leaf i => exact h.1
 | split i l r => exact h.1
theorem TR.size_lt (T : TR) : T.size < 2 ^ T.deep := by
 induction T with
 | leaf i => simp [TR.size, TR.deep]
 | split i l r ihl ihr =>
  simp only [TR.size, TR.deep]
  have h1 : 2 ^ l.deep ≤ 2 ^ max l.deep r.deep := Nat.pow_le_pow_right (by decide) (Nat.le_max_left _ _)
  have h2 : 2 ^ r.deep ≤ 2 ^ max l.deep r.deep := Nat.pow_le_pow_right (by decide) (Nat.le_max_right _ _)
  rw [Nat.add_comm 1 (max l.deep r.deep), Nat.pow_succ]
  omega
theorem TR.size_le {T : TR} (h : T.deep ≤ 16) : T.size < 65536 := by
 have h1 := T.size_lt
 have h2 : 2 ^ T.deep ≤ 2 ^ 16 := Nat.pow_le_pow_right (by decide) h
 omega
theorem TR.deep_pos (T : TR) : 0 < T.deep := by cases T <;> simp [TR.deep] <;> omega
def predT (t : List NODE) (row : List CELL) (T : TR) : Rat := rv (nVal (nodeAt t (endT t row T)))
theorem TSz.at {t : List NODE} {k : Nat} (h : TSz t k) {i : Nat} (hi : i < t.length) : NSz (nodeAt t i) k := by rw [nodeAt_get hi]; exact h _ (List.getElem_mem hi)
theorem predT_sz {t : List NODE} {f : Int} {row : List CELL} {T : TR} (hs : TSz t 4) (h : Is t f T) : SzQ (predT t row T) 4 := (hs.at (endT_lt h)).2.1.szQ (by decide)
theorem cov_sz {t : List NODE} (hs : TSz t 4) {i : Nat} (hi : i < t.length) : SzQ (cov t i) 4 := (hs.at hi).2.2.szQ (by decide)
def mkT (t : List NODE) : Nat → Nat → TR
 | 0, i => .leaf i
 | d + 1, i => if nLeaf (nodeAt t i) then .leaf i else .split i (mkT t d (nL (nodeAt t i)).toNat) (mkT t d (nR (nodeAt t i)).toNat)
theorem mkT_eq {t : List NODE} {f : Int} : ∀ (d : Nat) (T : TR), Is t f T → T.deep ≤ d → mkT t d T.top = T := by
 intro d
 induction d with
 | zero => intro T _ h; have := T.deep_pos; omega
 | succ d ih =>
  intro T h hd
  cases T with
  | leaf i =>
   obtain ⟨h1, h2⟩ := h
   simp only [TR.top, mkT, nodeAt_get h1, h2, if_true]
  | split i l r =>
   obtain ⟨h1, h2, _, _, h3, h4, h5, h6⟩ := h
   simp only [TR.deep] at hd
   show mkT t (d + 1) i = _
   rw [mkT, nodeAt_get h1, h2, h3, h4, Int.toNat_natCast, Int.toNat_natCast, ih l h5 (by omega), ih r h6 (by omega)]
   rfl
def treeOf (t : List NODE) : TR := mkT t (t.length + 1) 0
theorem Good.treeOf {m : MODEL} (h : Good m) {i : Nat} (hi : i < m.2.length) : Is m.2[i] m.1 (treeOf m.2[i]) ∧ (treeOf m.2[i]).top = 0 ∧ (treeOf m.2[i]).deep ≤ m.2[i].length + 1 := by
 obtain ⟨T, h1, h2, h3⟩ := h.tree hi
 have : X.treeOf m.2[i] = T := by rw [X.treeOf, ← h2]; exact mkT_eq _ T h1 h3
 rw [this]; exact ⟨h1, h2, h3⟩
def treeAt (m : MODEL) (i : Nat) : List NODE := (m.2[i]?).getD []
theorem treeAt_get {m : MODEL} {i : Nat} (h : i < m.2.length) : treeAt m i = m.2[i] := by simp [treeAt, h]
def predM (m : MODEL) (row : List CELL) : Rat := rsum (fun i => predT (treeAt m i) row (treeOf (treeAt m i))) m.2.length
theorem MSz.at {m : MODEL} {k : Nat} (h : MSz m k) {i : Nat} (hi : i < m.2.length) : TSz (treeAt m i) k := by rw [treeAt_get hi]; exact h _ (List.getElem_mem hi)
theorem Good.isAt {m : MODEL} (h : Good m) {i : Nat} (hi : i < m.2.length) : Is (treeAt m i) m.1 (X.treeOf (treeAt m i)) := by rw [treeAt_get hi]; exact (h.treeOf hi).1
theorem predT_at {m : MODEL} {row : List CELL} (h : Good m) (hs : MSz m 4) {i : Nat} (hi : i < m.2.length) : SzQ (predT (treeAt m i) row (treeOf (treeAt m i))) 4 := predT_sz (hs.at hi) (h.isAt hi)
theorem deep16 {m : MODEL} (h : Good m) (hl : ∀ t ∈ m.2, t.length ≤ 15) {i : Nat} (hi : i < m.2.length) : (treeOf (treeAt m i)).deep ≤ 16 := by
 rw [treeAt_get hi]
 have := (h.treeOf hi).2.2
 have := hl _ (List.getElem_mem hi)
 omega
theorem predM_sz {m : MODEL} {row : List CELL} (h : Good m) (hs : MSz m 4) {n : Nat} (hn : n ≤ m.2.length) : SzQ (rsum (fun i => predT (treeAt m i) row (treeOf (treeAt m i))) n) (1 + n * 5) :=
 rsum_sz fun i hi => predT_at h hs (by omega)
def CSz (row : List CELL) (k : Nat) : Prop := ∀ c ∈ row, SzR c.2 k
theorem goes_ok {n : NODE} {c : CELL} {k j : Nat} (hn : SzR (nCut n) k) (hk : k < 1099511627776) (hc : SzR c.2 j) (hj : j < 1099511627776) : route_goes n c = some (goes n c) := by
 unfold route_goes goes
 cases h : c.1 with
 | true => rfl
 | false =>
  rw [cond_false, ratio_Cmp_ok (hc.sm hj) (hn.sm hk), Option.bind_some, if_neg (by decide)]
  congr 1
  by_cases h : rv c.2 < rv (nCut n)
  · rw [decide_eq_true (rcmp_neg.2 h), decide_eq_true h]
  · rw [decide_eq_false (fun e => h (rcmp_neg.1 e)), decide_eq_false h]
theorem Left_ok {n : NODE} {c : CELL} {k j : Nat} (hn : SzR (nCut n) k) (hk : k < 1099511627776) (hc : SzR c.2 j) (hj : j < 1099511627776) : route_Left n c = some (!nLeaf n && goes n c) := by
 unfold route_Left
 rw [goes_ok hn hk hc hj]
 show _ = some (!n.1 && goes n c)
 cases h : n.1 with
 | true => rfl
 | false => rfl
theorem goL_ok {t : List NODE} {f : Int} {row : List CELL} {i : Nat} (hs : TSz t 4) (hc : CSz row 9) (hi : i < t.length) (h0 : 0 ≤ nFeat t[i]) (h1 : nFeat t[i] < (row.length : Int)) :
  ∃ c, row[(nFeat t[i]).toNat]? = some c ∧ SzR c.2 9 ∧ goes t[i] c = goL t row i := by
 have hlt : (nFeat t[i]).toNat < row.length := by omega
 refine ⟨row[(nFeat t[i]).toNat], List.getElem?_eq_getElem hlt, hc _ (List.getElem_mem hlt), ?_⟩
 rw [goL, nodeAt_get hi, cellAt_get hlt]
theorem next_ok {t : List NODE} {row : List CELL} {i : Nat} (hs : TSz t 4) (hc : CSz row 9) (hi : i < t.length) (h0 : 0 ≤ nFeat t[i]) (h1 : nFeat t[i] < (row.length : Int)) :
  route_next t[i] row = some (if goL t row i then nL t[i] else nR t[i]) := by
 obtain ⟨c, h2, h3, h4⟩ := goL_ok (f := 0) hs hc hi h0 h1
 have hz := hs _ (List.getElem_mem hi)
 rw [route_next, cnd h0, h2, Option.bind_some, goes_ok hz.1 (by decide) h3 (by decide), Option.bind_some, h4]
 cases goL t row i <;> rfl
theorem value_lp {t : List NODE} {row : List CELL} (hs : TSz t 4) (hc : CSz row 9) {z : Bool × List Int × List Int} : ∀ (T : TR) (m : Nat), Is t (row.length : Int) T → T.deep ≤ m →
  lp route_value_s2 m ((t, row, (T.top : Int), ()), ((z.1, z.2.1, z.2.2, ()), ())) = some ((t, (endT t row T : Int), ()), ((z.1, z.2.1, z.2.2, ()), ())) := by
 intro T
 induction T with
 | leaf i =>
  intro m h hm
  obtain ⟨h1, h2⟩ := h
  obtain ⟨m, rfl⟩ : ∃ k, m = k + 1 := ⟨m - 1, by simp only [TR.deep] at hm; omega⟩
  have d0 : (0 : Int) ≤ (i : Int) := by omega
  show route_value_s2 (lp route_value_s2 m) _ = _
  rw [show ((TR.leaf i).top : Int) = (i : Int) from rfl, route_value_s2, cnd d0, Int.toNat_natCast, List.getElem?_eq_getElem h1, Option.bind_some, show t[i].1 = true from h2]
  rfl
 | split i l r ihl ihr =>
  intro m h hm
  obtain ⟨h1, h2, f0, f1, h3, h4, h5, h6⟩ := h
  simp only [TR.deep] at hm
  obtain ⟨m, rfl⟩ : ∃ k, m = k + 1 := ⟨m - 1, by omega⟩
  have d0 : (0 : Int) ≤ (i : Int) := by omega
  show route_value_s2 (lp route_value_s2 m) _ = _
  rw [show ((TR.split i l r).top : Int) = (i : Int) from rfl, route_value_s2, cnd d0, Int.toNat_natCast, List.getElem?_eq_getElem h1, Option.bind_some, show t[i].1 = false from h2, Bool.not_false, cond_true, cnd d0, Option.bind_some, next_ok hs hc h1 f0 f1, Option.bind_some]
  simp only [endT]
  cases goL t row i with
  | true => rw [if_pos rfl, if_pos rfl, h3]; exact ihl m h5 (by omega)
  | false => rw [if_neg (by decide), if_neg (by decide), h4]; exact ihr m h6 (by omega)
theorem rvalue_ok {t : List NODE} {row : List CELL} {T : TR} (hs : TSz t 4) (hc : CSz row 9) (h : Is t (row.length : Int) T) (h0 : T.top = 0) (hd : T.deep ≤ 1000000) : route_value t row = some (canQ (predT t row T)) := by
 have key := value_lp hs hc (z := (false, [], [])) T K0 h (by unfold K0; omega)
 rw [h0] at key
 have key : lp route_value_s2 K0 ((t, row, 0, ()), ((false, [], [], ()), ())) = _ := key
 have hlt := endT_lt (row := row) h
 have hz := hs _ (List.getElem_mem hlt)
 rw [route_value, key, Option.bind_some]
 dsimp only
 rw [cnd (by omega), Int.toNat_natCast, List.getElem?_eq_getElem hlt, Option.bind_some, ratio_Clean_ok (hz.2.1.sm (by decide)), Option.bind_some, predT, nodeAt_get hlt]
theorem TreeV_ok {t : List NODE} {f : Int} (ht : t.length ≤ 15) (hs : TSz t 4) : ∃ b, valid_Tree t f = some b ∧ (b = true ↔ Good (f, [t])) := by
 obtain ⟨b, h1, h2⟩ := Ok_ok (m := (f, [t])) (k := 4) (by simp) (by intro u hu; simp at hu; subst hu; omega) (by intro u hu; simp at hu; subst hu; exact hs) (by decide)
 exact ⟨b, by rw [valid_Tree, h1]; rfl, h2⟩
theorem cutRow_sz (l : List CELL) : CSz (l.map cutCell) 9 := by
 intro c hc
 obtain ⟨x, _, rfl⟩ := List.mem_map.1 hc
 exact ⟨Nat.le_trans (cutR_sz 3 _).1 (by decide), Nat.le_trans (cutR_sz 3 _).2 (by decide)⟩
theorem fitsOk {m : MODEL} {row : List CELL} (hl : m.2.length < 4294967296) (ht : ∀ t ∈ m.2, t.length < 4294967296) (hs : MSz m 4) :
  ∃ e : Int, route_fits m row = some e ∧ route_Fits m row = some e ∧ (e = 0 ↔ Good m ∧ (row.length : Int) = m.1) := by
 obtain ⟨b, h1, h2⟩ := Ok_ok hl ht hs (by decide)
 have key : ∃ e : Int, route_fits m row = some e ∧ (e = 0 ↔ Good m ∧ (row.length : Int) = m.1) := by
  cases b with
  | false => exact ⟨1, by rw [route_fits, h1]; rfl, by constructor; · intro h; exact absurd h (by decide)
                                                       · intro h; have := h2.2 h.1; simp at this⟩
  | true =>
   by_cases h : (row.length : Int) = m.1
   · exact ⟨0, by rw [route_fits, h1, Option.bind_some, Bool.not_true, cond_false, decide_eq_true h]; rfl, by simp [h2.1 rfl, h]⟩
   · exact ⟨14, by rw [route_fits, h1, Option.bind_some, Bool.not_true, cond_false, decide_eq_false h]; rfl, by simp [h]⟩
 obtain ⟨e, h3, h4⟩ := key
 exact ⟨e, h3, by rw [route_Fits, h3]; rfl, h4⟩
structure Askd (m : MODEL) (row : List CELL) : Prop where
 good : Good m
 len : (row.length : Int) = m.1
 ms : MSz m 4
 ml : m.2.length ≤ 6
 mt : ∀ t ∈ m.2, t.length ≤ 15
 cs : CSz row 9
theorem Askd.tree {m : MODEL} {row : List CELL} (h : Askd m row) {i : Nat} (hi : i < m.2.length) : TSz m.2[i] 4 ∧ Is m.2[i] (row.length : Int) (treeOf (treeAt m i)) ∧ (treeOf (treeAt m i)).top = 0 ∧ (treeOf (treeAt m i)).deep ≤ 16 ∧ treeAt m i = m.2[i] := by
 have h1 := h.good.treeOf hi
 have h2 := deep16 h.good h.mt hi
 rw [treeAt_get hi] at h2 ⊢
 exact ⟨h.ms _ (List.getElem_mem hi), by rw [h.len]; exact h1.1, h1.2.1, h2, rfl⟩
theorem sum_step {f : Nat → Rat} {n k : Nat} {q : RAT} (hs : SzQ (rsum f n) k) (hk : k < 1099511627776) (hq : Sm q) (e : rv q = f n) : ratio_Add (((canQ (rsum f n)).1.1, (canQ (rsum f n)).1.2), (canQ (rsum f n)).2) q = some (canQ (rsum f (n + 1))) := by
 have h1 := ratio_Add_ok (hs.sm hk) hq
 rw [rv_canQ, e] at h1
 exact h1
theorem Predict_ok {m : MODEL} {row : List CELL} (h : Askd m row) : route_Predict m row = some (canQ (predM m row), 0) := by
 obtain ⟨e, h1, _, h2⟩ := fitsOk (row := row) (by have := h.ml; omega) (fun t ht => by have := h.mt t ht; omega) h.ms
 have e0 : e = 0 := h2.2 ⟨h.good, h.len⟩
 subst e0
 have ml := h.ml
 have key := lp_up (step := route_Predict_s6) (fun i => ((row, m.2, ((m.2.length : Nat) : Int), (i : Int), ()), ((false, [], [], ()), ((canQ (rsum (fun i => predT (treeAt m i) row (treeOf (treeAt m i))) i)).1.1, (canQ (rsum (fun i => predT (treeAt m i) row (treeOf (treeAt m i))) i)).1.2, (canQ (rsum (fun i => predT (treeAt m i) row (treeOf (treeAt m i))) i)).2, ()), ()))) m.2.length (by omega) (by
  intro g i hi
  have d0 : (i : Int) < ((m.2.length : Nat) : Int) := by omega
  have d1 : (0 : Int) ≤ (i : Int) := by omega
  obtain ⟨t1, t2, t3, t4, t5⟩ := h.tree hi
  have hv := rvalue_ok t1 h.cs t2 t3 (by omega)
  have hq : SzQ (predT m.2[i] row (treeOf (treeAt m i))) 4 := predT_sz t1 t2
  have ha := sum_step (f := fun i => predT (treeAt m i) row (treeOf (treeAt m i))) (predM_sz (row := row) h.good h.ms (n := i) (by omega)) (by omega) (hq.sm (by decide)) (by rw [rv_canQ]; show _ = predT (treeAt m i) row _; rw [t5])
  rw [route_Predict_s6, cnd d0, cnd d1, Int.toNat_natCast, List.getElem?_eq_getElem hi, Option.bind_some, hv, Option.bind_some, ha, Option.bind_some, iadd1 (by omega)]
  rfl) (by
  intro g
  rw [route_Predict_s6, cnd' (by omega)])
 rw [route_Predict, h1, Option.bind_some, show (!decide ((0 : Int) = 0)) = false by decide, cond_false, ratio_Zero_ok, Option.bind_some]
 have key' : lp route_Predict_s6 K0 ((row, m.2, ((m.2.length : Nat) : Int), 0, ()), ((false, [], [], ()), ((canQ 0).1.1, (canQ 0).1.2, (canQ 0).2, ()), ())) = _ := key
 rw [key']
 rfl
theorem over_ok {a b : RAT} (ha : Sm a) (hb : Sm b) (h : rv b ≠ 0) : expect_over a b = some (canQ (rv a / rv b)) := by
 rw [expect_over, ratio_Div_ok ha hb, if_neg h]; rfl
theorem Small_ok (m0 : MODEL) (row0 : List CELL) (hl : m0.2.length ≤ 9223372036854775807) (ht : ∀ t ∈ m0.2, t.length ≤ 9223372036854775807) (hr : row0.length ≤ 9223372036854775807) :
   ∃ m row, dendronlaw11_Small m0 row0 = some (m, row) ∧ MSz m 4 ∧ m.2.length ≤ 3 ∧ (∀ t ∈ m.2, t.length ≤ 15) ∧ CSz row 9 := by
 have hf := Few07_ok m0 hl ht
 have ms := cutM_sz m0
 have mt := cutM_tlen m0
 have h9 := Few09_ok row0 70 hr (by decide)
 have h9 : dendronlaw09_Few row0 70 = some ((row0.take 70).map cutCell) := h9
 have cs := cutRow_sz (row0.take 70)
 by_cases h3 : ((cutM m0).2.length : Int) > 3
 · refine ⟨((cutM m0).1, (cutM m0).2.take 3), (row0.take 70).map cutCell, ?_, fun t h => ms t (List.mem_of_mem_take h), by simp; omega, fun t h => mt t (List.mem_of_mem_take h), cs⟩
   rw [dendronlaw11_Small, hf, Option.bind_some, cnd h3, cnd (by omega), h9]; rfl
 · refine ⟨cutM m0, (row0.take 70).map cutCell, ?_, ms, by omega, mt, cs⟩
   rw [dendronlaw11_Small, hf, Option.bind_some, cnd' h3, h9]; rfl
def qcan (qs : List Rat) : List RAT := qs.map canQ
@[simp] theorem qcan_len (qs : List Rat) : (qcan qs).length = qs.length := by simp [qcan]
theorem over_set {α : Type} (l : List α) (x : α) {k : Nat} (hk : k ≤ l.length) :
  (over (l ++ [x]) (k + 1) (((l ++ [x]).drop k).take ((l ++ [x]).drop (k + 1)).length)).set k x = l.take k ++ x :: l.drop k := by
 have e1 : ((l ++ [x]).drop k).take ((l ++ [x]).drop (k + 1)).length = l.drop k := by
  rw [List.length_drop, List.length_append, List.length_singleton, List.drop_append_of_le_length hk, List.take_append_of_le_length (by rw [List.length_drop]; omega), List.take_of_length_le (by rw [List.length_drop]; omega)]
 rw [e1, over]
 have e2 : (l ++ [x]).drop (k + 1 + (l.drop k).length) = [] := by
  apply List.drop_of_length_le
  rw [List.length_append, List.length_drop, List.length_singleton]; omega
 rw [e2, List.append_nil]
 have e3 : (l ++ [x]).take (k + 1) = (l ++ [x]).take k ++ [(l ++ [x])[k]'(by simp; omega)] := List.take_succ_eq_append_getElem (by simp; omega)
 rw [e3, List.take_append_of_le_length hk, List.append_assoc, List.set_append, if_neg (by rw [List.length_take]; omega), List.length_take, Nat.min_eq_left hk, Nat.sub_self]
 rfl
def ferr : List Int → Int
 | [] => 0
 | e :: r => if e ≠ 0 then e else ferr r
theorem ferr_zero {l : List Int} : ferr l = 0 ↔ ∀ e ∈ l, e = 0 := by
 induction l with
 | nil => simp [ferr]
 | cons e r ih =>
  simp only [ferr]
  by_cases h : e = 0
  · subst h; simp [ih]
  · rw [if_pos h]; simp [h]
theorem ferr_at {l : List Int} {i : Nat} (hi : i < l.length) (h : ∀ j, j < i → (hj : j < l.length) → l[j] = 0) (h' : l[i] ≠ 0) : ferr l = l[i] := by
 induction l generalizing i with
 | nil => simp at hi
 | cons e r ih =>
  cases i with
  | zero => simp only [List.getElem_cons_zero] at h' ⊢; rw [ferr, if_pos h']
  | succ i =>
   have e0 : e = 0 := h 0 (by omega) (by simp)
   subst e0
   simp only [List.length_cons, Nat.add_lt_add_iff_right] at hi
   simp only [List.getElem_cons_succ] at h' ⊢
   rw [ferr, if_neg (by simp)]
   exact ih hi (fun j hj hj2 => h (j + 1) (by omega) (by simp; omega)) h'
def bsum : List Rat → Rat
 | [] => 0
 | x :: r => bsum r + x
theorem rsum_head (f : Nat → Rat) (n : Nat) : rsum f (n + 1) = f 0 + rsum (fun i => f (i + 1)) n := by
 induction n with
 | zero => simp [rsum]; grind
 | succ n ih => rw [rsum, ih, rsum]; grind
theorem bsum_vals (ps : List Rat) : bsum ps = rsum (vals (ps.map canQ)) ps.length := by
 induction ps with
 | nil => rfl
 | cons x r ih =>
  rw [bsum, ih, List.length_cons, rsum_head]
  have e0 : vals ((x :: r).map canQ) 0 = x := by
   rw [vals_get (by simp)]; simp [rv_canQ]
  rw [e0]
  have : (fun i => vals ((x :: r).map canQ) (i + 1)) = vals (r.map canQ) := by
   funext i
   unfold vals
   simp
  rw [this, Rat.add_comm]
def errB (b : Bool) (m : MODEL) (r : List CELL) : Int := if b then (if (r.length : Int) = m.1 then 0 else 14) else 1
theorem fits_b {m : MODEL} {b : Bool} (hv : valid_Ok m = some b) (r : List CELL) : route_fits m r = some (errB b m r) := by
 rw [route_fits, hv, Option.bind_some]
 cases b with
 | false => rfl
 | true =>
  rw [Bool.not_true, cond_false, errB, if_pos rfl]
  by_cases h : (r.length : Int) = m.1
  · rw [decide_eq_true h, if_pos h]; rfl
  · rw [decide_eq_false h, if_neg h]; rfl
theorem predB {m : MODEL} {b : Bool} (hv : valid_Ok m = some b) (hb : b = true ↔ Good m) (ms : MSz m 4) (ml : m.2.length ≤ 6) (mt : ∀ t ∈ m.2, t.length ≤ 15) {r : List CELL} (cs : CSz r 9) :
   (errB b m r = 0 ∧ route_Predict m r = some (canQ (predM m r), 0) ∧ Good m) ∨ (errB b m r ≠ 0 ∧ route_Predict m r = some (zR, errB b m r)) := by
 by_cases he : errB b m r = 0
 · have hbt : b = true := by
    cases b with
    | true => rfl
    | false => simp [errB] at he
   have hl : (r.length : Int) = m.1 := by
    rw [errB, if_pos hbt] at he
    by_cases h : (r.length : Int) = m.1
    · exact h
    · rw [if_neg h] at he; cases he
   have ha : Askd m r := ⟨hb.1 hbt, hl, ms, ml, mt, cs⟩
   exact .inl ⟨he, Predict_ok ha, ha.good⟩
 · refine .inr ⟨he, ?_⟩
   rw [route_Predict, fits_b hv, Option.bind_some, decide_eq_false he]; rfl
theorem route_Mean_ok {m : MODEL} {b : Bool} (hv : valid_Ok m = some b) (hb : b = true ↔ Good m) (ms : MSz m 4) (ml : m.2.length ≤ 6) (mt : ∀ t ∈ m.2, t.length ≤ 15) {R : List (List CELL)} (cs : ∀ r ∈ R, CSz r 9) (hR : R.length ≤ 8) :
   (R = [] ∧ route_Mean m R = some (zR, if b then 15 else 1)) ∨
   (R ≠ [] ∧ ferr (R.map (errB b m)) ≠ 0 ∧ route_Mean m R = some (zR, ferr (R.map (errB b m)))) ∨
   (R ≠ [] ∧ (∀ r ∈ R, errB b m r = 0) ∧ Good m ∧ route_Mean m R = some (canQ (bsum (R.map (predM m)) / ((R.length : Int) : Rat)), 0)) := by
 rcases lp_allh (step := route_Mean_s3) (fun i => ((R, (R.take i).map (fun r => canQ (predM m r)), R, (R.length : Int), (i : Int), ()), ((m.1, m.2, ()), (false, [], [], ()), ()))) R.length (fun i => (hi : i < R.length) → errB b m R[i] = 0)
     (fun r => r = .inr ((ferr (R.map (errB b m)), ()), ((false, [], [], ()), ()))) (.inl ((R, R.map (fun r => canQ (predM m r)), ()), ((m.1, m.2, ()), (false, [], [], ()), ()))) (by omega) (by
     intro i hi hlow
     have d0 : (i : Int) < ((R.length : Nat) : Int) := by omega
     have d1 : (0 : Int) ≤ (i : Int) := by omega
     rcases predB hv hb ms ml mt (cs _ (List.getElem_mem hi)) with ⟨h1, h2, _⟩ | ⟨h1, h2⟩
     · refine .inl ⟨fun _ => h1, fun g => ?_⟩
       have h2 : route_Predict (m.1, m.2) R[i] = _ := h2
       rw [route_Mean_s3, cnd d0, cnd d1, Int.toNat_natCast, List.getElem?_eq_getElem hi, Option.bind_some, h2, Option.bind_some]
       dsimp only
       rw [show (!decide ((0 : Int) = 0)) = false by decide, cond_false, blt (by simp; omega), cond_true, iadd1 (by omega), map_take_succ (fun r => canQ (predM m r)) hi]
       rfl
     · refine .inr ⟨fun h => h1 (h hi), _, rfl, fun g => ?_⟩
       have h2 : route_Predict (m.1, m.2) R[i] = _ := h2
       have hfe : ferr (R.map (errB b m)) = errB b m R[i] := by
         have := ferr_at (l := R.map (errB b m)) (i := i) (by simpa using hi) (fun j hj hj2 => by simpa using hlow j hj (by omega)) (by simpa using h1)
         simpa using this
       rw [route_Mean_s3, cnd d0, cnd d1, Int.toNat_natCast, List.getElem?_eq_getElem hi, Option.bind_some, h2, Option.bind_some, hfe]
       dsimp only
       rw [decide_eq_false h1, Bool.not_false, cond_true]) (by
     intro g
     rw [route_Mean_s3, cnd' (by omega), List.take_length]) with ⟨h, hlp⟩ | ⟨h, r, rfl, hlp⟩
 · have hlp : lp route_Mean_s3 K0 ((R, [], R, (R.length : Int), 0, ()), ((m.1, m.2, ()), (false, [], [], ()), ())) = _ := hlp
   by_cases hn : R = []
   · subst hn
     refine .inl ⟨rfl, ?_⟩
     rw [route_Mean, hlp, Option.bind_some]
     dsimp only
     rw [cnd (by rfl)]
     have hv' : valid_Ok (m.1, m.2) = some b := hv
     rw [hv', Option.bind_some]
     cases b <;> rfl
   · have hp : 0 < R.length := List.length_pos_iff.2 hn
     have hall : ∀ r ∈ R, errB b m r = 0 := fun r hr => by
       obtain ⟨i, hi, rfl⟩ := List.getElem_of_mem hr
       exact h i hi hi
     have hg : Good m := by
       rcases predB hv hb ms ml mt (cs _ (List.getElem_mem hp)) with ⟨_, _, hg⟩ | ⟨h1, _⟩
       · exact hg
       · exact absurd (h 0 hp hp) h1
     refine .inr (.inr ⟨hn, hall, hg, ?_⟩)
     have hz : ∀ r, SzQ (predM m r) 40 := fun r => (predM_sz (row := r) hg ms (n := m.2.length) (Nat.le_refl _)).mono (by omega)
     have hmean := ratio_Mean_ok (l := R.map (fun r => canQ (predM m r))) (k := 40) (by
       intro x hx
       obtain ⟨r, _, rfl⟩ := List.mem_map.1 hx
       exact (hz r).sm (by decide)) (by
       intro i hi
       rw [vals_get hi]
       simp only [List.getElem_map, rv_canQ]
       exact hz _) (by simp; omega) (by simp; omega) (by simpa using hn)
     have eb : rsum (vals (R.map (fun r => canQ (predM m r)))) (R.map (fun r => canQ (predM m r))).length = bsum (R.map (predM m)) := by
       rw [bsum_vals, List.map_map]; simp; rfl
     rw [eb, List.length_map] at hmean
     rw [route_Mean, hlp, Option.bind_some]
     dsimp only
     rw [cnd' (by omega), hmean]
     rfl
 · have hlp : lp route_Mean_s3 K0 ((R, [], R, (R.length : Int), 0, ()), ((m.1, m.2, ()), (false, [], [], ()), ())) = _ := hlp
   refine .inr (.inl ⟨?_, ?_, ?_⟩)
   · rintro rfl; exact h (fun i hi => by simp at hi)
   · intro e
     exact h (fun i hi _ => ferr_zero.1 e _ (List.mem_map.2 ⟨_, List.getElem_mem hi, rfl⟩))
   · rw [route_Mean, hlp]; rfl
def leavesT : TR → List Nat
 | .leaf i => [i]
 | .split _ l r => leavesT l ++ leavesT r
theorem leavesT_len (T : TR) : (leavesT T).length ≤ T.size := by
 induction T with
 | leaf i => simp [leavesT, TR.size]
 | split i l r ihl ihr => simp only [leavesT, TR.size, List.length_append]; omega
def lsum : List Rat → Rat
 | [] => 0
 | x :: r => x + lsum r
theorem lsum_append (a b : List Rat) : lsum (a ++ b) = lsum a + lsum b := by
 induction a with
 | nil => simp [lsum, Rat.zero_add]
 | cons x a ih => simp only [List.cons_append, lsum, ih, Rat.add_assoc]
theorem lsum_take_succ {l : List Rat} {i : Nat} (h : i < l.length) : lsum (l.take (i + 1)) = lsum (l.take i) + l[i] := by
 rw [List.take_succ_eq_append_getElem h, lsum_append]; simp [lsum, Rat.add_zero]
theorem lsum_sz {l : List Rat} {k : Nat} (h : ∀ x ∈ l, SzQ x k) : SzQ (lsum l) (1 + l.length * (k + 1)) := by
 induction l with
 | nil => simpa [lsum] using SzQ.zero
 | cons x l ih =>
  have h1 := h x List.mem_cons_self
  have h2 := ih fun y hy => h y (List.mem_cons_of_mem _ hy)
  exact (h1.add h2).mono (by simp only [List.length_cons, Nat.add_mul]; omega)
theorem CoversP.ne {t : List NODE} (h : CoversP t) : ∀ i, i < t.length → cov t i ≠ 0 := by
 intro i hi e
 have := h i hi
 rw [cov_get hi] at e
 rw [e] at this
 exact absurd this (by decide)
def InT (U : TR) : TR → Prop
 | .leaf i => U = .leaf i
 | .split i l r => U = .split i l r ∨ InT U l ∨ InT U r
theorem InT.deep {U T : TR} (h : InT U T) : U.deep ≤ T.deep := by
 induction T with
 | leaf j => cases h; exact Nat.le_refl _
 | split j a b iha ihb =>
  simp only [TR.deep]
  rcases h with h | h | h
  · subst h; simp only [TR.deep]; omega
  · have := iha h; omega
  · have := ihb h; omega
theorem InT.size {U T : TR} (h : InT U T) : U.size ≤ T.size := by
 induction T with
 | leaf j => cases h; exact Nat.le_refl _
 | split j a b iha ihb =>
  simp only [TR.size]
  rcases h with h | h | h
  · subst h; simp only [TR.size]; omega
  · have := iha h; omega
  · have := ihb h; omega
def kidsT : TR → List TR
 | .leaf _ => []
 | .split _ l r => [l, r]
def sizes : List TR → Nat
 | [] => 0
 | U :: r => U.size + sizes r
structure Down (T : TR) (L : List TR) (n : Nat) : Prop where
 le : n ≤ L.length
 all : ∀ U ∈ L, InT U T
 kid : ∀ p (h : p < L.length), p < n → ∀ c ∈ kidsT L[p], ∃ q, ∃ hq : q < L.length, p < q ∧ L[q] = c
 top : T ∈ L
 size : n + sizes (L.drop n) = T.size
theorem Down.len {T : TR} {L : List TR} {n : Nat} (h : Down T L n) : n ≤ T.size := by have := h.size; omega
theorem over_set' {α : Type} (l : List α) (x y : α) {k : Nat} (hk : k ≤ l.length) :
  (over (l ++ [x]) (k + 1) (((l ++ [x]).drop k).take ((l ++ [x]).drop (k + 1)).length)).set k y = l.take k ++ y :: l.drop k := by
 have h := over_set l x hk
 obtain ⟨o, eo⟩ : ∃ o, o = over (l ++ [x]) (k + 1) (((l ++ [x]).drop k).take ((l ++ [x]).drop (k + 1)).length) := ⟨_, rfl⟩
 rw [← eo] at h ⊢
 have e : o.set k y = (o.set k x).set k y := by rw [List.set_set]
 rw [e, h, List.set_append, if_neg (by rw [List.length_take]; omega), List.length_take, Nat.min_eq_left hk, Nat.sub_self]
 rfl
theorem over_shift_len' {α : Type} (l : List α) (x : α) {k : Nat} (hk : k ≤ l.length) :
  (over (l ++ [x]) (k + 1) (((l ++ [x]).drop k).take ((l ++ [x]).drop (k + 1)).length)).length = l.length + 1 := by
 have h := congrArg List.length (over_set l x hk)
 rw [List.length_set] at h
 rw [h]; simp; omega
abbrev AP := Nat × Rat × Bool
def encP (p : AP) : PART := ((p.1 : Int), canQ p.2.1, p.2.2)
def encW (w : List AP) : List PART := w.map encP
theorem encW_len (w : List AP) : (encW w).length = w.length := by simp [encW]
theorem encW_get {w : List AP} {i : Nat} (h : i < w.length) : (encW w)[i]? = some (encP w[i]) := by simp [encW, h]
def along (f : Nat) (q : Rat) (ok : Bool) : List AP → List AP
 | [] => [(f, q, ok)]
 | p :: w => if p.1 < f then p :: along f q ok w else if p.1 = f then (f, p.2.1 * q, p.2.2 && ok) :: w else (f, q, ok) :: p :: w
def spot (f : Nat) : List AP → Nat
 | [] => 0
 | p :: w => if p.1 < f then spot f w + 1 else 0
theorem spot_le (f : Nat) (w : List AP) : spot f w ≤ w.length := by
 induction w with
 | nil => simp [spot]
 | cons p w ih => simp only [spot, List.length_cons]; split <;> omega
theorem spot_lt {f : Nat} {w : List AP} {i : Nat} (h : i < spot f w) : ∃ hi : i < w.length, w[i].1 < f := by
 induction w generalizing i with
 | nil => simp [spot] at h
 | cons p w ih =>
  simp only [spot] at h
  split at h
  · rename_i hp
    cases i with
    | zero => exact ⟨by simp, hp⟩
    | succ i => obtain ⟨hi, h2⟩ := ih (i := i) (by omega); exact ⟨by simp; omega, by simpa using h2⟩
  · omega
theorem spot_at {f : Nat} {w : List AP} (h : spot f w < w.length) : ¬ w[spot f w].1 < f := by
 induction w with
 | nil => simp at h
 | cons p w ih =>
  by_cases hp : p.1 < f
  · have e : spot f (p :: w) = spot f w + 1 := by simp only [spot, if_pos hp]
    have h' : spot f w < w.length := by rw [e] at h; simpa using h
    simp only [e, List.getElem_cons_succ]
    exact ih h'
  · have e : spot f (p :: w) = 0 := by simp only [spot, if_neg hp]
    simp only [e, List.getElem_cons_zero]
    exact hp
theorem along_hit {f : Nat} {q : Rat} {ok : Bool} {w : List AP} (h : spot f w < w.length) (e : w[spot f w].1 = f) : along f q ok w = w.set (spot f w) (f, w[spot f w].2.1 * q, w[spot f w].2.2 && ok) := by
 induction w with
 | nil => simp at h
 | cons p w ih =>
  by_cases hp : p.1 < f
  · have es : spot f (p :: w) = spot f w + 1 := by simp only [spot, if_pos hp]
    have h' : spot f w < w.length := by rw [es] at h; simpa using h
    simp only [es, List.getElem_cons_succ] at e ⊢
    rw [along, if_pos hp, ih h' e, List.set_cons_succ]
  · have es : spot f (p :: w) = 0 := by simp only [spot, if_neg hp]
    simp only [es, List.getElem_cons_zero] at e ⊢
    rw [along, if_neg hp, if_pos e, List.set_cons_zero]
theorem along_miss {f : Nat} {q : Rat} {ok : Bool} {w : List AP} (h : ∀ h : spot f w < w.length, w[spot f w].1 ≠ f) : along f q ok w = w.take (spot f w) ++ (f, q, ok) :: w.drop (spot f w) := by
 induction w with
 | nil => simp [along, spot]
 | cons p w ih =>
  by_cases hp : p.1 < f
  · have es : spot f (p :: w) = spot f w + 1 := by simp only [spot, if_pos hp]
    rw [along, if_pos hp, es, List.take_succ_cons, List.drop_succ_cons, List.cons_append, ← ih (fun h' => by
     have := h (by rw [es]; simpa using h')
     simpa only [es, List.getElem_cons_succ] using this)]
  · have es : spot f (p :: w) = 0 := by simp only [spot, if_neg hp]
    have hne : p.1 ≠ f := by
     have := h (by rw [es]; simp)
     simpa only [es, List.getElem_cons_zero] using this
    rw [along, if_neg hp, if_neg hne, es]
    rfl
theorem along_len (f : Nat) (q : Rat) (ok : Bool) (w : List AP) : (along f q ok w).length ≤ w.length + 1 := by
 induction w with
 | nil => simp [along]
 | cons p w ih => simp only [along]; split
                  · simp only [List.length_cons]; omega
                  · split <;> simp
def ASz (w : List AP) (k : Nat) : Prop := ∀ p ∈ w, SzQ p.2.1 k
theorem along_sz {f : Nat} {q : Rat} {ok : Bool} {w : List AP} {k j : Nat} (h : ASz w k) (hq : SzQ q j) : ASz (along f q ok w) (k + j) := by
 induction w with
 | nil => intro p hp; simp [along] at hp; subst hp; exact hq.mono (by omega)
 | cons p w ih =>
  have h1 : SzQ p.2.1 k := h p List.mem_cons_self
  have h2 : ASz w k := fun x hx => h x (List.mem_cons_of_mem _ hx)
  intro x hx
  simp only [along] at hx
  split at hx
  · rcases List.mem_cons.1 hx with rfl | hx
    · exact h1.mono (by omega)
    · exact ih h2 x hx
  · split at hx
    · rcases List.mem_cons.1 hx with rfl | hx
      · exact h1.mul hq
      · exact (h2 x hx).mono (by omega)
    · rcases List.mem_cons.1 hx with rfl | hx
      · exact hq.mono (by omega)
      · exact (h x hx).mono (by omega)
theorem along_ok {w : List AP} {f : Nat} {q : Rat} {ok : Bool} {k j : Nat} (hw : ASz w k) (hq : SzQ q j) (hk : k < 1000000000) (hj : j < 1000000000) (hl : w.length ≤ 1000000) (hf : f < 1000000) :
   expect_along (encW w) (f : Int) (canQ q) ok = some (encW (along f q ok w)) := by
 have el := encW_len w
 have hs := spot_le f w
 obtain ⟨s, es⟩ : ∃ s, s = spot f w := ⟨_, rfl⟩
 have key := lp_up (step := expect_along_s3) (fun i => (((f : Int), ok, encW w, (i : Int), ()), (((canQ q).1.1, (canQ q).1.2, (canQ q).2, ()), ()))) s (r := (((f : Int), ok, encW w, (s : Int), ()), (((canQ q).1.1, (canQ q).1.2, (canQ q).2, ()), ()))) (by omega) (by
   intro g i hi
   obtain ⟨h1, h2⟩ := spot_lt (f := f) (w := w) (i := i) (by omega)
   have d0 : (i : Int) < ((encW w).length : Int) := by omega
   have d1 : (0 : Int) ≤ (i : Int) := by omega
   have d2 : (encP w[i]).1 < (f : Int) := by show ((w[i].1 : Nat) : Int) < _; omega
   rw [expect_along_s3, cnd d0, cnd2 d1 d0, Int.toNat_natCast, encW_get h1, Option.bind_some, cnd d2, iadd1 (by omega)]
   rfl) (by
   intro g
   by_cases h : s < w.length
   · have d0 : (s : Int) < ((encW w).length : Int) := by omega
     have d1 : (0 : Int) ≤ (s : Int) := by omega
     have h3 := spot_at (f := f) (w := w) (by omega)
     have d2 : ¬ (encP w[s]).1 < (f : Int) := by subst es; show ¬ ((w[spot f w].1 : Nat) : Int) < _; omega
     rw [expect_along_s3, cnd d0, cnd2 d1 d0, Int.toNat_natCast, encW_get h, Option.bind_some, cnd' d2]
   · rw [expect_along_s3, cnd' (by omega)])
 have key : lp expect_along_s3 K0 (((f : Int), ok, ([] : List PART) ++ encW w, 0, ()), (((canQ q).1.1, (canQ q).1.2, (canQ q).2, ()), ())) = _ := key
 have c0 : (Nat.ble ((([] : List PART).length + (encW w).length) * 72) 140737488355328 && !false) = true := blt (by simp; omega)
 have miss : (∀ h : spot f w < w.length, w[spot f w].1 ≠ f) → (over (encW w ++ [(0, (((false, []), []), false))]) (s + 1) (((encW w ++ [(0, (((false, []), []), false))]).drop s).take ((encW w ++ [(0, (((false, []), []), false))]).drop (s + 1)).length)).set s ((f : Int), canQ q, ok) = encW (along f q ok w) := by
   intro h
   have e := over_set' (encW w) (0, (((false, []), []), false)) ((f : Int), canQ q, ok) (k := s) (by omega)
   rw [e, along_miss h, ← es]
   simp [encW, encP]
 have ol := over_shift_len' (encW w) (0, (((false, []), []), false)) (k := s) (by omega)
 have i1 : iadd .i64 (s : Int) 1 = ((s + 1 : Nat) : Int) := iadd1 (by omega)
 have d1 : (0 : Int) ≤ (s : Int) := by omega
 have al : (encW w ++ [((0, (((false, []), []), false)) : PART)]).length = w.length + 1 := by simp [encW]
 rw [expect_along, c0, cond_true, key, Option.bind_some]
 dsimp only
 by_cases h : s < w.length
 · have d0 : (s : Int) < ((encW w).length : Int) := by omega
   rw [cnd d0, cnd2 d1 d0, Int.toNat_natCast, encW_get h, Option.bind_some]
   by_cases e : w[s].1 = f
   · have d2 : (encP w[s]).1 = (f : Int) := by show ((w[s].1 : Nat) : Int) = _; omega
     have hsz := hw _ (List.getElem_mem h)
     have hm := ratio_Mul_ok (hsz.sm (by omega)) (hq.sm (by omega))
     rw [rv_canQ, rv_canQ] at hm
     have hm : ratio_Mul (encP w[s]).2.1 (canQ q) = some (canQ (w[s].2.1 * q)) := hm
     obtain ⟨x, ex⟩ : ∃ x : PART, x = ((encP w[s]).1, canQ (w[s].2.1 * q), (encP w[s]).2.2) := ⟨_, rfl⟩
     have ls : ((encW w).set s x).length = w.length := by simp [encW]
     have gx : ((encW w).set s x)[s]? = some x := by rw [List.getElem?_set, if_pos rfl, if_pos (by omega)]
     have d3 : (s : Int) < (((encW w).set s x).length : Int) := by omega
     have fin : (encW w).set s ((f : Int), canQ (w[s].2.1 * q), w[s].2.2 && ok) = encW (along f q ok w) := by
      rw [along_hit (by omega) (by subst es; exact e)]
      subst es
      simp [encW, encP]
     rw [cnd d2, cnd2 d1 d0, Option.bind_some]
     show (ratio_Mul (encP w[s]).2.1 (canQ q)).bind _ = _
     rw [hm, Option.bind_some, cnd2 d1 d0, Option.bind_some, ← ex, cnd2 d1 d3, gx, Option.bind_some, show x.2.2 = w[s].2.2 by rw [ex]; rfl]
     rw [← fin]
     cases hok : w[s].2.2 with
     | true =>
      rw [cond_true, cnd2 d1 d3, Option.bind_some, List.set_set, ex, Bool.true_and]
      simp only
      rw [d2]
     | false =>
      rw [cond_false, cnd2 d1 d3, Option.bind_some, List.set_set, ex, Bool.false_and]
      simp only
      rw [d2]
   · have d2 : ¬ (encP w[s]).1 = (f : Int) := by show ¬ ((w[s].1 : Nat) : Int) = _; omega
     rw [cnd' d2, blt (by omega), cond_true, i1, cnd2 (by omega) (by rw [al]; omega), cnd2 d1 (by rw [al]; omega), Int.toNat_natCast, cnd2 d1 (by rw [ol]; omega), List.getElem?_eq_getElem (by rw [ol]; omega), Option.bind_some]
     show some _ = _
     rw [← miss (fun h' => by subst es; exact e)]
 · rw [cnd' (by omega), blt (by omega), cond_true, i1, cnd2 (by omega) (by rw [al]; omega), cnd2 d1 (by rw [al]; omega), Int.toNat_natCast, Int.toNat_natCast, cnd2 d1 (by rw [ol]; omega), List.getElem?_eq_getElem (by rw [ol]; omega), Option.bind_some]
   show some _ = _
   rw [← miss (fun h' => absurd h' (by omega))]
abbrev AL := Nat × Rat × List AP
def encL (x : AL) : LEG := ((x.1 : Int), canQ x.2.1, encW x.2.2)
def featT (t : List NODE) (i : Nat) : Nat := (nFeat (nodeAt t i)).toNat
def legsT (t : List NODE) (row : List CELL) : TR → List AP → List AL
 | .leaf i, w => [(i, rv (nVal (nodeAt t i)), w)]
 | .split i l r, w => legsT t row l (along (featT t i) (cov t l.top / cov t i) (goL t row i) w) ++ legsT t row r (along (featT t i) (cov t r.top / cov t i) (!goL t row i) w)
theorem legsT_len (t : List NODE) (row : List CELL) (T : TR) (w : List AP) : (legsT t row T w).length = (leavesT T).length := by
 induction T generalizing w with
 | leaf i => rfl
 | split i l r ihl ihr => simp only [legsT, leavesT, List.length_append, ihl, ihr]
def WSz (w : List AP) (m : Nat) (f : Nat) : Prop := ASz w (8 * m + 1) ∧ w.length ≤ m ∧ ∀ p ∈ w, p.1 < f
theorem along_mem {f : Nat} {q : Rat} {ok : Bool} {w : List AP} : ∀ p ∈ along f q ok w, p.1 = f ∨ ∃ p' ∈ w, p'.1 = p.1 := by
 induction w with
 | nil => intro p hp; simp [along] at hp; subst hp; exact .inl rfl
 | cons a w ih =>
  intro p hp
  simp only [along] at hp
  split at hp
  · rcases List.mem_cons.1 hp with rfl | hp
    · exact .inr ⟨p, List.mem_cons_self, rfl⟩
    · rcases ih p hp with h | ⟨p', h1, h2⟩
      · exact .inl h
      · exact .inr ⟨p', List.mem_cons_of_mem _ h1, h2⟩
  · split at hp
    · rcases List.mem_cons.1 hp with rfl | hp
      · exact .inl rfl
      · exact .inr ⟨p, List.mem_cons_of_mem _ hp, rfl⟩
    · rcases List.mem_cons.1 hp with rfl | hp
      · exact .inl rfl
      · exact .inr ⟨p, hp, rfl⟩
theorem WSz.along {w : List AP} {m f g : Nat} {q : Rat} {ok : Bool} (h : WSz w m g) (hq : SzQ q 8) (hf : f < g) : WSz (X.along f q ok w) (m + 1) g := by
 refine ⟨fun p hp => (along_sz h.1 hq p hp).mono (by omega), Nat.le_trans (along_len _ _ _ _) (by have := h.2.1; omega), fun p hp => ?_⟩
 rcases along_mem p hp with e | ⟨p', h1, h2⟩
 · omega
 · have := h.2.2 p' h1; omega
theorem share_sz {t : List NODE} (hs : TSz t 4) {a i : Nat} (ha : a < t.length) (hi : i < t.length) : SzQ (cov t a / cov t i) 8 := (cov_sz hs ha).div (cov_sz hs hi)
theorem legsT_sz {t : List NODE} {row : List CELL} {T : TR} {g : Nat} (hs : TSz t 4) (h : Is t (g : Int) T) : ∀ {w : List AP} {m : Nat}, WSz w m g → ∀ x ∈ legsT t row T w, WSz x.2.2 (m + T.deep) g ∧ SzQ x.2.1 4 := by
 induction T with
 | leaf i =>
  intro w m hw x hx
  simp only [legsT, List.mem_singleton] at hx
  subst hx
  refine ⟨⟨fun p hp => (hw.1 p hp).mono (by simp only [TR.deep]; omega), by have := hw.2.1; simp only [TR.deep]; omega, hw.2.2⟩, (hs.at h.1).2.1.szQ (by decide)⟩
 | split i l r ihl ihr =>
  intro w m hw x hx
  obtain ⟨h1, h2, f0, f1, h3, h4, h5, h6⟩ := h
  have hf : featT t i < g := by rw [featT, nodeAt_get h1]; omega
  simp only [legsT, List.mem_append] at hx
  rcases hx with hx | hx
  · have := ihl h5 (hw.along (ok := goL t row i) (share_sz hs h5.top_lt h1) hf) x hx
    refine ⟨⟨fun p hp => (this.1.1 p hp).mono (by simp only [TR.deep]; omega), by have := this.1.2.1; simp only [TR.deep]; omega, this.1.2.2⟩, this.2⟩
  · have := ihr h6 (hw.along (ok := !goL t row i) (share_sz hs h6.top_lt h1) hf) x hx
    refine ⟨⟨fun p hp => (this.1.1 p hp).mono (by simp only [TR.deep]; omega), by have := this.1.2.1; simp only [TR.deep]; omega, this.1.2.2⟩, this.2⟩
theorem legs_ok {t : List NODE} {row : List CELL} (hs : TSz t 4) (hc : CSz row 9) (hcov : CoversP t) (hrl : row.length ≤ 64) : ∀ (n : Nat) (T : TR) (w : List AP) (m : Nat), Is t (row.length : Int) T → T.deep ≤ n → T.size ≤ 1000000 → WSz w m row.length → m + T.deep ≤ 10000 →
  expect_legs n t row (T.top : Int) (encW w) = some ((legsT t row T w).map encL) := by
 intro n
 induction n with
 | zero => intro T w m _ hd; have := T.deep_pos; omega
 | succ n ih =>
  intro T w m h hd hz hw hm
  show expect_legs_b (expect_legs n) t row T.top (encW w) = _
  have hwl := hw.2.1
  cases T with
  | leaf i =>
   obtain ⟨h1, h2⟩ := h
   have z := hs _ (List.getElem_mem h1)
   rw [expect_legs_b, show ((TR.leaf i).top : Int) = (i : Int) from rfl, cnd (by omega), Int.toNat_natCast, List.getElem?_eq_getElem h1, Option.bind_some, show t[i].1 = true from h2, cond_true, ratio_Clean_ok (z.2.1.sm (by decide)), Option.bind_some, blt (by simp [encW]; omega), cond_true]
   simp only [legsT, List.map_cons, List.map_nil, encL, nodeAt_get h1, List.nil_append]
  | split i l r =>
   obtain ⟨h1, h2, f0, f1, h3, h4, h5, h6⟩ := h
   simp only [TR.deep] at hd hm
   simp only [TR.size] at hz
   have d0 : (0 : Int) ≤ (i : Int) := by omega
   obtain ⟨c, g1, g2, g3⟩ := goL_ok (f := 0) hs hc h1 f0 f1
   have z := hs _ (List.getElem_mem h1)
   have tl := h5.top_lt
   have tr := h6.top_lt
   have zl := hs _ (List.getElem_mem tl)
   have zr := hs _ (List.getElem_mem tr)
   have hne : rv (nCov t[i]) ≠ 0 := by have := hcov.ne i h1; rwa [cov_get h1] at this
   have o1 := over_ok (zl.2.2.sm (by decide)) (z.2.2.sm (by decide)) hne
   have o2 := over_ok (zr.2.2.sm (by decide)) (z.2.2.sm (by decide)) hne
   rw [← cov_get tl, ← cov_get h1] at o1
   rw [← cov_get tr, ← cov_get h1] at o2
   have hft : ((featT t i : Nat) : Int) = nFeat t[i] := by rw [featT, nodeAt_get h1]; omega
   have hf : featT t i < row.length := by omega
   have a1 := along_ok (f := featT t i) (ok := goL t row i) hw.1 (share_sz hs tl h1) (by omega) (by decide) (by omega) (by omega)
   have a2 := along_ok (f := featT t i) (ok := !goL t row i) hw.1 (share_sz hs tr h1) (by omega) (by decide) (by omega) (by omega)
   rw [hft] at a1 a2
   have el := ih l _ (m + 1) h5 (by omega) (by omega) (hw.along (ok := goL t row i) (share_sz hs tl h1) hf) (by omega)
   have er := ih r _ (m + 1) h6 (by omega) (by omega) (hw.along (ok := !goL t row i) (share_sz hs tr h1) hf) (by omega)
   have ll := legsT_len t row l (along (featT t i) (cov t l.top / cov t i) (goL t row i) w)
   have lr := legsT_len t row r (along (featT t i) (cov t r.top / cov t i) (!goL t row i) w)
   have bl := leavesT_len l
   have br := leavesT_len r
   rw [expect_legs_b, show ((TR.split i l r).top : Int) = (i : Int) from rfl, cnd d0, Int.toNat_natCast, List.getElem?_eq_getElem h1, Option.bind_some, show t[i].1 = false from h2, cond_false, show t[i].2.1 = nFeat t[i] from rfl, cnd f0, g1, Option.bind_some, Left_ok z.1 (by decide) g2 (by decide), Option.bind_some, g3, show (!nLeaf t[i]) = true by rw [h2]; rfl, Bool.true_and, show t[i].2.2.2.1 = _ from h3, cnd (by omega), Int.toNat_natCast, List.getElem?_eq_getElem tl, Option.bind_some, o1, Option.bind_some, a1, Option.bind_some, el, Option.bind_some, show t[i].2.2.2.2.1 = _ from h4, cnd (by omega), Int.toNat_natCast, List.getElem?_eq_getElem tr, Option.bind_some, o2, Option.bind_some, a2, Option.bind_some, er, Option.bind_some, blt (by simp only [List.length_map, ll, lr]; omega), cond_true]
   simp only [legsT, List.map_append]
def lprod : List Rat → Rat
 | [] => 1
 | x :: r => x * lprod r
theorem WSz.nil (f : Nat) : WSz [] 0 f := ⟨fun p hp => absurd hp (by simp), Nat.le_refl _, fun p hp => absurd hp (by simp)⟩
theorem Legs_ok {t : List NODE} {row : List CELL} (ht : t.length ≤ 15) (hs : TSz t 4) (hc : CSz row 9) (hg : Good ((row.length : Int), [t])) (hrl : row.length ≤ 64) :
  expect_Legs t row = some ((legsT t row (treeOf t) []).map encL, 0) ∧ (∀ x ∈ legsT t row (treeOf t) [], WSz x.2.2 16 row.length ∧ SzQ x.2.1 4) ∧ (legsT t row (treeOf t) []).length ≤ 65536 := by
 obtain ⟨b, h1, h2⟩ := TreeV_ok (f := (row.length : Int)) ht hs
 have hb : b = true := h2.2 hg
 subst hb
 obtain ⟨g1, g2, g3⟩ := hg.treeOf (i := 0) (by simp)
 have g1 : Is t (row.length : Int) (treeOf t) := g1
 have g2 : (treeOf t).top = 0 := g2
 have g3 : (treeOf t).deep ≤ t.length + 1 := g3
 have hz := TR.size_le (T := treeOf t) (by omega)
 have hcov : CoversP t := hg.covers (i := 0) (by simp)
 have hl := legs_ok hs hc hcov hrl R0 (treeOf t) [] 0 g1 (by unfold R0; omega) (by omega) (WSz.nil _) (by omega)
 rw [g2] at hl
 have hl : expect_legs R0 t row 0 [] = _ := hl
 have hn := legsT_len t row (treeOf t) []
 have hn2 := leavesT_len (treeOf t)
 refine ⟨by rw [expect_Legs, h1, Option.bind_some, Bool.not_true, cond_false, hl, Option.bind_some], fun x hx => ?_, by omega⟩
 have hw := legsT_sz hs g1 (WSz.nil _) x hx
 refine ⟨⟨fun p hp => (hw.1.1 p hp).mono (by omega), by have := hw.1.2.1; omega, hw.1.2.2⟩, hw.2⟩
theorem Askd.goodT {m : MODEL} {row : List CELL} (h : Askd m row) {i : Nat} (hi : i < m.2.length) : Good ((row.length : Int), [m.2[i]]) := by
 have hg := h.good
 refine ⟨⟨?_, ?_, ?_, ?_⟩, ?_⟩
 · rw [h.len]; exact hg.1.1
 · rw [h.len]; exact hg.1.2.1
 · simp
 · intro j hj
   have hj : j < 1 := hj
   have : j = 0 := by omega
   subst this
   exact hg.1.2.2.2 i hi
 · intro r hr j hj
   have hj : j < 1 := hj
   have : j = 0 := by omega
   subst this
   have := hg.2 r hr i hi
   show RuleP (row.length : Int) r m.2[i]
   rw [h.len]; exact this
theorem InT.trans {A B C : TR} (h : InT A B) (h' : InT B C) : InT A C := by
 induction C with
 | leaf j => cases h'; exact h
 | split j a b iha ihb =>
  rcases h' with h' | h' | h'
  · subst h'; exact h
  · exact .inr (.inl (iha h'))
  · exact .inr (.inr (ihb h'))
def SortA (w : List AP) : Prop := w.Pairwise fun a b => a.1 < b.1
theorem along_sort {f : Nat} {q : Rat} {ok : Bool} {w : List AP} (h : SortA w) : SortA (along f q ok w) := by
 induction w with
 | nil => simp [along, SortA]
 | cons p w ih =>
  have h1 := List.pairwise_cons.1 h
  simp only [along]
  split
  · rename_i hp
    refine List.pairwise_cons.2 ⟨fun a ha => ?_, ih h1.2⟩
    rcases along_mem a ha with e | ⟨p', h3, h4⟩
    · omega
    · have := h1.1 p' h3; omega
  · split
    · rename_i e
      exact List.pairwise_cons.2 ⟨fun a ha => by have := h1.1 a ha; show f < a.1; omega, h1.2⟩
    · refine List.pairwise_cons.2 ⟨fun a ha => ?_, h⟩
      show f < a.1
      rcases List.mem_cons.1 ha with rfl | ha
      · omega
      · have := h1.1 a ha; omega
def castL (l : List Nat) : List Int := l.map fun (n : Nat) => (n : Int)
theorem castL_len (l : List Nat) : (castL l).length = l.length := by simp [castL]
theorem castL_get {l : List Nat} {i : Nat} (h : i < l.length) : (castL l)[i]? = some ((l[i] : Nat) : Int) := by simp [castL, h]
theorem castL_append (a b : List Nat) : castL (a ++ b) = castL a ++ castL b := by simp [castL]
def flo (n : Nat) (o : Nat → Rat) : List RAT := (List.range n).map fun f => canQ (o f)
theorem flo_len (n : Nat) (o : Nat → Rat) : (flo n o).length = n := by simp [flo]
theorem flo_get {n f : Nat} (o : Nat → Rat) (h : f < n) : (flo n o)[f]? = some (canQ (o f)) := by simp [flo, h]
theorem flo_congr {n : Nat} {o p : Nat → Rat} (h : ∀ f, f < n → o f = p f) : flo n o = flo n p := by
 rw [flo, flo]
 exact List.map_congr_left fun f hf => by rw [h f (List.mem_range.1 hf)]
theorem flo_set {n i : Nat} {o p : Nat → Rat} {x : Rat} (hx : p i = x) (hp : ∀ f, f ≠ i → p f = o f) : (flo n o).set i (canQ x) = flo n p := by
 apply List.ext_getElem?
 intro f
 rw [List.getElem?_set]
 by_cases hf : f < n
 · rw [flo_get _ hf, flo_get _ hf, flo_len]
   by_cases e : i = f
   · rw [if_pos e, if_pos (by omega), ← e, hx]
   · rw [if_neg e, hp f (fun h => e h.symm)]
 · have h1 : (flo n o)[f]? = none := List.getElem?_eq_none (by rw [flo_len]; omega)
   have h2 : (flo n p)[f]? = none := List.getElem?_eq_none (by rw [flo_len]; omega)
   rw [h1, h2]
   split
   · rw [if_neg (by rw [flo_len]; omega)]
   · rfl
theorem vzeros_ok {n : Nat} (h : n ≤ 1000000) : versus_zeros (n : Int) = some (flo n fun _ => 0) := by
 have key := lp_up (step := versus_zeros_s3) (fun i => ((flo i (fun _ => 0), (n : Int), (i : Int), ()), ())) n (r := ((flo n (fun _ => 0), ()), ())) (by omega) (by
  intro g i hi
  have d0 : (i : Int) < (n : Int) := by omega
  rw [versus_zeros_s3, cnd d0, ratio_Zero_ok, Option.bind_some, blt (by rw [flo_len]; omega), cond_true, iadd1 (by omega)]
  have : flo i (fun _ => 0) ++ [canQ 0] = flo (i + 1) fun _ => 0 := by simp [flo, List.range_succ]
  rw [this]; rfl) (by
  intro g
  rw [versus_zeros_s3, cnd' (by omega)])
 have key : lp versus_zeros_s3 K0 (([], (n : Int), 0, ()), ()) = _ := key
 rw [versus_zeros, key]; rfl
abbrev PP := AP × AP
def mN (z : List PP) : List Nat := z.filterMap fun x => if x.1.2.2 && !x.2.2.2 then some x.1.1 else none
def iN (z : List PP) : List Nat := z.filterMap fun x => if !x.1.2.2 && x.2.2.2 then some x.1.1 else none
def bothNo (x : PP) : Bool := !x.1.2.2 && !x.2.2.2
def nN (z : List PP) : Bool := z.any bothNo
theorem mN_append (a b : List PP) : mN (a ++ b) = mN a ++ mN b := by simp [mN]
theorem iN_append (a b : List PP) : iN (a ++ b) = iN a ++ iN b := by simp [iN]
theorem mN_len (z : List PP) : (mN z).length ≤ z.length := List.length_filterMap_le _ _
theorem iN_len (z : List PP) : (iN z).length ≤ z.length := List.length_filterMap_le _ _
theorem sides_ok {x y : AL} (h : x.2.2.length = y.2.2.length) (hl : x.2.2.length ≤ 1000000) :
   versus_sides (encL x) (encL y) = some (if nN (x.2.2.zip y.2.2) then ([], [], false) else (castL (mN (x.2.2.zip y.2.2)), castL (iN (x.2.2.zip y.2.2)), true)) := by
 obtain ⟨f, v, a⟩ := x
 obtain ⟨f', v', b⟩ := y
 have h : a.length = b.length := h
 have hl : a.length ≤ 1000000 := hl
 show _ = some (if nN (a.zip b) then _ else (castL (mN (a.zip b)), castL (iN (a.zip b)), true))
 obtain ⟨z, ez⟩ : ∃ z, z = a.zip b := ⟨_, rfl⟩
 have zl : z.length = a.length := by rw [ez, List.length_zip]; omega
 have za : ∀ i (hi : i < a.length), z[i]'(by omega) = (a[i], b[i]'(by omega)) := by intro i hi; subst ez; simp
 rw [← ez]
 have key := lp_allh (step := versus_sides_s2) (fun i => ((castL (mN (z.take i)), castL (iN (z.take i)), encW a, ((encW a).length : Int), (i : Int), ()), (((encL (f', v', b)).1, (encL (f', v', b)).2.1.1.1, (encL (f', v', b)).2.1.1.2, (encL (f', v', b)).2.1.2, encW b, ()), ())))
   a.length (fun i => ∀ h : i < z.length, bothNo z[i] = false) (fun r => r = .inr (([], [], false, ()), ())) (.inl ((castL (mN z), castL (iN z), ()), ())) (by omega) (by
   intro i hi _
   have d0 : (i : Int) < ((encW a).length : Int) := by rw [encW_len]; omega
   have d1 : (0 : Int) ≤ (i : Int) := by omega
   have hz := za i hi
   have ht : z.take (i + 1) = z.take i ++ [z[i]'(by omega)] := List.take_succ_eq_append_getElem (by omega)
   have m1 := mN_len (z.take i)
   have m2 := iN_len (z.take i)
   simp only [List.length_take] at m1 m2
   have b1 : (Nat.ble (((castL (mN (z.take i))).length + 1) * 8) 140737488355328 && !false) = true := blt (by rw [castL_len]; omega)
   have b2 : (Nat.ble (((castL (iN (z.take i))).length + 1) * 8) 140737488355328 && !false) = true := blt (by rw [castL_len]; omega)
   have e1 : (encP a[i]).2.2 = a[i].2.2 := rfl
   have e2 : (encP (b[i]'(by omega))).2.2 = (b[i]'(by omega)).2.2 := rfl
   have e3 : (encP a[i]).1 = ((a[i].1 : Nat) : Int) := rfl
   have st : ∀ g, versus_sides_s2 g ((castL (mN (z.take i)), castL (iN (z.take i)), encW a, ((encW a).length : Int), (i : Int), ()), (((encL (f', v', b)).1, (encL (f', v', b)).2.1.1.1, (encL (f', v', b)).2.1.1.2, (encL (f', v', b)).2.1.2, encW b, ()), ())) =
      if bothNo z[i] then some (.inr (([], [], false, ()), ())) else g ((castL (mN (z.take (i + 1))), castL (iN (z.take (i + 1))), encW a, ((encW a).length : Int), ((i + 1 : Nat) : Int), ()), (((encL (f', v', b)).1, (encL (f', v', b)).2.1.1.1, (encL (f', v', b)).2.1.1.2, (encL (f', v', b)).2.1.2, encW b, ()), ())) := by
     intro g
     rw [versus_sides_s2, cnd d0, cnd d1, Int.toNat_natCast, encW_get hi, Option.bind_some, cnd d1, encW_get (by omega), Option.bind_some, e1, e2, e3, iadd1 (by omega), b1, b2, ht, mN_append, iN_append, castL_append, castL_append, hz]
     cases h1 : a[i].2.2 <;> cases h2 : (b[i]'(by omega)).2.2 <;> simp [bothNo, h1, h2, mN, iN, castL]
   by_cases hb : bothNo (z[i]'(by omega)) = true
   · exact .inr ⟨fun hh => absurd (hh (by omega)) (by rw [hb]; decide), _, rfl, fun g => by rw [st g, if_pos hb]⟩
   · exact .inl ⟨fun _ => by simpa using hb, fun g => by rw [st g, if_neg hb]⟩) (by
   intro g
   rw [versus_sides_s2, cnd' (by rw [encW_len]; omega), List.take_of_length_le (by omega)])
 have e : versus_sides (encL (f, v, a)) (encL (f', v', b)) = (lp versus_sides_s2 K0 ((castL (mN (z.take 0)), castL (iN (z.take 0)), encW a, ((encW a).length : Int), ((0 : Nat) : Int), ()), (((encL (f', v', b)).1, (encL (f', v', b)).2.1.1.1, (encL (f', v', b)).2.1.1.2, (encL (f', v', b)).2.1.2, encW b, ()), ()))).bind fun t3 => (match t3 with | .inl t4 => some (t4.1.1, t4.1.2.1, true) | .inr t5 => some (t5.1.1, t5.1.2.1, t5.1.2.2.1)) := rfl
 rw [e]
 rcases key with ⟨hall, h1⟩ | ⟨hn, r, rfl, h1⟩
 · have : nN z = false := by
     rw [nN, List.any_eq_false]
     intro x hx
     obtain ⟨i, hi, rfl⟩ := List.mem_iff_getElem.1 hx
     rw [hall i (by omega) hi]; simp
   rw [h1, Option.bind_some, this, if_neg (by decide)]
 · have : nN z = true := by
     cases hb : nN z with
     | true => rfl
     | false =>
      exfalso
      apply hn
      intro i hi hi'
      rw [nN, List.any_eq_false] at hb
      simpa using hb _ (List.getElem_mem hi')
   rw [h1, Option.bind_some, this, if_pos rfl]
def addO (o : Nat → Rat) (x : Rat) (l : List Nat) : Nat → Rat := fun f => if f ∈ l then o f + x else o f
theorem addO_step {n i : Nat} {o : Nat → Rat} {x : Rat} {l : List Nat} (hi : i < l.length) (hnd : l.Nodup) :
   addO o x (l.take i) l[i] = o l[i] ∧ (flo n (addO o x (l.take i))).set l[i] (canQ (o l[i] + x)) = flo n (addO o x (l.take (i + 1))) := by
 have hni : l[i] ∉ l.take i := by
   intro h
   obtain ⟨j, hj, e⟩ := List.mem_iff_getElem.1 h
   have hj2 : j < i := by simp at hj; omega
   rw [List.getElem_take] at e
   exact List.pairwise_iff_getElem.1 hnd j i (by omega) hi hj2 e
 have ht := List.take_succ_eq_append_getElem hi
 refine ⟨by rw [addO, if_neg hni], flo_set ?_ ?_⟩
 · rw [addO, ht, if_pos (List.mem_append.2 (.inr List.mem_cons_self))]
 · intro f hf
   have : (f ∈ l.take (i + 1)) = (f ∈ l.take i) := by rw [ht, List.mem_append, List.mem_singleton]; exact propext ⟨fun h => h.resolve_right hf, .inl⟩
   simp only [addO, this]
theorem addO_sz {o : Nat → Rat} {x : Rat} {l : List Nat} {k j f : Nat} (h : SzQ (o f) k) (hx : SzQ x j) : SzQ (addO o x l f) (k + j + 1) := by
 unfold addO; split
 · exact (h.add hx).mono (by omega)
 · exact h.mono (by omega)
theorem addO_nil (o : Nat → Rat) (x : Rat) : addO o x [] = o := by funext f; simp [addO]
theorem counter_ok {n k : Nat} {o : Nat → Rat} {v : Rat} {mi it : List Nat} {d st sm : Int} {f : List WH} (hT : Tab d st sm f) (ho : ∀ f, f < n → SzQ (o f) k) (hk : k < 1000000000) (hv : SzQ v 4)
  (h64 : mi.length + it.length ≤ 64) (nm : mi.Nodup) (ni : it.Nodup) (lm : ∀ f ∈ mi, f < n) (li : ∀ f ∈ it, f < n) :
  ∃ d' st' sm' f', versus_counter_add (canQ v) (castL mi) (castL it) (flo n o) d st sm f = some (flo n (addO (addO o (v * nin mi.length it.length) mi) (v * nout mi.length it.length) it), d', st', sm', f') ∧ Tab d' st' sm' f' := by
 obtain ⟨d', st', sm', f', hN, hT'⟩ := Need_ok hT h64
 refine ⟨d', st', sm', f', ?_, hT'⟩
 have z1 := nin_sz h64
 have z2 := nout_sz h64
 obtain ⟨a, ea⟩ : ∃ a, a = nin mi.length it.length := ⟨_, rfl⟩
 obtain ⟨b, eb⟩ : ∃ b, b = nout mi.length it.length := ⟨_, rfl⟩
 rw [← ea] at z1 hN ⊢
 rw [← eb] at z2 hN ⊢
 have m1 := ratio_Mul_ok (hv.sm (by decide)) (z1.sm (by decide))
 have m2 := ratio_Mul_ok (hv.sm (by decide)) (z2.sm (by decide))
 rw [rv_canQ, rv_canQ] at m1 m2
 have zz1 := hv.mul z1
 have zz2 := hv.mul z2
 have l1 := castL_len mi
 have l2 := castL_len it
 have key1 := lp_up (step := versus_counter_add_s3) (fun i => ((castL it, castL mi, ((castL mi).length : Int), (i : Int), ()), (((canQ v).1.1, (canQ v).1.2, (canQ v).2, ()), ((canQ a).1.1, (canQ a).1.2, (canQ a).2, ()), ((canQ b).1.1, (canQ b).1.2, (canQ b).2, ()), (flo n (addO o (v * a) (mi.take i)), ()), (d', st', sm', f', ()), ()))) mi.length (r := ((castL it, ()), (((canQ v).1.1, (canQ v).1.2, (canQ v).2, ()), ((canQ b).1.1, (canQ b).1.2, (canQ b).2, ()), (flo n (addO o (v * a) mi), ()), (d', st', sm', f', ()), ()))) (by omega) (by
  intro g i hi
  have d0 : (i : Int) < ((castL mi).length : Int) := by omega
  have d1 : (0 : Int) ≤ (i : Int) := by omega
  have hf := lm _ (List.getElem_mem hi)
  have d2 : (0 : Int) ≤ ((mi[i] : Nat) : Int) := by omega
  have d3 : ((mi[i] : Nat) : Int) < ((flo n (addO o (v * a) (mi.take i))).length : Int) := by rw [flo_len]; omega
  obtain ⟨s1, s2⟩ := addO_step (n := n) (o := o) (x := v * a) hi nm
  have ha := ratio_Add_ok ((ho _ hf).sm (by omega)) (zz1.sm (by decide))
  rw [rv_canQ, rv_canQ] at ha
  rw [versus_counter_add_s3, cnd d0, cnd d1, Int.toNat_natCast, castL_get hi, Option.bind_some, cnd2 d2 d3, Int.toNat_natCast, flo_get _ hf, Option.bind_some, s1]
  show (ratio_Mul (canQ v) (canQ a)).bind _ = _
  rw [m1, Option.bind_some, ha, Option.bind_some, cnd2 d2 d3, Option.bind_some, s2, iadd1 (by omega)]
  rfl) (by
  intro g
  rw [versus_counter_add_s3, cnd' (by omega), List.take_of_length_le (Nat.le_refl _)])
 rw [show ((castL it, castL mi, ((castL mi).length : Int), ((0 : Nat) : Int), ()), (((canQ v).1.1, (canQ v).1.2, (canQ v).2, ()), ((canQ a).1.1, (canQ a).1.2, (canQ a).2, ()), ((canQ b).1.1, (canQ b).1.2, (canQ b).2, ()), (flo n (addO o (v * a) (mi.take 0)), ()), (d', st', sm', f', ()), ())) = ((castL it, castL mi, ((castL mi).length : Int), (0 : Int), ()), (((canQ v).1.1, (canQ v).1.2, (canQ v).2, ()), ((canQ a).1.1, (canQ a).1.2, (canQ a).2, ()), ((canQ b).1.1, (canQ b).1.2, (canQ b).2, ()), (flo n o, ()), (d', st', sm', f', ()), ())) by rw [List.take_zero, addO_nil]; rfl] at key1
 have key2 := lp_up (step := versus_counter_add_s8) (fun i => ((castL it, ((castL it).length : Int), (i : Int), ()), (((canQ v).1.1, (canQ v).1.2, (canQ v).2, ()), ((canQ b).1.1, (canQ b).1.2, (canQ b).2, ()), (flo n (addO (addO o (v * a) mi) (v * b) (it.take i)), ()), (d', st', sm', f', ()), ()))) it.length (r := ((()), ((flo n (addO (addO o (v * a) mi) (v * b) it), ()), (d', st', sm', f', ()), ()))) (by omega) (by
  intro g i hi
  have d0 : (i : Int) < ((castL it).length : Int) := by omega
  have d1 : (0 : Int) ≤ (i : Int) := by omega
  have hf := li _ (List.getElem_mem hi)
  have d2 : (0 : Int) ≤ ((it[i] : Nat) : Int) := by omega
  have d3 : ((it[i] : Nat) : Int) < ((flo n (addO (addO o (v * a) mi) (v * b) (it.take i))).length : Int) := by rw [flo_len]; omega
  obtain ⟨s1, s2⟩ := addO_step (n := n) (o := addO o (v * a) mi) (x := v * b) hi ni
  have ha := ratio_Add_ok ((addO_sz (l := mi) (ho _ hf) zz1).sm (by omega)) (zz2.sm (by decide))
  rw [rv_canQ, rv_canQ] at ha
  rw [versus_counter_add_s8, cnd d0, cnd d1, Int.toNat_natCast, castL_get hi, Option.bind_some, cnd2 d2 d3, Int.toNat_natCast, flo_get _ hf, Option.bind_some, s1]
  show (ratio_Mul (canQ v) (canQ b)).bind _ = _
  rw [m2, Option.bind_some, ha, Option.bind_some, cnd2 d2 d3, Option.bind_some, s2, iadd1 (by omega)]
  rfl) (by
  intro g
  rw [versus_counter_add_s8, cnd' (by omega), List.take_of_length_le (Nat.le_refl _)])
 rw [show ((castL it, ((castL it).length : Int), ((0 : Nat) : Int), ()), (((canQ v).1.1, (canQ v).1.2, (canQ v).2, ()), ((canQ b).1.1, (canQ b).1.2, (canQ b).2, ()), (flo n (addO (addO o (v * a) mi) (v * b) (it.take 0)), ()), (d', st', sm', f', ()), ())) = ((castL it, ((castL it).length : Int), (0 : Int), ()), (((canQ v).1.1, (canQ v).1.2, (canQ v).2, ()), ((canQ b).1.1, (canQ b).1.2, (canQ b).2, ()), (flo n (addO o (v * a) mi), ()), (d', st', sm', f', ()), ())) by rw [List.take_zero, addO_nil]; rfl] at key2
 rw [versus_counter_add, l1, l2, hN, Option.bind_some]
 rw [l1] at key1
 rw [l2] at key2
 dsimp only
 rw [key1, Option.bind_some]
 dsimp only
 rw [l2, key2, Option.bind_some]
def shp (w : List AP) : List (Nat × Rat) := w.map fun p => (p.1, p.2.1)
def shpA (x : AL) : Nat × Rat × List (Nat × Rat) := (x.1, x.2.1, shp x.2.2)
theorem along_shp {f : Nat} {q : Rat} {ok ok' : Bool} : ∀ {w w' : List AP}, shp w = shp w' → shp (along f q ok w) = shp (along f q ok' w') := by
 intro w
 induction w with
 | nil => intro w' h; cases w' with
  | nil => rfl
  | cons p w' => simp [shp] at h
 | cons p w ih =>
  intro w' h
  cases w' with
  | nil => simp [shp] at h
  | cons p' w' =>
   obtain ⟨a, b, c⟩ := p
   obtain ⟨a', b', c'⟩ := p'
   simp only [shp, List.map_cons, List.cons.injEq, Prod.mk.injEq] at h
   obtain ⟨⟨rfl, rfl⟩, h⟩ := h
   simp only [along]
   split
   · simp only [shp, List.map_cons, List.cons.injEq, true_and]; exact ih h
   · split
     · simp only [shp, List.map_cons, List.cons.injEq, true_and]; exact h
     · simp only [shp, List.map_cons, List.cons.injEq, true_and]; exact h
theorem legs_shp {t : List NODE} {row other : List CELL} (T : TR) : ∀ {w w' : List AP}, shp w = shp w' → (legsT t row T w).map shpA = (legsT t other T w').map shpA := by
 induction T with
 | leaf i => intro w w' h; simp only [legsT, List.map_cons, List.map_nil, shpA, h]
 | split i l r ihl ihr =>
  intro w w' h
  simp only [legsT, List.map_append]
  rw [ihl (along_shp h), ihr (along_shp h)]
theorem legs_sort {t : List NODE} {row : List CELL} (T : TR) : ∀ {w : List AP}, SortA w → ∀ x ∈ legsT t row T w, SortA x.2.2 := by
 induction T with
 | leaf i => intro w h x hx; simp only [legsT, List.mem_singleton] at hx; subst hx; exact h
 | split i l r ihl ihr =>
  intro w h x hx
  simp only [legsT, List.mem_append] at hx
  rcases hx with hx | hx
  · exact ihl (along_sort h) x hx
  · exact ihr (along_sort h) x hx
theorem mN_mem {z : List PP} {f : Nat} (h : f ∈ mN z) : ∃ x ∈ z, x.1.1 = f ∧ x.1.2.2 = true ∧ x.2.2.2 = false := by
 obtain ⟨x, hx, e⟩ := List.mem_filterMap.1 h
 split at e
 · rename_i hb
   simp only [Bool.and_eq_true, Bool.not_eq_true'] at hb
   exact ⟨x, hx, Option.some.inj e, hb.1, hb.2⟩
 · cases e
theorem iN_mem {z : List PP} {f : Nat} (h : f ∈ iN z) : ∃ x ∈ z, x.1.1 = f ∧ x.1.2.2 = false ∧ x.2.2.2 = true := by
 obtain ⟨x, hx, e⟩ := List.mem_filterMap.1 h
 split at e
 · rename_i hb
   simp only [Bool.and_eq_true, Bool.not_eq_true'] at hb
   exact ⟨x, hx, Option.some.inj e, hb.1, hb.2⟩
 · cases e
theorem zip_fst {w w' : List AP} {x : PP} (h : x ∈ w.zip w') : x.1 ∈ w := by
 obtain ⟨a, b⟩ := x; exact (List.of_mem_zip h).1
theorem sides_nodup {w w' : List AP} (h : SortA w) : (mN (w.zip w')).Nodup ∧ (iN (w.zip w')).Nodup ∧ (mN (w.zip w')).length + (iN (w.zip w')).length ≤ w.length := by
 induction w generalizing w' with
 | nil => simp [mN, iN]
 | cons p w ih =>
  cases w' with
  | nil => simp [mN, iN]
  | cons p' w' =>
   have h1 := List.pairwise_cons.1 h
   obtain ⟨a, b, c⟩ := ih (w' := w') h1.2
   have nm : p.1 ∉ mN (w.zip w') := fun hm => by
    obtain ⟨x, hx, e, _⟩ := mN_mem hm
    have := h1.1 _ (zip_fst hx); omega
   have ni : p.1 ∉ iN (w.zip w') := fun hm => by
    obtain ⟨x, hx, e, _⟩ := iN_mem hm
    have := h1.1 _ (zip_fst hx); omega
   have e1 : mN ((p :: w).zip (p' :: w')) = if p.2.2 && !p'.2.2 then p.1 :: mN (w.zip w') else mN (w.zip w') := by
    simp only [List.zip_cons_cons, mN, List.filterMap_cons]
    cases p.2.2 <;> cases p'.2.2 <;> simp
   have e2 : iN ((p :: w).zip (p' :: w')) = if !p.2.2 && p'.2.2 then p.1 :: iN (w.zip w') else iN (w.zip w') := by
    simp only [List.zip_cons_cons, iN, List.filterMap_cons]
    cases p.2.2 <;> cases p'.2.2 <;> simp
   rw [e1, e2, List.length_cons]
   cases p.2.2 <;> cases p'.2.2 <;> simp [a, b, nm, ni] <;> omega
def legAdd (x y : AL) (f : Nat) : Rat :=
 if nN (x.2.2.zip y.2.2) then 0 else
  (if f ∈ mN (x.2.2.zip y.2.2) then x.2.1 * nin (mN (x.2.2.zip y.2.2)).length (iN (x.2.2.zip y.2.2)).length else 0) +
  (if f ∈ iN (x.2.2.zip y.2.2) then x.2.1 * nout (mN (x.2.2.zip y.2.2)).length (iN (x.2.2.zip y.2.2)).length else 0)
abbrev LP := AL × AL
def LpOk (n : Nat) (x : LP) : Prop := shpA x.1 = shpA x.2 ∧ SortA x.1.2.2 ∧ WSz x.1.2.2 16 n ∧ SzQ x.1.2.1 4
theorem legAdd_sz {n : Nat} {x : LP} (h : LpOk n x) (f : Nat) : SzQ (legAdd x.1 x.2 f) 70 := by
 obtain ⟨_, h1, h2, h3⟩ := h
 have hl := (sides_nodup (w' := x.2.2.2) h1).2.2
 have h16 := h2.2.1
 have h64 : (mN (x.1.2.2.zip x.2.2.2)).length + (iN (x.1.2.2.zip x.2.2.2)).length ≤ 64 := by omega
 unfold legAdd
 split
 · exact SzQ.zero.mono (by decide)
 · have a : SzQ (if f ∈ mN (x.1.2.2.zip x.2.2.2) then x.1.2.1 * nin (mN (x.1.2.2.zip x.2.2.2)).length (iN (x.1.2.2.zip x.2.2.2)).length else 0) 34 := by
    split
    · exact h3.mul (nin_sz h64)
    · exact SzQ.zero.mono (by decide)
   have b : SzQ (if f ∈ iN (x.1.2.2.zip x.2.2.2) then x.1.2.1 * nout (mN (x.1.2.2.zip x.2.2.2)).length (iN (x.1.2.2.zip x.2.2.2)).length else 0) 34 := by
    split
    · exact h3.mul (nout_sz h64)
    · exact SzQ.zero.mono (by decide)
   exact (a.add b).mono (by decide)
theorem leg_ok {n k : Nat} {o : Nat → Rat} {x : LP} {d st sm : Int} {f : List WH} (hT : Tab d st sm f) (h : LpOk n x) (hno : nN (x.1.2.2.zip x.2.2.2) = false) (ho : ∀ f, f < n → SzQ (o f) k) (hk : k < 1000000000) :
  ∃ d' st' sm' f', versus_counter_add (canQ x.1.2.1) (castL (mN (x.1.2.2.zip x.2.2.2))) (castL (iN (x.1.2.2.zip x.2.2.2))) (flo n o) d st sm f = some (flo n (fun f => o f + legAdd x.1 x.2 f), d', st', sm', f') ∧ Tab d' st' sm' f' := by
 obtain ⟨_, h1, h2, h3⟩ := h
 obtain ⟨n1, n2, hl⟩ := sides_nodup (w' := x.2.2.2) h1
 have h16 := h2.2.1
 obtain ⟨d', st', sm', f', e, hT'⟩ := counter_ok hT ho hk h3 (mi := mN (x.1.2.2.zip x.2.2.2)) (it := iN (x.1.2.2.zip x.2.2.2)) (by omega) n1 n2
  (fun f hf => by obtain ⟨y, hy, e, _⟩ := mN_mem hf; have := h2.2.2 _ (zip_fst hy); omega) (fun f hf => by obtain ⟨y, hy, e, _⟩ := iN_mem hf; have := h2.2.2 _ (zip_fst hy); omega)
 refine ⟨d', st', sm', f', ?_, hT'⟩
 rw [e]
 congr 2
 refine flo_congr fun f _ => ?_
 simp only [addO, legAdd, hno, Bool.false_eq_true, if_false]
 split <;> split <;> grind
def treeAdd (t : List NODE) (row other : List CELL) (T : TR) (f : Nat) : Rat := lsum (((legsT t row T []).zip (legsT t other T [])).map fun x => legAdd x.1 x.2 f)
def oneV (m : MODEL) (row other : List CELL) (f : Nat) : Rat := rsum (fun i => treeAdd (treeAt m i) row other (treeOf (treeAt m i)) f) m.2.length
def zsum (Z : List LP) (f : Nat) : Rat := lsum (Z.map fun x => legAdd x.1 x.2 f)
theorem zsum_step {Z : List LP} {i : Nat} (h : i < Z.length) (f : Nat) : zsum (Z.take (i + 1)) f = zsum (Z.take i) f + legAdd Z[i].1 Z[i].2 f := by
 have := lsum_take_succ (l := Z.map fun x => legAdd x.1 x.2 f) (i := i) (by simpa using h)
 rw [← List.map_take, ← List.map_take] at this
 rw [zsum, this, zsum]; simp
theorem zsum_sz {Z : List LP} {n : Nat} (hz : ∀ x ∈ Z, LpOk n x) (hl : Z.length ≤ 65536) (f : Nat) : SzQ (zsum Z f) 4700000 := by
 have := lsum_sz (l := Z.map fun x => legAdd x.1 x.2 f) (k := 70) (fun x hx => by
  obtain ⟨s, hs, rfl⟩ := List.mem_map.1 hx
  exact legAdd_sz (hz s hs) f)
 rw [List.length_map] at this
 exact this.mono (by have := Nat.mul_le_mul_right 71 hl; omega)
theorem shpA_len {x y : AL} (h : shpA x = shpA y) : x.2.2.length = y.2.2.length ∧ x.2.1 = y.2.1 ∧ shp x.2.2 = shp y.2.2 := by
 simp only [shpA, Prod.mk.injEq] at h
 exact ⟨by have := congrArg List.length h.2.2; simpa [shp] using this, h.2.1, h.2.2⟩
theorem legs_loop {n k : Nat} {o : Nat → Rat} {row other : List CELL} {tr : List (List NODE)} {c1 c2 : Int} {A B : List AL} {d st sm : Int} {f : List WH} (hT : Tab d st sm f)
  (hab : A.length = B.length) (hz : ∀ x ∈ A.zip B, LpOk n x) (hl : A.length ≤ 65536) (ho : ∀ f, f < n → SzQ (o f) k) (hk : k < 100000000) :
  ∃ d' st' sm' f', lp versus_one_s8 K0 ((row, other, A.map encL, B.map encL, tr, c1, c2, ((A.map encL).length : Int), 0, ()), ((flo n o, ()), (d, st, sm, f, ()), ())) =
   some ((row, other, tr, c1, c2, ()), ((flo n (fun f => o f + zsum (A.zip B) f), ()), (d', st', sm', f', ()), ())) ∧ Tab d' st' sm' f' := by
 obtain ⟨Z, eZ⟩ : ∃ Z, Z = A.zip B := ⟨_, rfl⟩
 have zl : Z.length = A.length := by rw [eZ, List.length_zip]; omega
 have zg : ∀ i (hi : i < A.length), Z[i]'(by omega) = (A[i], B[i]'(by omega)) := by intro i hi; subst eZ; simp
 rw [← eZ] at hz ⊢
 obtain ⟨r, ⟨d', st', sm', f', hr, hT'⟩, e⟩ := lp_inv (step := versus_one_s8)
  (fun i v => ∃ d st sm f, v = ((row, other, A.map encL, B.map encL, tr, c1, c2, ((A.map encL).length : Int), (i : Int), ()), ((flo n (fun f => o f + zsum (Z.take i) f), ()), (d, st, sm, f, ()), ())) ∧ Tab d st sm f)
  (fun r => ∃ d' st' sm' f', r = ((row, other, tr, c1, c2, ()), ((flo n (fun f => o f + zsum Z f), ()), (d', st', sm', f', ()), ())) ∧ Tab d' st' sm' f') A.length
  (v := ((row, other, A.map encL, B.map encL, tr, c1, c2, ((A.map encL).length : Int), 0, ()), ((flo n o, ()), (d, st, sm, f, ()), ())))
  ⟨d, st, sm, f, by
   have : (fun f => o f + zsum (Z.take 0) f) = o := by funext f; simp [zsum, lsum, Rat.add_zero]
   rw [this]; rfl, hT⟩ (by omega) (by
  rintro i v hi ⟨d, st, sm, f, rfl, hT⟩
  have d0 : (i : Int) < ((A.map encL).length : Int) := by rw [List.length_map]; omega
  have d1 : (0 : Int) ≤ (i : Int) := by omega
  have d2 : (i : Int) < ((B.map encL).length : Int) := by rw [List.length_map]; omega
  have gA : (A.map encL)[i]? = some (encL A[i]) := by simp [hi]
  have gB : (B.map encL)[i]? = some (encL (B[i]'(by omega))) := by
   have : i < B.length := by omega
   simp [this]
  have hlp := hz _ (List.getElem_mem (show i < Z.length by omega))
  have eZi := zg i hi
  have hss := shpA_len hlp.1
  have h16 := hlp.2.2.1.2.1
  have hs := sides_ok (x := (Z[i]'(by omega)).1) (y := (Z[i]'(by omega)).2) hss.1 (by omega)
  have hstep := zsum_step (Z := Z) (i := i) (by omega)
  have ho' : ∀ f, f < n → SzQ (o f + zsum (Z.take i) f) (k + 4700000 + 1) := fun f hf => (ho f hf).add (zsum_sz (fun x hx => hz x (List.mem_of_mem_take hx)) (by simp; omega) f)
  have eA : A[i] = (Z[i]'(by omega)).1 := by rw [eZi]
  have eB : B[i]'(by omega) = (Z[i]'(by omega)).2 := by rw [eZi]
  cases hno : nN ((Z[i]'(by omega)).1.2.2.zip (Z[i]'(by omega)).2.2.2) with
  | true =>
   refine ⟨_, ⟨d, st, sm, f, rfl, hT⟩, fun g => ?_⟩
   rw [versus_one_s8, cnd d0, cnd2 d1 d0, Int.toNat_natCast, gA, Option.bind_some, cnd2 d1 d2, gB, Option.bind_some, eA, eB, hs, hno, if_pos rfl, Option.bind_some]
   dsimp only
   rw [cond_false, iadd1 (by omega)]
   have : flo n (fun f => o f + zsum (Z.take (i + 1)) f) = flo n (fun f => o f + zsum (Z.take i) f) := flo_congr fun f _ => by
    rw [hstep f, legAdd, if_pos hno, Rat.add_zero]
   rw [this]; rfl
  | false =>
   obtain ⟨d', st', sm', f', hc, hT'⟩ := leg_ok (o := fun f => o f + zsum (Z.take i) f) hT hlp hno ho' (by omega)
   refine ⟨_, ⟨d', st', sm', f', rfl, hT'⟩, fun g => ?_⟩
   have ev : (encL (Z[i]'(by omega)).1).2.1 = canQ (Z[i]'(by omega)).1.2.1 := rfl
   rw [versus_one_s8, cnd d0, cnd2 d1 d0, Int.toNat_natCast, gA, Option.bind_some, cnd2 d1 d2, gB, Option.bind_some, eA, eB, hs, hno, if_neg (by decide), Option.bind_some]
   dsimp only
   rw [cond_true, cnd2 d1 d0, Option.bind_some, ev, hc, Option.bind_some, iadd1 (by omega)]
   have : flo n (fun f => o f + zsum (Z.take (i + 1)) f) = flo n (fun f => o f + zsum (Z.take i) f + legAdd (Z[i]'(by omega)).1 (Z[i]'(by omega)).2 f) := flo_congr fun f _ => by
    rw [hstep f, Rat.add_assoc]
   rw [this]; rfl) (by
  rintro v ⟨d, st, sm, f, rfl, hT⟩
  refine ⟨_, ⟨d, st, sm, f, rfl, hT⟩, fun g => ?_⟩
  rw [versus_one_s8, cnd' (by rw [List.length_map]; omega), List.take_of_length_le (by omega)])
 exact ⟨d', st', sm', f', by rw [e, hr], hT'⟩
theorem pair_ok {t : List NODE} {row other : List CELL} {T : TR} {n : Nat} (h1 : ∀ x ∈ legsT t row T [], WSz x.2.2 16 n ∧ SzQ x.2.1 4) : (legsT t row T []).length = (legsT t other T []).length ∧ ∀ x ∈ (legsT t row T []).zip (legsT t other T []), LpOk n x := by
 have hl : (legsT t row T []).length = (legsT t other T []).length := by rw [legsT_len, legsT_len]
 refine ⟨hl, fun x hx => ?_⟩
 obtain ⟨i, hi, rfl⟩ := List.mem_iff_getElem.1 hx
 have hi1 : i < (legsT t row T []).length := by rw [List.length_zip] at hi; omega
 have hs := legs_shp (t := t) (row := row) (other := other) T (w := []) (w' := []) rfl
 have hm := List.getElem_mem hi1
 refine ⟨?_, ?_, ?_⟩
 · have := congrArg (fun l => l[i]?) hs
   simp only [List.getElem?_map, List.getElem?_eq_getElem hi1, List.getElem?_eq_getElem (show i < (legsT t other T []).length by omega), Option.map_some, Option.some.injEq] at this
   simpa using this
 · have := legs_sort T (w := []) (by simp [SortA]) _ hm
   simpa using this
 · have := h1 _ hm
   simpa using this
theorem treeAdd_sz {m : MODEL} {row other : List CELL} (h : Askd m row) {i : Nat} (hi : i < m.2.length) (f : Nat) : SzQ (treeAdd (treeAt m i) row other (treeOf (treeAt m i)) f) 4700000 := by
 have hg := Legs_ok (t := m.2[i]) (h.mt _ (List.getElem_mem hi)) (h.ms _ (List.getElem_mem hi)) h.cs (h.goodT hi) (by have := h.good.1.2.1; have := h.len; omega)
 rw [treeAt_get hi]
 obtain ⟨p1, p2⟩ := pair_ok (other := other) hg.2.1
 exact zsum_sz p2 (by rw [List.length_zip]; have := hg.2.2; omega) f
theorem oneV_sz {m : MODEL} {row other : List CELL} (h : Askd m row) {i : Nat} (hi : i ≤ m.2.length) (f : Nat) : SzQ (rsum (fun i => treeAdd (treeAt m i) row other (treeOf (treeAt m i)) f) i) 30000000 := by
 have := rsum_sz (f := fun i => treeAdd (treeAt m i) row other (treeOf (treeAt m i)) f) (k := 4700000) (n := i) (fun j hj => treeAdd_sz h (by omega) f)
 exact this.mono (by have := h.ml; have : i ≤ 6 := by omega
                     have := Nat.mul_le_mul_right 4700001 this; omega)
theorem vone_ok {m : MODEL} {row other : List CELL} (h : Askd m row) (h' : Askd m other) {d st sm : Int} {f : List WH} (hT : Tab d st sm f) :
  ∃ d' st' sm' f', versus_one m row other d st sm f = some (flo row.length (oneV m row other), d', st', sm', f') ∧ Tab d' st' sm' f' := by
 have hn := h.len
 have hn' := h'.len
 have h64 := h.good.1.2.1
 have ml := h.ml
 obtain ⟨r, ⟨d', st', sm', f', hr, hT'⟩, e⟩ := lp_inv (step := versus_one_s3)
  (fun i v => ∃ d st sm f, v = ((row, other, m.2, (m.2.length : Int), (i : Int), ()), ((flo row.length (fun f => rsum (fun i => treeAdd (treeAt m i) row other (treeOf (treeAt m i)) f) i), ()), (d, st, sm, f, ()), ())) ∧ Tab d st sm f)
  (fun r => ∃ d' st' sm' f', r = ((), ((flo row.length (oneV m row other), ()), (d', st', sm', f', ()), ())) ∧ Tab d' st' sm' f') m.2.length
  (v := ((row, other, m.2, (m.2.length : Int), 0, ()), ((flo row.length (fun _ => 0), ()), (d, st, sm, f, ()), ())))
  ⟨d, st, sm, f, rfl, hT⟩ (by omega) (by
  rintro i v hi ⟨d, st, sm, f, rfl, hT⟩
  have d0 : (i : Int) < (m.2.length : Int) := by omega
  have d1 : (0 : Int) ≤ (i : Int) := by omega
  have l1 := Legs_ok (t := m.2[i]) (h.mt _ (List.getElem_mem hi)) (h.ms _ (List.getElem_mem hi)) h.cs (h.goodT hi) (by omega)
  have l2 := Legs_ok (t := m.2[i]) (h.mt _ (List.getElem_mem hi)) (h.ms _ (List.getElem_mem hi)) h'.cs (h'.goodT hi) (by omega)
  obtain ⟨p1, p2⟩ := pair_ok (other := other) l1.2.1
  obtain ⟨d', st', sm', f', hL, hT'⟩ := legs_loop (row := row) (other := other) (tr := m.2) (c1 := (m.2.length : Int)) (c2 := (i : Int)) (o := fun f => rsum (fun i => treeAdd (treeAt m i) row other (treeOf (treeAt m i)) f) i) hT p1 p2 l1.2.2 (fun f _ => oneV_sz (i := i) h (by omega) f) (by decide)
  refine ⟨_, ⟨d', st', sm', f', rfl, hT'⟩, fun g => ?_⟩
  rw [versus_one_s3, cnd d0, cnd d1, Int.toNat_natCast, List.getElem?_eq_getElem hi, Option.bind_some, l1.1, Option.bind_some, l2.1, Option.bind_some]
  dsimp only
  rw [hL, Option.bind_some]
  dsimp only
  rw [iadd1 (by omega)]
  have : flo row.length (fun f => rsum (fun i => treeAdd (treeAt m i) row other (treeOf (treeAt m i)) f) (i + 1)) = flo row.length (fun f => rsum (fun i => treeAdd (treeAt m i) row other (treeOf (treeAt m i)) f) i + zsum ((legsT m.2[i] row (treeOf m.2[i]) []).zip (legsT m.2[i] other (treeOf m.2[i]) [])) f) := flo_congr fun f _ => by
   rw [rsum, treeAt_get hi]; rfl
  rw [this]; rfl) (by
  rintro v ⟨d, st, sm, f, rfl, hT⟩
  refine ⟨_, ⟨d, st, sm, f, rfl, hT⟩, fun g => ?_⟩
  rw [versus_one_s3, cnd' (by omega)]; rfl)
 refine ⟨d', st', sm', f', ?_, hT'⟩
 rw [versus_one, show m.1 = ((row.length : Nat) : Int) by omega, vzeros_ok (by omega), Option.bind_some, e, hr]; rfl
def whyR (b : Bool) (m : MODEL) (row : List CELL) : Int := if b then (if (row.length : Int) = m.1 then 0 else 14) else 1
def whyV (b : Bool) (m : MODEL) (row : List CELL) (l : List (List CELL)) : Int :=
 if whyR b m row = 0 then (if ∀ r ∈ l, ((r.length : Nat) : Int) = m.1 then (if l.length = 0 then 15 else 0) else 14) else whyR b m row
theorem whyR_ok {b : Bool} {m : MODEL} (h : valid_Ok m = some b) (row : List CELL) : route_Fits m row = some (whyR b m row) ∧ dendronlaw10_Why m row = some (whyR b m row) := by
 have : route_fits m row = some (whyR b m row) := by
  rw [route_fits, h, Option.bind_some, whyR]
  cases b with
  | false => rfl
  | true =>
   rw [Bool.not_true, cond_false, if_pos rfl]
   by_cases e : (row.length : Int) = m.1
   · rw [decide_eq_true e, if_pos e]; rfl
   · rw [decide_eq_false e, if_neg e]; rfl
 exact ⟨by rw [route_Fits, this]; rfl, this⟩
theorem whyV_ok {b : Bool} {m : MODEL} (h : valid_Ok m = some b) (row : List CELL) {l : List (List CELL)} (hl : l.length < 1000000000) :
   versus_fits m row l = some (whyV b m row l) ∧ dendronlaw17_why m row l = some (whyV b m row l) := by
 obtain ⟨r1, r2⟩ := whyR_ok h row
 obtain ⟨mf, mt⟩ := m
 unfold whyV
 by_cases h0 : whyR b (mf, mt) row = 0
 · rw [if_pos h0]
   rw [h0] at r1 r2
   have hb : b = true := by cases b with
     | true => rfl
     | false => exact absurd h0 (by rw [whyR, if_neg (by decide)]; decide)
   subst hb
   have k1 := lp_all (step := versus_fits_s5) (fun i => ((l, l, (l.length : Int), (i : Int), ()), ((mf, mt, ()), ()))) l.length (fun i => ∀ h : i < l.length, ((l[i].length : Nat) : Int) = mf) (fun _ => .inr ((14, ()), ())) (.inl ((l, ()), ())) (by omega) (by
     intro i hi
     have d0 : (i : Int) < (l.length : Int) := by omega
     have d1 : (0 : Int) ≤ (i : Int) := by omega
     have st : ∀ g, versus_fits_s5 g ((l, l, (l.length : Int), (i : Int), ()), ((mf, mt, ()), ())) = bif (!decide (whyR true (mf, mt) l[i] = 0)) then some (.inr ((whyR true (mf, mt) l[i], ()), ())) else g ((l, l, (l.length : Int), ((i + 1 : Nat) : Int), ()), ((mf, mt, ()), ())) := by
       intro g
       rw [versus_fits_s5, cnd d0, cnd d1, Int.toNat_natCast, List.getElem?_eq_getElem hi, Option.bind_some, (whyR_ok h l[i]).1, Option.bind_some, iadd1 (by omega)]
       rfl
     by_cases e : ((l[i].length : Nat) : Int) = mf
     · have : whyR true (mf, mt) l[i] = 0 := by rw [whyR, if_pos rfl, if_pos e]
       exact .inl ⟨fun _ => e, fun g => by rw [st g, this]; rfl⟩
     · have : whyR true (mf, mt) l[i] = 14 := by rw [whyR, if_pos rfl, if_neg e]
       exact .inr ⟨fun hh => e (hh hi), fun g => by rw [st g, this]; rfl⟩) (by
     intro g
     rw [versus_fits_s5, cnd' (by omega)])
   have k2 := lp_all (step := dendronlaw17_why_s4) (fun i => ((l, (i : Int), ()), ((mf, mt, ()), ()))) l.length (fun i => ∀ h : i < l.length, ((l[i].length : Nat) : Int) = mf) (fun _ => .inr ((14, ()), ())) (.inl ((l, ()), ())) (by omega) (by
     intro i hi
     have d0 : (i : Int) < (l.length : Int) := by omega
     have d1 : (0 : Int) ≤ (i : Int) := by omega
     by_cases e : ((l[i].length : Nat) : Int) = mf
     · exact .inl ⟨fun _ => e, fun g => by
         rw [dendronlaw17_why_s4, cnd d0, cnd d1, Int.toNat_natCast, List.getElem?_eq_getElem hi, Option.bind_some, decide_eq_true e, Bool.not_true, cond_false, iadd1 (by omega)]; rfl⟩
     · exact .inr ⟨fun hh => e (hh hi), fun g => by
         rw [dendronlaw17_why_s4, cnd d0, cnd d1, Int.toNat_natCast, List.getElem?_eq_getElem hi, Option.bind_some, decide_eq_false e, Bool.not_false, cond_true]⟩) (by
     intro g
     rw [dendronlaw17_why_s4, cnd' (by omega)])
   have k1 : (_ ∧ lp versus_fits_s5 K0 ((l, l, (l.length : Int), 0, ()), ((mf, mt, ()), ())) = _) ∨ ∃ i, _ ∧ _ ∧ lp versus_fits_s5 K0 ((l, l, (l.length : Int), 0, ()), ((mf, mt, ()), ())) = _ := k1
   have k2 : (_ ∧ lp dendronlaw17_why_s4 K0 ((l, 0, ()), ((mf, mt, ()), ())) = _) ∨ ∃ i, _ ∧ _ ∧ lp dendronlaw17_why_s4 K0 ((l, 0, ()), ((mf, mt, ()), ())) = _ := k2
   rw [versus_fits, r1, Option.bind_some, dendronlaw17_why, r2, Option.bind_some]
   dsimp only
   rw [show (!decide ((0 : Int) = 0)) = false by decide, cond_false, cond_false]
   by_cases ha : ∀ r ∈ l, ((r.length : Nat) : Int) = mf
   · rw [if_pos ha]
     have e1 : lp versus_fits_s5 K0 ((l, l, (l.length : Int), 0, ()), ((mf, mt, ()), ())) = some (.inl ((l, ()), ())) := by
       rcases k1 with ⟨_, e⟩ | ⟨i, hi, hn, _⟩
       · exact e
       · exact absurd (fun _ => ha _ (List.getElem_mem hi)) hn
     have e2 : lp dendronlaw17_why_s4 K0 ((l, 0, ()), ((mf, mt, ()), ())) = some (.inl ((l, ()), ())) := by
       rcases k2 with ⟨_, e⟩ | ⟨i, hi, hn, _⟩
       · exact e
       · exact absurd (fun _ => ha _ (List.getElem_mem hi)) hn
     rw [e1, e2]
     simp only [Option.bind_some]
     by_cases hz : l.length = 0
     · rw [cnd (by omega), if_pos hz]; exact ⟨rfl, rfl⟩
     · rw [cnd' (by omega), if_neg hz]; exact ⟨rfl, rfl⟩
   · rw [if_neg ha]
     have hno : ¬ ∀ i, i < l.length → ∀ h : i < l.length, ((l[i].length : Nat) : Int) = mf := fun hh => ha fun r hr => by
       obtain ⟨i, hi, rfl⟩ := List.mem_iff_getElem.1 hr
       exact hh i hi hi
     rcases k1 with ⟨h1, _⟩ | ⟨_, _, _, e1⟩
     · exact absurd h1 hno
     · rcases k2 with ⟨h1, _⟩ | ⟨_, _, _, e2⟩
       · exact absurd h1 hno
       · rw [e1, e2]; exact ⟨rfl, rfl⟩
 · rw [if_neg h0]
   refine ⟨by rw [versus_fits, r1, Option.bind_some, decide_eq_false h0]; rfl, by rw [dendronlaw17_why, r2, Option.bind_some, decide_eq_false h0]; rfl⟩
theorem lsum_zero {l : List Rat} (h : ∀ x ∈ l, x = 0) : lsum l = 0 := by
 induction l with
 | nil => rfl
 | cons x l ih => rw [lsum, h x List.mem_cons_self, ih fun y hy => h y (List.mem_cons_of_mem _ hy), Rat.add_zero]
theorem rsum_zeros {f : Nat → Rat} {n : Nat} (h : ∀ i, i < n → f i = 0) : rsum f n = 0 := by
 induction n with
 | zero => rfl
 | succ n ih => rw [rsum, ih fun i hi => h i (by omega), h n (by omega), Rat.add_zero]
theorem mN_cons (p p' : AP) (z : List PP) : mN ((p, p') :: z) = if p.2.2 && !p'.2.2 then p.1 :: mN z else mN z := by
 simp only [mN, List.filterMap_cons]; cases p.2.2 <;> cases p'.2.2 <;> rfl
theorem iN_cons (p p' : AP) (z : List PP) : iN ((p, p') :: z) = if !p.2.2 && p'.2.2 then p.1 :: iN z else iN z := by
 simp only [iN, List.filterMap_cons]; cases p.2.2 <;> cases p'.2.2 <;> rfl
theorem nN_cons (p p' : AP) (z : List PP) : nN ((p, p') :: z) = ((!p.2.2 && !p'.2.2) || nN z) := by simp only [nN, List.any_cons, bothNo]
theorem law17_awake_ok : dendronlaw17_awake = some true := by decide +kernel
abbrev BA := Rat × Rat
def pick (x : BA) (b : Bool) : Rat := if b then x.2 else x.1
theorem rsum_addF (f g : Nat → Rat) (n : Nat) : rsum (fun i => f i + g i) n = rsum f n + rsum g n := by
 induction n with
 | zero => simp [rsum, Rat.add_zero]
 | succ n ih => rw [rsum, rsum, rsum, ih]; grind
abbrev FP := Nat × BA
def prodP (P : List FP) (S : Nat) : Rat := lprod (P.map fun p => pick p.2 (S.testBit p.1))
def askT (t : List NODE) (f : Nat) : Bool := t.any fun n => !n.1 && decide (n.2.1 = (f : Int))
def usedQ (m : MODEL) (f : Nat) : Bool := m.2.any fun t => askT t f
def usedL (m : MODEL) : List Bool := (List.range m.1.toNat).map (usedQ m)
theorem usedL_len (m : MODEL) : (usedL m).length = m.1.toNat := by simp [usedL]
theorem usedL_get {m : MODEL} {f : Nat} (h : f < m.1.toNat) : (usedL m)[f]? = some (usedQ m f) := by simp [usedL, h]
theorem Used_ok {m : MODEL} (hv : valid_Ok m = some true) (hg : Good m) : valid_Used m = some (usedL m) := by
 obtain ⟨f0, f1, f2, f3⟩ := hg.1
 have hc : (decide (0 ≤ m.1) && (decide (m.1 ≤ 64) && (decide (m.2.length ≤ 64) && m.2.all fun t => decide (t.length ≤ 255) && t.all fun n => n.1 || (decide (0 ≤ n.2.1) && decide (n.2.1 < m.1))))) = true := by
  simp only [Bool.and_eq_true, decide_eq_true_eq, List.all_eq_true, Bool.or_eq_true]
  refine ⟨f0, f1, f2, fun t ht => ?_⟩
  obtain ⟨i, hi, rfl⟩ := List.mem_iff_getElem.1 ht
  refine ⟨(f3 i hi).2.1, fun n hn => ?_⟩
  obtain ⟨j, hj, rfl⟩ := List.mem_iff_getElem.1 hn
  cases hl : nLeaf m.2[i][j] with
  | true => exact .inl hl
  | false =>
   have := hg.ranges hi j hj hl
   exact .inr ⟨this.1, this.2.1⟩
 rw [valid_Used, hv, Option.bind_some, Bool.not_true, cond_false, hc, cond_true]
 rfl
theorem unasked_split {t : List NODE} {g : Int} {i f : Nat} {l r : TR} (h : Is t g (.split i l r)) (ha : askT t f = false) : (nFeat (nodeAt t i)).toNat ≠ f := by
 obtain ⟨h1, h2, f0, f1, _⟩ := h
 intro e
 rw [nodeAt_get h1] at e
 have : askT t f = true := by
  rw [askT, List.any_eq_true]
  refine ⟨t[i], List.getElem_mem h1, ?_⟩
  have h2 : t[i].1 = false := h2
  have e2 : t[i].2.1 = (f : Int) := by show nFeat t[i] = _; omega
  rw [h2, decide_eq_true e2]; rfl
 rw [ha] at this
 cases this
theorem unused_tree {m : MODEL} {f : Nat} (h : usedQ m f = false) {t : List NODE} (ht : t ∈ m.2) : askT t f = false := by
 rw [usedQ, List.any_eq_false] at h
 simpa using h t ht
theorem rsum_at (q : Rat) (j n : Nat) : rsum (fun f => if j = f then q else 0) n = if j < n then q else 0 := by
 induction n with
 | zero => rw [if_neg (by omega)]; rfl
 | succ n ih =>
  rw [rsum, ih]
  by_cases h : j < n
  · rw [if_pos h, if_neg (by omega), if_pos (by omega), Rat.add_zero]
  · by_cases e : j = n
    · rw [if_neg h, if_pos e, if_pos (by omega), Rat.zero_add]
    · rw [if_neg h, if_neg e, if_neg (by omega), Rat.add_zero]
theorem vals_map {g : Nat → Rat} {n i : Nat} (h : i < n) : vals ((List.range n).map fun f => canQ (g f)) i = g i := by
 unfold vals
 simp [h, rv_canQ]
def cutRowsN (n : Nat) (l : List (List CELL)) : List (List CELL) := (l.take n).map fun r => (r.take 70).map cutCell
theorem All09n_ok (n : Nat) (hn : n ≤ 1000) (l : List (List CELL)) (hl : l.length ≤ 9223372036854775807) (hr : ∀ r ∈ l, r.length ≤ 9223372036854775807) : dendronlaw09_All l (n : Int) 70 = some (cutRowsN n l) := by
 have key := lp_up (step := dendronlaw09_All_s3) (fun i => ((l, (n : Int), 70, (l.take i).map (fun r => (r.take 70).map cutCell), (i : Int), ()), ())) (min l.length n) (r := ((cutRowsN n l, ()), ())) (by omega) (by
  intro g i hi
  have hi1 : i < l.length := by omega
  have d0 : (i : Int) < ((l.length : Nat) : Int) := by omega
  have d1 : (0 : Int) ≤ (i : Int) := by omega
  have d2 : (i : Int) < (n : Int) := by omega
  have h9 : dendronlaw09_Few l[i] 70 = some ((l[i].take 70).map cutCell) := Few09_ok l[i] 70 (hr _ (List.getElem_mem hi1)) (by decide)
  have d4 : (((l.take i).map (fun r => (r.take 70).map cutCell)).length + 1) * 24 ≤ 140737488355328 := by simp; omega
  rw [dendronlaw09_All_s3, cnd d0, cnd d2, cnd d1, Int.toNat_natCast, List.getElem?_eq_getElem hi1, Option.bind_some, h9, Option.bind_some, blt d4, cond_true, iadd1 (by omega), map_take_succ _ hi1]
  rfl) (by
  intro g
  by_cases h : l.length ≤ n
  · rw [dendronlaw09_All_s3, cnd' (by omega), Nat.min_eq_left h, List.take_of_length_le (Nat.le_refl _), cutRowsN, List.take_of_length_le h]
  · rw [dendronlaw09_All_s3, cnd (by omega), cnd' (by omega), Nat.min_eq_right (by omega), cutRowsN])
 have key : lp dendronlaw09_All_s3 K0 ((l, (n : Int), 70, [], 0, ()), ()) = _ := key
 rw [dendronlaw09_All, key]; rfl
theorem cutRowsN_sz (n : Nat) (l : List (List CELL)) : ∀ r ∈ cutRowsN n l, CSz r 9 := by
 intro r hr
 obtain ⟨x, _, rfl⟩ := List.mem_map.1 hr
 exact cutRow_sz _
theorem cutRowsN_len (n : Nat) (l : List (List CELL)) : (cutRowsN n l).length ≤ n := by simp [cutRowsN]; omega
def rowAt (l : List (List CELL)) (i : Nat) : List CELL := (l[i]?).getD []
theorem rowAt_get {l : List (List CELL)} {i : Nat} (h : i < l.length) : rowAt l i = l[i] := by simp [rowAt, h]
structure AskB (m : MODEL) (row : List CELL) (l : List (List CELL)) : Prop where
 a : Askd m row
 b : ∀ r ∈ l, Askd m r
 ll : l.length ≤ 8
 ne : l.length ≠ 0
theorem AskB.at {m : MODEL} {row : List CELL} {l : List (List CELL)} (h : AskB m row l) {i : Nat} (hi : i < l.length) : Askd m l[i] := h.b _ (List.getElem_mem hi)
def backV (m : MODEL) (row : List CELL) (l : List (List CELL)) (k : Nat) (f : Nat) : Rat := rsum (fun i => oneV m row (rowAt l i) f) k
theorem backV_sz {m : MODEL} {row : List CELL} {l : List (List CELL)} (h : AskB m row l) {k : Nat} (hk : k ≤ l.length) (f : Nat) : SzQ (backV m row l k f) 300000000 := by
 have := rsum_sz (f := fun i => oneV m row (rowAt l i) f) (k := 30000000) (n := k) (fun j hj => oneV_sz (other := rowAt l j) h.a (Nat.le_refl _) f)
 exact this.mono (by have := h.ll
                     have := Nat.mul_le_mul_right 30000001 (show k ≤ 8 by omega); omega)
def part1 (l : List (List CELL)) : Rat := ((1 : Int) : Rat) / ((l.length : Int) : Rat)
theorem part1_sz {l : List (List CELL)} (h : l.length ≤ 8) : SzQ (part1 l) 2 := (SzQ.int (z := 1) (by decide)).div (SzQ.int (by omega))
theorem vadd_loop {n : Nat} {row : List CELL} {l l' : List (List CELL)} {c1 c2 : Int} {mf : Int} {mt : List (List NODE)} {d st sm : Int} {f : List WH} {o p : Nat → Rat} {k j : Nat} (hn : n ≤ 1000)
  (ho : ∀ f, f < n → SzQ (o f) k) (hp : ∀ f, f < n → SzQ (p f) j) (hk : k < 1000000000) (hj : j < 1000000000) :
  lp versus_Values_s10 K0 ((row, l, flo n o, l', c1, c2, flo n p, ((flo n p).length : Int), 0, ()), ((mf, mt, ()), (d, st, sm, f, ()), ())) = some ((row, l, flo n (fun f => o f + p f), l', c1, c2, ()), ((mf, mt, ()), (d, st, sm, f, ()), ())) := by
 have pl := flo_len n p
 have key := lp_up (step := versus_Values_s10) (fun i => ((row, l, flo n (fun f => if f < i then o f + p f else o f), l', c1, c2, flo n p, ((flo n p).length : Int), (i : Int), ()), ((mf, mt, ()), (d, st, sm, f, ()), ()))) n (r := ((row, l, flo n (fun f => o f + p f), l', c1, c2, ()), ((mf, mt, ()), (d, st, sm, f, ()), ()))) (by omega) (by
  intro g i hi
  have ol := flo_len n (fun f => if f < i then o f + p f else o f)
  have d0 : (i : Int) < ((flo n p).length : Int) := by omega
  have d1 : (0 : Int) ≤ (i : Int) := by omega
  have d2 : (i : Int) < ((flo n (fun f => if f < i then o f + p f else o f)).length : Int) := by omega
  have ha := ratio_Add_ok ((ho i hi).sm (by omega)) ((hp i hi).sm (by omega))
  rw [rv_canQ, rv_canQ] at ha
  rw [versus_Values_s10, cnd d0, cnd2 d1 d0, Int.toNat_natCast, flo_get _ hi, Option.bind_some, cnd2 d1 d2, flo_get _ hi, Option.bind_some, if_neg (Nat.lt_irrefl i), ha, Option.bind_some, cnd2 d1 d2, Option.bind_some, iadd1 (by omega)]
  rw [flo_set (p := fun f => if f < i + 1 then o f + p f else o f) (by rw [if_pos (by omega)]) (fun f hf => by
   by_cases h : f < i
   · rw [if_pos (by omega), if_pos h]
   · rw [if_neg (by omega), if_neg h])]
  rfl) (by
  intro g
  rw [versus_Values_s10, cnd' (by omega)]
  rw [flo_congr (o := fun f => if f < n then o f + p f else o f) (p := fun f => o f + p f) (fun f hf => by rw [if_pos hf])])
 have e : flo n (fun f => if f < 0 then o f + p f else o f) = flo n o := flo_congr fun f _ => by rw [if_neg (by omega)]
 rw [e] at key
 exact key
theorem vmul_loop {n : Nat} {l : List (List CELL)} {o : Nat → Rat} {k : Nat} (hn : n ≤ 1000) (hl : l.length ≤ 8) (ho : ∀ f, f < n → SzQ (o f) k) (hk : k < 1000000000) :
  lp versus_Values_s16 K0 ((l, flo n o, ((flo n o).length : Int), 0, ()), ()) = some ((flo n (fun f => o f * part1 l), ()), ()) := by
 have pl := flo_len n o
 have key := lp_up (step := versus_Values_s16) (fun i => ((l, flo n (fun f => if f < i then o f * part1 l else o f), ((flo n o).length : Int), (i : Int), ()), ())) n (r := ((flo n (fun f => o f * part1 l), ()), ())) (by omega) (by
  intro g i hi
  have ol := flo_len n (fun f => if f < i then o f * part1 l else o f)
  have d0 : (i : Int) < ((flo n o).length : Int) := by omega
  have d1 : (0 : Int) ≤ (i : Int) := by omega
  have d2 : (i : Int) < ((flo n (fun f => if f < i then o f * part1 l else o f)).length : Int) := by omega
  have hF : ratio_Frac 1 (l.length : Int) = some (canQ (part1 l)) := ratio_Frac_ok (by decide) (by decide) (by omega) (by omega)
  have ha := ratio_Mul_ok ((ho i hi).sm (by omega)) ((part1_sz hl).sm (by decide))
  rw [rv_canQ, rv_canQ] at ha
  rw [versus_Values_s16, cnd d0, cnd2 d1 d2, Int.toNat_natCast, flo_get _ hi, Option.bind_some, if_neg (Nat.lt_irrefl i), hF, Option.bind_some, ha, Option.bind_some, cnd2 d1 d2, Option.bind_some, iadd1 (by omega)]
  rw [flo_set (p := fun f => if f < i + 1 then o f * part1 l else o f) (by rw [if_pos (by omega)]) (fun f hf => by
   by_cases h : f < i
   · rw [if_pos (by omega), if_pos h]
   · rw [if_neg (by omega), if_neg h])]
  rfl) (by
  intro g
  rw [versus_Values_s16, cnd' (by omega)]
  rw [flo_congr (o := fun f => if f < n then o f * part1 l else o f) (p := fun f => o f * part1 l) (fun f hf => by rw [if_pos hf])])
 have e : flo n (fun f => if f < 0 then o f * part1 l else o f) = flo n o := flo_congr fun f _ => by rw [if_neg (by omega)]
 rw [e] at key
 exact key
theorem AskB.why {m : MODEL} {row : List CELL} {l : List (List CELL)} (h : AskB m row l) : valid_Ok m = some true ∧ whyV true m row l = 0 := by
 obtain ⟨b, h1, h2⟩ := Ok_ok (m := m) (by have := h.a.ml; omega) (fun t ht => by have := h.a.mt t ht; omega) h.a.ms (by decide)
 have hb : b = true := h2.2 h.a.good
 subst hb
 refine ⟨h1, ?_⟩
 rw [whyV, whyR, if_pos rfl, if_pos h.a.len, if_pos rfl, if_pos (fun r hr => (h.b r hr).len), if_neg h.ne]
theorem Values17_ok {m : MODEL} {row : List CELL} {l : List (List CELL)} (h : AskB m row l) : versus_Values m row l = some (flo row.length (fun f => backV m row l l.length f * part1 l), 0) := by
 obtain ⟨h1, h2⟩ := h.why
 have hll := h.ll
 have hw := (whyV_ok h1 row (l := l) (by omega)).1
 rw [h2] at hw
 have hlen := h.a.len
 have h64 := h.a.good.1.2.1
 obtain ⟨d, st, sm, f, hn, hT⟩ := New_ok
 obtain ⟨r, hr, e⟩ := lp_inv (step := versus_Values_s7)
  (fun i v => ∃ d st sm f, v = ((row, l, flo row.length (backV m row l i), l, (l.length : Int), (i : Int), ()), ((m.1, m.2, ()), (d, st, sm, f, ()), ())) ∧ Tab d st sm f)
  (fun r => r = ((l, flo row.length (backV m row l l.length), ()), ())) l.length
  (v := ((row, l, flo row.length (fun _ => 0), l, (l.length : Int), 0, ()), ((m.1, m.2, ()), (d, st, sm, f, ()), ())))
  ⟨d, st, sm, f, rfl, hT⟩ (by omega) (by
  rintro i v hi ⟨d, st, sm, f, rfl, hT⟩
  have d0 : (i : Int) < (l.length : Int) := by omega
  have d1 : (0 : Int) ≤ (i : Int) := by omega
  obtain ⟨d', st', sm', f', ho, hT'⟩ := vone_ok h.a (h.at hi) hT
  have hL := vadd_loop (n := row.length) (row := row) (l := l) (l' := l) (c1 := (l.length : Int)) (c2 := (i : Int)) (mf := m.1) (mt := m.2) (d := d') (st := st') (sm := sm') (f := f') (o := backV m row l i) (p := oneV m row l[i]) (by omega) (fun f _ => backV_sz h (by omega) f) (fun f _ => oneV_sz (other := l[i]) h.a (Nat.le_refl _) f) (by decide) (by decide)
  refine ⟨_, ⟨d', st', sm', f', rfl, hT'⟩, fun g => ?_⟩
  rw [versus_Values_s7, cnd d0, cnd d1, Int.toNat_natCast, List.getElem?_eq_getElem hi, Option.bind_some]
  show (versus_one m row l[i] d st sm f).bind _ = _
  rw [ho, Option.bind_some]
  dsimp only
  rw [hL, Option.bind_some]
  dsimp only
  rw [iadd1 (by omega)]
  have : flo row.length (backV m row l (i + 1)) = flo row.length (fun f => backV m row l i f + oneV m row l[i] f) := flo_congr fun f _ => by
   rw [backV, rsum, rowAt_get hi]; rfl
  rw [this]; rfl) (by
  rintro v ⟨d, st, sm, f, rfl, hT⟩
  refine ⟨_, rfl, fun g => ?_⟩
  rw [versus_Values_s7, cnd' (by omega)])
 have hM := vmul_loop (n := row.length) (l := l) (o := backV m row l l.length) (by omega) hll (fun f _ => backV_sz h (Nat.le_refl _) f) (by decide)
 rw [versus_Values, hw, Option.bind_some, show (!decide ((0 : Int) = 0)) = false by decide, cond_false, hn, Option.bind_some, show versus_zeros m.1 = some (flo row.length fun _ => 0) by rw [show m.1 = ((row.length : Nat) : Int) by omega]; exact vzeros_ok (by omega), Option.bind_some]
 dsimp only
 rw [e, hr, Option.bind_some]
 dsimp only
 rw [hM]; rfl
theorem Values17_bad {b : Bool} {m : MODEL} {row : List CELL} {l : List (List CELL)} (h : valid_Ok m = some b) (hl : l.length < 1000000000) (hw : whyV b m row l ≠ 0) : versus_Values m row l = some ([], whyV b m row l) := by
 rw [versus_Values, (whyV_ok h row hl).1, Option.bind_some, decide_eq_false hw]; rfl
theorem askB_of {m : MODEL} {row : List CELL} {l : List (List CELL)} (ms : MSz m 4) (ml : m.2.length ≤ 3) (mt : ∀ t ∈ m.2, t.length ≤ 15) (cs : CSz row 9) (ls : ∀ r ∈ l, CSz r 9) (ll : l.length ≤ 8) :
   ∃ b, valid_Ok m = some b ∧ (whyV b m row l = 0 → AskB m row l) := by
 obtain ⟨b, h1, h2⟩ := Ok_ok (m := m) (by omega) (fun t h => by have := mt t h; omega) ms (by decide)
 refine ⟨b, h1, fun hw => ?_⟩
 rw [whyV] at hw
 split at hw
 · rename_i h0
   have hb : b = true := by cases b with
     | true => rfl
     | false => exact absurd h0 (by rw [whyR, if_neg (by decide)]; decide)
   subst hb
   have hlen : (row.length : Int) = m.1 := by
     apply Classical.byContradiction
     intro hn
     rw [whyR, if_pos rfl, if_neg hn] at h0
     exact absurd h0 (by decide)
   split at hw
   · rename_i ha
     split at hw
     · exact absurd hw (by decide)
     · rename_i hz
       exact ⟨⟨h2.1 rfl, hlen, ms, by omega, mt, cs⟩, fun r hr => ⟨h2.1 rfl, ha r hr, ms, by omega, mt, ls r hr⟩, ll, hz⟩
   · exact absurd hw (by decide)
 · rename_i h0; exact absurd hw h0
def fly (n : Nat) (g : Nat → CELL) : List CELL := (List.range n).map g
theorem fly_len (n : Nat) (g : Nat → CELL) : (fly n g).length = n := by simp [fly]
theorem fly_get {n f : Nat} (g : Nat → CELL) (h : f < n) : (fly n g)[f]? = some (g f) := by simp [fly, h]
theorem fly_congr {n : Nat} {o p : Nat → CELL} (h : ∀ f, f < n → o f = p f) : fly n o = fly n p := List.map_congr_left fun f hf => h f (List.mem_range.1 hf)
theorem fly_self (l : List CELL) : fly l.length (cellAt l) = l := by
 apply List.ext_getElem?
 intro f
 by_cases hf : f < l.length
 · rw [fly_get _ hf, cellAt_get hf, List.getElem?_eq_getElem hf]
 · rw [List.getElem?_eq_none (by rw [fly_len]; omega), List.getElem?_eq_none (by omega)]
def mixC (row other : List CELL) (set : Nat) (i : Nat) : CELL := if set.testBit i then cellAt row i else cellAt other i
def mixR (row other : List CELL) (set : Nat) : List CELL := fly row.length (mixC row other set)
theorem mixR_len (row other : List CELL) (set : Nat) : (mixR row other set).length = row.length := fly_len _ _
theorem mean_part {x : Rat} {l : List (List CELL)} : x / ((l.length : Int) : Rat) = x * part1 l := by
 rw [part1, Rat.div_def, Rat.div_def]
 show _ = x * (1 * _)
 rw [Rat.one_mul]
def one0 (b : Bool) : Rat := if b then 1 else 0
def zF (x : PP) : FP := (x.1.1, (one0 x.2.2.2, one0 x.1.2.2))
def reachZ (z : List PP) (S : Nat) : Rat := prodP (z.map zF) S
theorem reachZ_nil (S : Nat) : reachZ [] S = 1 := rfl
theorem reachZ_cons (x : PP) (z : List PP) (S : Nat) : reachZ (x :: z) S = pick (one0 x.2.2.2, one0 x.1.2.2) (S.testBit x.1.1) * reachZ z S := rfl
theorem pick_and (a b c d : Bool) (t : Bool) : pick (one0 (b && d), one0 (a && c)) t = pick (one0 b, one0 a) t * pick (one0 d, one0 c) t := by
 cases a <;> cases b <;> cases c <;> cases d <;> cases t <;> simp [pick, one0]
theorem along_zip {f : Nat} {q : Rat} {ok ok' : Bool} {S : Nat} : ∀ {w w' : List AP}, shp w = shp w' → reachZ ((along f q ok w).zip (along f q ok' w')) S = reachZ (w.zip w') S * pick (one0 ok', one0 ok) (S.testBit f) := by
 intro w
 induction w with
 | nil => intro w' h; cases w' with
  | nil => simp [along, reachZ_cons, reachZ_nil, Rat.mul_one, Rat.one_mul]
  | cons p w' => simp [shp] at h
 | cons p w ih =>
  intro w' h
  cases w' with
  | nil => simp [shp] at h
  | cons p' w' =>
   obtain ⟨a, b, c⟩ := p
   obtain ⟨a', b', c'⟩ := p'
   simp only [shp, List.map_cons, List.cons.injEq, Prod.mk.injEq] at h
   obtain ⟨⟨rfl, rfl⟩, h⟩ := h
   simp only [along]
   split
   · simp only [List.zip_cons_cons, reachZ_cons]; rw [ih h]; grind
   · split
     · rename_i e
       subst e
       simp only [List.zip_cons_cons, reachZ_cons]
       rw [pick_and]; grind
     · simp only [List.zip_cons_cons, reachZ_cons]; grind
theorem goL_mix {t : List NODE} {row other : List CELL} {S i : Nat} (h : featT t i < row.length) : goL t (mixR row other S) i = if S.testBit (featT t i) then goL t row i else goL t other i := by
 have e : cellAt (mixR row other S) (featT t i) = mixC row other S (featT t i) := by
  rw [cellAt_get (by rw [mixR_len]; exact h)]
  have := fly_get (mixC row other S) h
  rw [List.getElem?_eq_getElem (by rw [fly_len]; exact h)] at this
  exact Option.some.inj this
 unfold goL
 have e2 : (nFeat (nodeAt t i)).toNat = featT t i := rfl
 rw [e2, e, mixC]
 split <;> rfl
theorem predT_split (t : List NODE) (row : List CELL) (i : Nat) (l r : TR) : predT t row (.split i l r) = if goL t row i then predT t row l else predT t row r := by
 unfold predT
 rw [endT]
 split <;> rfl
def legZ (S : Nat) (x : LP) : Rat := x.1.2.1 * reachZ (x.1.2.2.zip x.2.2.2) S
theorem legs_mix {t : List NODE} {row other : List CELL} {S : Nat} {T : TR} (h : Is t (row.length : Int) T) : ∀ {w w' : List AP}, shp w = shp w' →
  lsum (((legsT t row T w).zip (legsT t other T w')).map (legZ S)) = reachZ (w.zip w') S * predT t (mixR row other S) T := by
 induction T with
 | leaf i =>
  intro w w' hw
  simp only [legsT, List.zip_cons_cons, List.zip_nil_right, List.map_cons, List.map_nil, lsum, legZ]
  show rv (nVal (nodeAt t i)) * _ + 0 = _ * rv (nVal (nodeAt t i))
  rw [Rat.add_zero, Rat.mul_comm]
 | split i l r ihl ihr =>
  intro w w' hw
  obtain ⟨h1, h2, f0, f1, h3, h4, h5, h6⟩ := h
  have hf : featT t i < row.length := by rw [featT, nodeAt_get h1]; omega
  simp only [legsT]
  rw [List.zip_append (by rw [legsT_len, legsT_len]), List.map_append, lsum_append, ihl h5 (along_shp hw), ihr h6 (along_shp hw), along_zip hw, along_zip hw, predT_split, goL_mix hf]
  cases S.testBit (featT t i) <;> cases goL t row i <;> cases goL t other i <;> simp [pick, one0, Rat.mul_one, Rat.mul_zero, Rat.zero_mul, Rat.add_zero, Rat.zero_add]
theorem rsum_mem (q : Rat) {l : List Nat} (hnd : l.Nodup) {n : Nat} (hlt : ∀ f ∈ l, f < n) : rsum (fun f => if f ∈ l then q else 0) n = (l.length : Rat) * q := by
 induction l with
 | nil => rw [rsum_zeros (fun f _ => by simp)]; simp [Rat.zero_mul]
 | cons a l ih =>
  have h := List.nodup_cons.1 hnd
  have e : rsum (fun f => if f ∈ a :: l then q else 0) n = rsum (fun f => (if a = f then q else 0) + (if f ∈ l then q else 0)) n := rsum_congr fun f _ => by
   by_cases e : a = f
   · subst e
     rw [if_pos List.mem_cons_self, if_pos rfl, if_neg h.1, Rat.add_zero]
   · rw [if_neg e, Rat.zero_add]
     by_cases hm : f ∈ l
     · rw [if_pos (List.mem_cons_of_mem _ hm), if_pos hm]
     · rw [if_neg (fun hh => (List.mem_cons.1 hh).elim (fun x => e x.symm) hm), if_neg hm]
  rw [e, rsum_addF, rsum_at, if_pos (hlt a List.mem_cons_self), ih h.2 fun f hf => hlt f (List.mem_cons_of_mem _ hf)]
  simp only [List.length_cons]
  push_cast
  grind
theorem fac_mul (u : Nat) (h : u ≠ 0) : (u : Rat) * ((fac (u - 1) : Nat) : Rat) = ((fac u : Nat) : Rat) := by
 obtain ⟨k, rfl⟩ : ∃ k, u = k + 1 := ⟨u - 1, by omega⟩
 rw [Nat.add_sub_cancel, fac]; push_cast; rfl
theorem fac_ne (n : Nat) : ((fac n : Nat) : Rat) ≠ 0 := by
 have := fac_pos n
 intro e
 have : (fac n : Nat) = 0 := by exact_mod_cast e
 omega
theorem need_sum (u v : Nat) : (u : Rat) * nin u v + (v : Rat) * nout u v = (if v = 0 then 1 else 0) - (if u = 0 then 1 else 0) := by
 have hd := fac_ne (u + v)
 unfold nin nout quo
 by_cases hu : u = 0
 · subst hu
   rw [if_pos rfl, if_pos rfl]
   by_cases hv : v = 0
   · subst hv; rw [if_pos rfl, if_pos rfl]; grind
   · rw [if_neg hv, if_neg hv]
     have := fac_mul v hv
     have h0 : ((fac 0 : Nat) : Rat) = 1 := rfl
     rw [Nat.zero_add] at hd ⊢
     rw [h0]
     have e : (v : Rat) * -(1 * ((fac (v - 1) : Nat) : Rat) / ((fac v : Nat) : Rat)) = -((v : Rat) * ((fac (v - 1) : Nat) : Rat)) / ((fac v : Nat) : Rat) := by grind
     rw [e, this]; grind
 · rw [if_neg hu, if_neg hu]
   have hu2 := fac_mul u hu
   by_cases hv : v = 0
   · subst hv
     rw [if_pos rfl, if_pos rfl]
     have h0 : ((fac 0 : Nat) : Rat) = 1 := rfl
     rw [Nat.add_zero] at hd ⊢
     rw [h0]
     have e : (u : Rat) * (((fac (u - 1) : Nat) : Rat) * 1 / ((fac u : Nat) : Rat)) = ((u : Rat) * ((fac (u - 1) : Nat) : Rat)) / ((fac u : Nat) : Rat) := by grind
     rw [e, hu2]; grind
   · rw [if_neg hv, if_neg hv]
     have hv2 := fac_mul v hv
     have e : (u : Rat) * (((fac (u - 1) : Nat) : Rat) * ((fac v : Nat) : Rat) / ((fac (u + v) : Nat) : Rat)) + (v : Rat) * -(((fac u : Nat) : Rat) * ((fac (v - 1) : Nat) : Rat) / ((fac (u + v) : Nat) : Rat)) =
      (((u : Rat) * ((fac (u - 1) : Nat) : Rat)) * ((fac v : Nat) : Rat) - ((fac u : Nat) : Rat) * ((v : Rat) * ((fac (v - 1) : Nat) : Rat))) / ((fac (u + v) : Nat) : Rat) := by grind
     rw [e, hu2, hv2]; grind
theorem reachZ_ends {z : List PP} {S : Nat} (b : Bool) (h : ∀ p ∈ z, S.testBit p.1.1 = b) : reachZ z S = if z.all (fun p => if b then p.1.2.2 else p.2.2.2) then 1 else 0 := by
 induction z with
 | nil => rfl
 | cons x z ih =>
  rw [reachZ_cons, ih fun p hp => h p (List.mem_cons_of_mem _ hp), h x List.mem_cons_self, List.all_cons]
  cases b <;> cases x.1.2.2 <;> cases x.2.2.2 <;> simp [pick, one0, Rat.mul_one, Rat.one_mul, Rat.zero_mul] <;> rfl
theorem ends_sides (z : List PP) : (z.all fun p => p.1.2.2) = (!nN z && decide ((iN z).length = 0)) ∧ (z.all fun p => p.2.2.2) = (!nN z && decide ((mN z).length = 0)) := by
 induction z with
 | nil => exact ⟨rfl, rfl⟩
 | cons x z ih =>
  obtain ⟨p, q⟩ := x
  simp only [List.all_cons, ih.1, ih.2, nN_cons, iN_cons, mN_cons]
  cases p.2.2 <;> cases q.2.2 <;> simp
def FULLS : Nat := 18446744073709551615
theorem fulls_bit {f : Nat} (h : f < 64) : FULLS.testBit f = true := by
 have : FULLS = 2 ^ 64 - 1 := by decide
 rw [this, Nat.testBit_two_pow_sub_one]; simpa using h
theorem leg_sum {n : Nat} {x : LP} (h : LpOk n x) (hn : n ≤ 64) : rsum (legAdd x.1 x.2) n = legZ FULLS x - legZ 0 x := by
 obtain ⟨_, h1, h2, h3⟩ := h
 obtain ⟨z, ez⟩ : ∃ z, z = x.1.2.2.zip x.2.2.2 := ⟨_, rfl⟩
 obtain ⟨n1, n2, hl⟩ := sides_nodup (w' := x.2.2.2) h1
 rw [← ez] at n1 n2 hl
 have hf : ∀ p ∈ z, p.1.1 < n := fun p hp => h2.2.2 _ (zip_fst (ez ▸ hp))
 have m1 : ∀ f ∈ mN z, f < n := fun f hf' => by obtain ⟨y, hy, e, _⟩ := mN_mem hf'; have := hf y hy; omega
 have m2 : ∀ f ∈ iN z, f < n := fun f hf' => by obtain ⟨y, hy, e, _⟩ := iN_mem hf'; have := hf y hy; omega
 have r1 : reachZ z FULLS = if (!nN z && decide ((iN z).length = 0)) then 1 else 0 := by
  rw [reachZ_ends true (fun p hp => fulls_bit (by have := hf p hp; omega))]
  simp only [if_true]
  rw [(ends_sides z).1]
 have r0 : reachZ z 0 = if (!nN z && decide ((mN z).length = 0)) then 1 else 0 := by
  rw [reachZ_ends false (fun p _ => Nat.zero_testBit _)]
  simp only [Bool.false_eq_true, if_false]
  rw [(ends_sides z).2]
 have e : rsum (legAdd x.1 x.2) n = if nN z then 0 else ((mN z).length : Rat) * (x.1.2.1 * nin (mN z).length (iN z).length) + ((iN z).length : Rat) * (x.1.2.1 * nout (mN z).length (iN z).length) := by
  cases hb : nN z with
  | true =>
   rw [if_pos rfl]
   exact rsum_zeros fun f _ => by rw [legAdd, ← ez, if_pos hb]
  | false =>
   rw [if_neg (by decide), ← rsum_mem _ n1 m1, ← rsum_mem _ n2 m2, ← rsum_addF]
   exact rsum_congr fun f _ => by rw [legAdd, ← ez, hb, if_neg (by decide)]
 rw [e]
 unfold legZ
 rw [← ez, r1, r0]
 cases hb : nN z with
 | true => simp; grind
 | false =>
  rw [if_neg (by decide)]
  have := need_sum (mN z).length (iN z).length
  have e2 : ((mN z).length : Rat) * (x.1.2.1 * nin (mN z).length (iN z).length) + ((iN z).length : Rat) * (x.1.2.1 * nout (mN z).length (iN z).length) = x.1.2.1 * (((mN z).length : Rat) * nin (mN z).length (iN z).length + ((iN z).length : Rat) * nout (mN z).length (iN z).length) := by grind
  rw [e2, this]
  simp only [Bool.not_false, Bool.true_and, decide_eq_true_eq]
  grind
theorem mix_all {row other : List CELL} (h : row.length ≤ 64) : mixR row other FULLS = row := by
 rw [mixR, fly_congr (p := cellAt row) (fun f hf => by rw [mixC, fulls_bit (by omega), if_pos rfl]), fly_self]
theorem mix_none {row other : List CELL} (h : other.length = row.length) : mixR row other 0 = other := by
 rw [mixR, fly_congr (p := cellAt other) (fun f hf => by rw [mixC, Nat.zero_testBit, if_neg (by decide)]), ← h, fly_self]
theorem rsum_lsum {α : Type} (g : α → Nat → Rat) (n : Nat) (l : List α) : rsum (fun f => lsum (l.map fun x => g x f)) n = lsum (l.map fun x => rsum (g x) n) := by
 induction l with
 | nil => exact rsum_zeros fun _ _ => rfl
 | cons x l ih => simp only [List.map_cons, lsum]; rw [rsum_addF, ih]
theorem lsum_sub {α : Type} (f g : α → Rat) (l : List α) : lsum (l.map fun x => f x - g x) = lsum (l.map f) - lsum (l.map g) := by
 induction l with
 | nil => show (0 : Rat) = 0 - 0; rw [Rat.sub_self]
 | cons x l ih => simp only [List.map_cons, lsum]; rw [ih]; grind
theorem rsum_sub (f g : Nat → Rat) (n : Nat) : rsum (fun i => f i - g i) n = rsum f n - rsum g n := by
 induction n with
 | zero => show (0 : Rat) = 0 - 0; rw [Rat.sub_self]
 | succ n ih => rw [rsum, rsum, rsum, ih]; grind
theorem rsum_comm2 (f : Nat → Nat → Rat) (n m : Nat) : rsum (fun i => rsum (fun j => f i j) m) n = rsum (fun j => rsum (fun i => f i j) n) m := by
 induction n with
 | zero => exact (rsum_zeros fun j _ => rfl).symm
 | succ n ih => rw [rsum, ih, ← rsum_addF]; rfl
theorem tree_sum {m : MODEL} {row other : List CELL} (h : Askd m row) (h' : Askd m other) {j : Nat} (hj : j < m.2.length) :
  rsum (treeAdd (treeAt m j) row other (treeOf (treeAt m j))) row.length = predT (treeAt m j) row (treeOf (treeAt m j)) - predT (treeAt m j) other (treeOf (treeAt m j)) := by
 obtain ⟨t1, t2, t3, t4, t5⟩ := h.tree hj
 have h64 := h.good.1.2.1
 have hn := h.len
 have hn' := h'.len
 have e1 : ∀ S, predT (treeAt m j) (mixR row other S) (treeOf (treeAt m j)) = lsum (((legsT (treeAt m j) row (treeOf (treeAt m j)) []).zip (legsT (treeAt m j) other (treeOf (treeAt m j)) [])).map (legZ S)) := fun S => by
  rw [legs_mix (by rw [t5] at t2 ⊢; exact t2) (w := []) (w' := []) rfl, List.zip_nil_left, reachZ_nil, Rat.one_mul]
 have eF := e1 FULLS
 have e0 := e1 0
 rw [mix_all (by omega)] at eF
 rw [mix_none (by omega)] at e0
 have hg := Legs_ok (t := m.2[j]) (h.mt _ (List.getElem_mem hj)) (h.ms _ (List.getElem_mem hj)) h.cs (h.goodT hj) (by omega)
 rw [eF, e0]
 rw [treeAt_get hj]
 obtain ⟨p1, p2⟩ := pair_ok (other := other) hg.2.1
 show rsum (fun f => lsum (_ : List Rat)) row.length = _
 rw [rsum_lsum (fun (x : LP) (f : Nat) => legAdd x.1 x.2 f), ← lsum_sub]
 congr 1
 refine List.map_congr_left fun x hx => ?_
 exact leg_sum (p2 x hx) (by omega)
theorem one_sum {m : MODEL} {row other : List CELL} (h : Askd m row) (h' : Askd m other) : rsum (oneV m row other) row.length = predM m row - predM m other := by
 show rsum (fun f => rsum (fun i => treeAdd (treeAt m i) row other (treeOf (treeAt m i)) f) m.2.length) row.length = _
 rw [rsum_comm2]
 have : rsum (fun j => rsum (fun i => treeAdd (treeAt m j) row other (treeOf (treeAt m j)) i) row.length) m.2.length = rsum (fun j => predT (treeAt m j) row (treeOf (treeAt m j)) - predT (treeAt m j) other (treeOf (treeAt m j))) m.2.length := rsum_congr fun j hj => tree_sum h h' hj
 rw [this, rsum_sub]; rfl
theorem rsum_const (q : Rat) (n : Nat) : rsum (fun _ => q) n = (n : Rat) * q := by
 induction n with
 | zero => show (0 : Rat) = ((0 : Nat) : Rat) * q; simp [Rat.zero_mul]
 | succ n ih => rw [rsum, ih]; push_cast; grind
theorem back_sum {m : MODEL} {row : List CELL} {l : List (List CELL)} (h : AskB m row l) : rsum (fun f => backV m row l l.length f * part1 l) row.length = predM m row - rsum (fun i => predM m (rowAt l i)) l.length * part1 l := by
 rw [rsum_mul]
 show rsum (fun f => rsum (fun i => oneV m row (rowAt l i) f) l.length) row.length * _ = _
 rw [rsum_comm2]
 have e : rsum (fun i => rsum (fun f => oneV m row (rowAt l i) f) row.length) l.length = rsum (fun i => predM m row - predM m (rowAt l i)) l.length := rsum_congr fun i hi => by
  rw [rowAt_get hi]; exact one_sum h.a (h.at hi)
 rw [e, rsum_sub, rsum_const]
 have hp : (l.length : Rat) * part1 l = 1 := by
  have hne : ((l.length : Nat) : Rat) ≠ 0 := by
   intro e
   have : (l.length : Nat) = 0 := by exact_mod_cast e
   exact h.ne this
  unfold part1
  have e1 : (((1 : Int)) : Rat) = 1 := rfl
  have e2 : (((l.length : Int)) : Rat) = ((l.length : Nat) : Rat) := rfl
  rw [e1, e2]; grind
 have : ((l.length : Rat) * predM m row - rsum (fun i => predM m (rowAt l i)) l.length) * part1 l = ((l.length : Rat) * part1 l) * predM m row - rsum (fun i => predM m (rowAt l i)) l.length * part1 l := by grind
 rw [this, hp, Rat.one_mul]
theorem legs_unasked {t : List NODE} {g : Int} {row : List CELL} {f : Nat} {T : TR} (h : Is t g T) (ha : askT t f = false) : ∀ {w : List AP}, (∀ p ∈ w, p.1 ≠ f) → ∀ x ∈ legsT t row T w, ∀ p ∈ x.2.2, p.1 ≠ f := by
 induction T with
 | leaf i => intro w hw x hx; simp only [legsT, List.mem_singleton] at hx; subst hx; exact hw
 | split i l r ihl ihr =>
  have h0 := h
  obtain ⟨h1, h2, f0, f1, h3, h4, h5, h6⟩ := h
  have hne : featT t i ≠ f := unasked_split h0 ha
  intro w hw x hx
  have hw' : ∀ (q : Rat) (ok : Bool), ∀ p ∈ along (featT t i) q ok w, p.1 ≠ f := fun q ok p hp => by
    rcases along_mem p hp with e | ⟨p', h1, h2⟩
    · rw [e]; exact hne
    · rw [← h2]; exact hw p' h1
  simp only [legsT, List.mem_append] at hx
  rcases hx with hx | hx
  · exact ihl h5 (hw' _ _) x hx
  · exact ihr h6 (hw' _ _) x hx
theorem legAdd_none {x y : AL} {f : Nat} (h : ∀ p ∈ x.2.2, p.1 ≠ f) : legAdd x y f = 0 := by
 have h1 : f ∉ mN (x.2.2.zip y.2.2) := fun hm => by obtain ⟨z, hz, e, _⟩ := mN_mem hm; exact h _ (zip_fst hz) e
 have h2 : f ∉ iN (x.2.2.zip y.2.2) := fun hm => by obtain ⟨z, hz, e, _⟩ := iN_mem hm; exact h _ (zip_fst hz) e
 unfold legAdd
 rw [if_neg h1, if_neg h2]
 split
 · rfl
 · rw [Rat.add_zero]
theorem back_unused {m : MODEL} {row : List CELL} {l : List (List CELL)} (h : AskB m row l) {f : Nat} (hu : usedQ m f = false) : backV m row l l.length f * part1 l = 0 := by
 have : backV m row l l.length f = 0 := rsum_zeros fun i hi => rsum_zeros fun j hj => lsum_zero fun q hq => by
  obtain ⟨x, hx, rfl⟩ := List.mem_map.1 hq
  obtain ⟨t1, t2, t3, t4, t5⟩ := h.a.tree hj
  have ha : askT (treeAt m j) f = false := by rw [t5]; exact unused_tree hu (List.getElem_mem _)
  refine legAdd_none (legs_unasked (t := treeAt m j) (g := (row.length : Int)) (row := row) (T := treeOf (treeAt m j)) (by rw [t5] at t2 ⊢; exact t2) ha (w := []) (fun p hp => by cases hp) x.1 ?_)
  obtain ⟨a, b⟩ := x
  exact (List.of_mem_zip hx).1
 rw [this, Rat.zero_mul]
theorem bsum_rows (m : MODEL) (l : List (List CELL)) : bsum (l.map (predM m)) = rsum (fun i => predM m (rowAt l i)) l.length := by
 rw [bsum_vals, List.length_map]
 refine rsum_congr fun i hi => ?_
 rw [rowAt_get hi]
 unfold vals
 simp [hi, rv_canQ]
theorem VersusAdds_true (m0 : MODEL) (row0 : List CELL) (l0 : List (List CELL)) (hl : m0.2.length ≤ 9223372036854775807) (ht : ∀ t ∈ m0.2, t.length ≤ 9223372036854775807) (hr : row0.length ≤ 9223372036854775807)
   (hl0 : l0.length ≤ 9223372036854775807) (hlr : ∀ r ∈ l0, r.length ≤ 9223372036854775807) :
   dendronlaw17_VersusAdds m0 row0 l0 = some true := by
 obtain ⟨m, row, hs, ms, ml, mt, cs⟩ := Small_ok m0 row0 hl ht hr
 have h9 := All09n_ok 4 (by decide) l0 hl0 hlr
 have h9 : dendronlaw09_All l0 4 70 = some (cutRowsN 4 l0) := h9
 have lsz := cutRowsN_sz 4 l0
 have lll := cutRowsN_len 4 l0
 obtain ⟨l, el⟩ : ∃ l, l = cutRowsN 4 l0 := ⟨_, rfl⟩
 rw [← el] at h9 lsz lll
 obtain ⟨b, h1, h2⟩ := askB_of (row := row) ms ml mt cs lsz (by omega)
 have hW := (whyV_ok h1 row (l := l) (by omega)).2
 rw [dendronlaw17_VersusAdds, hs, Option.bind_some, h9, Option.bind_some]
 dsimp only
 by_cases h0 : whyV b m row l = 0
 · have h := h2 h0
   have hlen := h.a.len
   have h64 := h.a.good.1.2.1
   obtain ⟨hv, _⟩ := h.why
   have hbg : true = true ↔ Good m := ⟨fun _ => h.a.good, fun _ => rfl⟩
   have hU := Used_ok hv h.a.good
   have ul := usedL_len m
   obtain ⟨n, hn⟩ : ∃ n, n = row.length := ⟨_, rfl⟩
   have ug : ∀ i, i < n → (usedL m)[i]? = some (usedQ m i) := fun i hi => usedL_get (by omega)
   have hMean := route_Mean_ok (R := l) hv hbg ms (by omega) mt lsz (by omega)
   have hne : l ≠ [] := fun e => h.ne (by rw [e]; rfl)
   have herr : ∀ r ∈ l, errB true m r = 0 := fun r hr => by
    have := (h.b r hr).len
    rw [errB, if_pos rfl, if_pos this]
   have hMean : route_Mean m l = some (canQ (bsum (l.map (predM m)) / ((l.length : Int) : Rat)), 0) := by
    rcases hMean with ⟨e, _⟩ | ⟨_, e, _⟩ | ⟨_, _, _, e⟩
    · exact absurd e hne
    · exact absurd (ferr_zero.2 (fun q hq => by obtain ⟨r, hr, rfl⟩ := List.mem_map.1 hq; exact herr r hr)) e
    · exact e
   rw [bsum_rows, mean_part] at hMean
   obtain ⟨V, hV⟩ : ∃ V : Nat → Rat, V = fun f => backV m row l l.length f * part1 l := ⟨_, rfl⟩
   have hVal := Values17_ok h
   rw [← hV, ← hn] at hVal
   have vz : ∀ f, SzQ (V f) 300000002 := fun f => by rw [hV]; exact ((backV_sz h (Nat.le_refl _) f).mul (part1_sz h.ll)).mono (by decide)
   have vu : ∀ f, usedQ m f = false → V f = 0 := fun f hu => by rw [hV]; exact back_unused h hu
   obtain ⟨Q, hQ⟩ : ∃ Q, Q = rsum (fun i => predM m (rowAt l i)) l.length * part1 l := ⟨_, rfl⟩
   rw [← hQ] at hMean
   have lv := flo_len n V
   have key := lp_up (step := dendronlaw17_VersusAdds_s12) (fun i => ((flo n V, usedL m, (i : Int), ()), (((canQ (predM m row)).1.1, (canQ (predM m row)).1.2, (canQ (predM m row)).2, ()), ((canQ Q).1.1, (canQ Q).1.2, (canQ Q).2, ()), ()))) n
    (r := .inl ((flo n V, ()), (((canQ (predM m row)).1.1, (canQ (predM m row)).1.2, (canQ (predM m row)).2, ()), ((canQ Q).1.1, (canQ Q).1.2, (canQ Q).2, ()), ()))) (by omega) (by
    intro g i hi
    have d0 : (i : Int) < ((flo n V).length : Int) := by omega
    rw [dendronlaw17_VersusAdds_s12, cnd d0, cnd (by omega), Int.toNat_natCast, ug i hi, Option.bind_some, iadd1 (by omega)]
    cases hu : usedQ m i with
    | true => rw [Bool.not_true, cond_false]; rfl
    | false =>
      rw [Bool.not_false, cond_true, cnd2 (by omega) d0, flo_get _ hi, Option.bind_some, vu i hu, ratio_Sign_ok (SzQ.zero.sm (by decide)), Option.bind_some, rv_canQ, show rcmp 0 0 = 0 by decide, show (!decide ((0 : Int) = 0)) = false by decide, cond_false]
      rfl) (by
    intro g
    rw [dendronlaw17_VersusAdds_s12, cnd' (by omega)])
   have key : lp dendronlaw17_VersusAdds_s12 K0 ((flo n V, usedL m, 0, ()), (((canQ (predM m row)).1.1, (canQ (predM m row)).1.2, (canQ (predM m row)).2, ()), ((canQ Q).1.1, (canQ Q).1.2, (canQ Q).2, ()), ())) = _ := key
   have hvl : ∀ i, i < (flo n V).length → vals (flo n V) i = V i := fun i hi => vals_map (by omega)
   have hS := ratio_Sum_ok (l := flo n V) (k := 300000002) (fun x hx => by
    obtain ⟨f, _, rfl⟩ := List.mem_map.1 hx
    exact (vz f).sm (by decide)) (fun i hi => by rw [hvl i hi]; exact vz i) (by
      rw [lv]
      have := Nat.mul_le_mul_right (300000002 + 1) (show n ≤ 64 by omega)
      omega) (by omega)
   have hsum : rsum V n = predM m row - Q := by rw [hV, hn, hQ]; exact back_sum h
   rw [rsum_congr hvl, lv, hsum] at hS
   have pz : SzQ (predM m row) 31 := (predM_sz (row := row) h.a.good ms (n := m.2.length) (Nat.le_refl _)).mono (by omega)
   have qz : SzQ Q 302 := by
    rw [hQ]
    have := rsum_sz (f := fun i => predM m (rowAt l i)) (k := 31) (n := l.length) (fun j _ => (predM_sz (row := rowAt l j) h.a.good ms (n := m.2.length) (Nat.le_refl _)).mono (by omega))
    exact ((this.mono (show _ ≤ 300 by have := h.ll; omega)).mul (part1_sz h.ll)).mono (by decide)
   have hD := ratio_Sub_ok (pz.sm (by decide)) (qz.sm (by decide))
   rw [rv_canQ, rv_canQ] at hD
   have dz := pz.sub qz
   have hE := ratio_Same_ok (dz.sm (by decide)) (dz.sm (by decide))
   rw [decide_eq_true rfl] at hE
   rw [hVal, Option.bind_some, show (!decide ((0 : Int) = 0)) = false by decide, cond_false, Predict_ok h.a, Option.bind_some, hMean, Option.bind_some, hU, Option.bind_some]
   dsimp only
   rw [show (!decide ((0 : Int) = 0)) = false by decide, cond_false, cond_false, ul, lv, decide_eq_true (show ((m.1.toNat : Nat) : Int) = (n : Int) by omega), Bool.not_true, cond_false, key, Option.bind_some]
   dsimp only
   rw [hS, Option.bind_some]
   show (ratio_Sub (canQ _) (canQ _)).bind _ = _
   rw [hD, Option.bind_some, hE, Option.bind_some, law17_awake_ok]
   rfl
 · rw [Values17_bad h1 (by omega) h0, Option.bind_some, decide_eq_false h0, Bool.not_false, cond_true, hW, Option.bind_some]
   dsimp only
   rw [cnd rfl, law17_awake_ok]
   rfl
end Go.Proofs.YtaonkcmflkmncaaGreatDoor.X
