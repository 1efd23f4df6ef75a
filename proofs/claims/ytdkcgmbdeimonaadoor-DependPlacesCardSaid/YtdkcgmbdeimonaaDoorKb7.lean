/- Lemmas over the printed texts: the order by choice; RankOrders. -/
import Derived.Test.YtdkcgmbdeimonaaDoorKb6

namespace Go.Proofs.YtdkcgmbdeimonaaDoor.X
open Go
set_option linter.unusedVariables false
set_option linter.unusedSimpArgs false

/-- What is not yet taken. -/
def left (n : Nat) (o : List Nat) : List Nat := (List.range n).filter fun j => !decide (j ∈ o)
theorem mem_left {n : Nat} {o : List Nat} {j : Nat} : j ∈ left n o ↔ j < n ∧ j ∉ o := by simp [left]
def usedOf (n : Nat) (o : List Nat) : List Bool := (List.range n).map fun j => decide (j ∈ o)
@[simp] theorem usedOf_len (n : Nat) (o : List Nat) : (usedOf n o).length = n := by simp [usedOf]
theorem usedOf_get {n : Nat} {o : List Nat} {j : Nat} (h : j < n) : (usedOf n o)[j]? = some (decide (j ∈ o)) := by simp [usedOf, h]
theorem usedOf_set {n : Nat} {o : List Nat} {b : Nat} (h : b < n) : (usedOf n o).set b true = usedOf n (o ++ [b]) := by
  apply List.ext_getElem?
  intro j
  rw [List.getElem?_set]
  by_cases hj : j < n
  · rw [usedOf_get hj]
    by_cases hb : b = j
    · subst hb; simp [h, usedOf]
    · rw [if_neg hb, usedOf_get hj]
      simp [show ¬ j = b from fun e => hb e.symm]
  · rw [List.getElem?_eq_none (by simp; omega), List.getElem?_eq_none (by simp; omega)]
    split
    · rw [if_neg (by simp; omega)]
    · rfl

theorem best_ok {l : List RAT} (hs : ∀ x ∈ l, Sm x) (hl : l.length < 4398046511104) {o : List Nat} (out : List Int) (k : Int) (hne : left l.length o ≠ []) :
    ∃ b : Nat, b ∈ left l.length o ∧ (∀ j ∈ left l.length o, j ≠ b → pre (vals l) b j) ∧
      lp dendronlaw27_order_s8 K0 ((l, usedOf l.length o, out, k, -1, 0, ()), ()) = some ((l, usedOf l.length o, out, k, (b : Int), ()), ()) := by
  obtain ⟨r, ⟨z, rfl, hz⟩, hlp⟩ := lp_inv (step := dendronlaw27_order_s8)
    (fun i s => ∃ z : Int, s = ((l, usedOf l.length o, out, k, z, (i : Int), ()), ()) ∧ ((z = -1 ∧ ∀ j, j < i → j ∈ o) ∨ ∃ b : Nat, z = (b : Int) ∧ b < i ∧ b ∉ o ∧ ∀ j, j < i → j ∉ o → j ≠ b → pre (vals l) b j))
    (fun r => ∃ z : Int, r = ((l, usedOf l.length o, out, k, z, ()), ()) ∧ ((z = -1 ∧ ∀ j, j < l.length → j ∈ o) ∨ ∃ b : Nat, z = (b : Int) ∧ b < l.length ∧ b ∉ o ∧ ∀ j, j < l.length → j ∉ o → j ≠ b → pre (vals l) b j)) l.length (v := ((l, usedOf l.length o, out, k, -1, 0, ()), ()))
    ⟨-1, rfl, .inl ⟨rfl, fun j h => by omega⟩⟩ (by omega) (by
      rintro i s hi ⟨z, rfl, hz⟩
      have c0 : (i : Int) < ((l.length : Nat) : Int) := by omega
      have c1 : (0 : Int) ≤ (i : Int) := by omega
      have c2 : (i : Int) < ((usedOf l.length o).length : Int) := by simp; omega
      have e1 := iadd1 (n := i) (by omega)
      by_cases hu : i ∈ o
      · refine ⟨_, ⟨z, rfl, ?_⟩, fun g => ?_⟩
        · rcases hz with ⟨rfl, h⟩ | ⟨b, rfl, h1, h2, h3⟩
          · exact .inl ⟨rfl, fun j hj => by
              by_cases e : j = i
              · subst e; exact hu
              · exact h j (by omega)⟩
          · exact .inr ⟨b, rfl, by omega, h2, fun j hj hjo hjb => h3 j (by
              by_cases e : j = i
              · subst e; exact absurd hu hjo
              · omega) hjo hjb⟩
        · rw [dendronlaw27_order_s8, cnd c0, cnd2 c1 c2, Int.toNat_natCast, usedOf_get hi, Option.bind_some, decide_eq_true hu, e1]
          rfl
      · have head : ∀ g, dendronlaw27_order_s8 g ((l, usedOf l.length o, out, k, z, (i : Int), ()), ()) = bif decide (z < 0) then g ((l, usedOf l.length o, out, k, (i : Int), ((i : Int) + 1), ()), ()) else (bif decide (0 ≤ (i : Int)) then (l[i]?).bind fun x2 => bif decide (0 ≤ z) then (l[z.toNat]?).bind fun x3 => (ratio_Cmp x2 x3).bind fun r4 => bif (decide (r4 > 0)) then (g ((l, usedOf l.length o, out, k, (i : Int), ((i : Int) + 1), ()), ())) else (g ((l, usedOf l.length o, out, k, z, ((i : Int) + 1), ()), ())) else none else none) := by
          intro g
          rw [dendronlaw27_order_s8, cnd c0, cnd2 c1 c2, Int.toNat_natCast, usedOf_get hi, Option.bind_some, decide_eq_false hu, e1]
          rfl
        rcases hz with ⟨rfl, h⟩ | ⟨b, rfl, h1, h2, h3⟩
        · refine ⟨_, ⟨(i : Int), rfl, .inr ⟨i, rfl, by omega, hu, fun j hj hjo hji => absurd (h j (by omega)) hjo⟩⟩, fun g => ?_⟩
          rw [head, cnd (by omega)]
          rfl
        · have hb : b < l.length := by omega
          have hcmp := ratio_Cmp_ok (hs _ (List.getElem_mem hi)) (hs _ (List.getElem_mem hb))
          rw [← vals_get hi, ← vals_get hb] at hcmp
          have c3 : ¬ (b : Int) < 0 := by omega
          have c4 : (0 : Int) ≤ (b : Int) := by omega
          have head2 : ∀ g, dendronlaw27_order_s8 g ((l, usedOf l.length o, out, k, (b : Int), (i : Int), ()), ()) = bif decide (rcmp (vals l i) (vals l b) > 0) then g ((l, usedOf l.length o, out, k, (i : Int), ((i : Int) + 1), ()), ()) else g ((l, usedOf l.length o, out, k, (b : Int), ((i : Int) + 1), ()), ()) := by
            intro g
            rw [head, cnd' c3, cnd c1, List.getElem?_eq_getElem hi, Option.bind_some, cnd c4, Int.toNat_natCast, List.getElem?_eq_getElem hb, Option.bind_some, hcmp, Option.bind_some]
          by_cases hgt : vals l b < vals l i
          · refine ⟨_, ⟨(i : Int), rfl, .inr ⟨i, rfl, by omega, hu, fun j hj hjo hji => ?_⟩⟩, fun g => by rw [head2, cnd (rcmp_pos.2 hgt)]; rfl⟩
            by_cases hjb : j = b
            · subst hjb; exact .inl hgt
            · exact pre_trans (.inl hgt) (h3 j (by omega) hjo hjb)
          · refine ⟨_, ⟨(b : Int), rfl, .inr ⟨b, rfl, by omega, h2, fun j hj hjo hjb => ?_⟩⟩, fun g => by rw [head2, cnd' (fun h => hgt (rcmp_pos.1 h))]; rfl⟩
            by_cases hji : j = i
            · subst hji
              by_cases hlt : vals l j < vals l b
              · exact .inl hlt
              · exact .inr ⟨Rat.le_antisymm (Rat.not_lt.1 hlt) (Rat.not_lt.1 hgt), h1⟩
            · exact h3 j (by omega) hjo hjb) (by
      rintro s ⟨z, rfl, hz⟩
      exact ⟨((l, usedOf l.length o, out, k, z, ()), ()), ⟨z, rfl, hz⟩, fun g => by simp [dendronlaw27_order_s8]⟩)
  rcases hz with ⟨rfl, h⟩ | ⟨b, rfl, h1, h2, h3⟩
  · exfalso
    apply hne
    apply List.eq_nil_iff_forall_not_mem.2
    intro j hj
    rw [mem_left] at hj
    exact hj.2 (h j hj.1)
  · exact ⟨b, mem_left.2 ⟨h1, h2⟩, fun j hj hjb => h3 j (mem_left.1 hj).1 (mem_left.1 hj).2 hjb, hlp⟩

theorem left_take {n : Nat} {o : List Nat} {b : Nat} (hb : b ∈ left n o) : (b :: left n (o ++ [b])).Perm (left n o) := by
  have hnd : (left n o).Nodup := List.Nodup.sublist List.filter_sublist List.nodup_range
  have e : left n (o ++ [b]) = (left n o).erase b := by
    rw [List.Nodup.erase_eq_filter hnd]
    unfold left
    rw [List.filter_filter]
    congr 1
    funext j
    by_cases h1 : j ∈ o <;> by_cases h2 : j = b <;> simp [h1, h2]
  rw [e]
  exact (List.perm_cons_erase hb).symm

theorem law27_order_ok {l : List RAT} (hs : ∀ x ∈ l, Sm x) (hl : l.length < 4398046511104) : ∃ o, dendronlaw27_order l = some (ints o) ∧ Ordered (vals l) l.length o := by
  obtain ⟨r, ⟨o, rfl, ho⟩, hlp⟩ := lp_inv (step := dendronlaw27_order_s4)
    (fun i s => ∃ o : List Nat, s = ((l, usedOf l.length o, ints o, (i : Int), ()), ()) ∧ o.length = i ∧ o.Pairwise (pre (vals l)) ∧ (∀ a ∈ o, ∀ j ∈ left l.length o, pre (vals l) a j) ∧ (o ++ left l.length o).Perm (List.range l.length))
    (fun r => ∃ o : List Nat, r = ((ints o, ()), ()) ∧ Ordered (vals l) l.length o) l.length (v := ((l, List.replicate l.length false, [], 0, ()), ()))
    ⟨[], by simp [usedOf, ints, List.map_const'], rfl, List.Pairwise.nil, by simp, by rw [List.nil_append, show left l.length [] = List.range l.length from List.filter_eq_self.2 (by simp)]⟩ (by omega) (by
      rintro i s hi ⟨o, rfl, hol, hpw, hall, hperm⟩
      have hne : left l.length o ≠ [] := by
        intro e
        rw [e, List.append_nil] at hperm
        have := hperm.length_eq
        simp at this; omega
      obtain ⟨b, hb, hbest, hbl⟩ := best_ok hs hl (ints o) (i : Int) hne
      have hbn := (mem_left.1 hb).1
      refine ⟨((l, usedOf l.length (o ++ [b]), ints (o ++ [b]), ((i + 1 : Nat) : Int), ()), ()), ⟨o ++ [b], rfl, by simp [hol], ?_, ?_, ?_⟩, fun g => ?_⟩
      · rw [List.pairwise_append]
        exact ⟨hpw, by simp, fun a ha c hc => by
          simp at hc; subst hc; exact hall a ha c hb⟩
      · intro a ha j hj
        have hj' := mem_left.1 hj
        have hjo : j ∈ left l.length o := mem_left.2 ⟨hj'.1, fun h => hj'.2 (List.mem_append_left _ h)⟩
        rcases List.mem_append.1 ha with ha | ha
        · exact hall a ha j hjo
        · simp at ha; subst ha
          exact hbest j hjo (fun e => hj'.2 (by subst e; simp))
      · rw [List.append_assoc]
        exact (List.Perm.append_left o (left_take hb)).trans hperm
      · have c0 : (i : Int) < ((l.length : Nat) : Int) := by omega
        have c1 : (0 : Int) ≤ (b : Int) := by omega
        have c2 : (b : Int) < ((usedOf l.length o).length : Int) := by simp; omega
        have c3 : (Nat.ble (((ints o).length + 1) * 8) 140737488355328 && !false) = true := by
          have : ((ints o).length + 1) * 8 ≤ 140737488355328 := by simp; omega
          simp only [Nat.ble_eq, this, Bool.not_false, Bool.and_true]
        rw [dendronlaw27_order_s4, cnd c0, hbl, Option.bind_some, cnd2 c1 c2, Int.toNat_natCast, usedOf_get hbn, Option.bind_some, c3, cond_true, usedOf_set hbn, iadd1 (by omega)]
        simp [ints]) (by
      rintro s ⟨o, rfl, hol, hpw, hall, hperm⟩
      have hlen := hperm.length_eq
      have hnil : left l.length o = [] := by
        apply List.eq_nil_of_length_eq_zero
        simp at hlen; omega
      rw [hnil, List.append_nil] at hperm
      exact ⟨((ints o, ()), ()), ⟨o, rfl, hpw, hperm⟩, fun g => by simp [dendronlaw27_order_s4]⟩)
  refine ⟨o, ?_, ho⟩
  have g1 : (((1 : Nat) : Int) * (l.length : Int) ≤ 281474976710656) := by omega
  have g2 : (l.length : Int) ≤ 9223372036854775807 := by omega
  have g3 : (0 : Int) ≤ (l.length : Int) := by omega
  rw [dendronlaw27_order, decide_eq_true rfl, decide_eq_true g1, decide_eq_true g2, decide_eq_true g3]
  simp [hlp]

theorem law27_ints_ok {a b : List Int} (hl : a.length < 4611686018427387904) : dendronlaw27_ints a b = some (decide (a = b)) := by
  unfold dendronlaw27_ints
  by_cases hlen : a.length = b.length
  · have c0 : ((a.length : Nat) : Int) = ((b.length : Nat) : Int) := by omega
    rw [decide_eq_true c0]
    obtain ⟨r, hr, hlp⟩ := lp_wf (step := dendronlaw27_ints_s4) (fun s => ∃ i : Nat, s = ((a, b, (i : Int), ()), ()) ∧ i ≤ a.length ∧ a.take i = b.take i) (fun s => (a.length - s.1.2.2.1).toNat)
      (fun r => (r = .inl ((), ()) ∧ a = b) ∨ (r = .inr ((false, ()), ()) ∧ a ≠ b)) (v := ((a, b, 0, ()), ())) ⟨0, rfl, by omega, rfl⟩ (by simp; omega) (by
        rintro s ⟨i, rfl, hi, ht⟩
        by_cases h : i < a.length
        · have hb : i < b.length := by omega
          have c1 : (i : Int) < ((a.length : Nat) : Int) := by omega
          have c2 : (0 : Int) ≤ (i : Int) := by omega
          have st : ∀ g, dendronlaw27_ints_s4 g ((a, b, (i : Int), ()), ()) = bif (!decide (a[i] = b[i])) then some (.inr ((false, ()), ())) else g ((a, b, ((i + 1 : Nat) : Int), ()), ()) := by
            intro g
            rw [dendronlaw27_ints_s4, cnd c1, cnd c2, Int.toNat_natCast, List.getElem?_eq_getElem h, Option.bind_some, cnd c2, List.getElem?_eq_getElem hb, Option.bind_some, iadd1 (by omega)]
            rfl
          by_cases he : a[i] = b[i]
          · refine .inr ⟨_, ⟨i + 1, rfl, by omega, ?_⟩, by simp; omega, fun g => by rw [st, decide_eq_true he]; rfl⟩
            rw [List.take_succ_eq_append_getElem h, List.take_succ_eq_append_getElem hb, ht, he]
          · exact .inl ⟨_, .inr ⟨rfl, fun e => he (by subst e; rfl)⟩, fun g => by rw [st, decide_eq_false he]; rfl⟩
        · refine .inl ⟨_, .inl ⟨rfl, ?_⟩, fun g => ?_⟩
          · rw [List.take_of_length_le (by omega), List.take_of_length_le (by omega)] at ht; exact ht
          · have c1 : ¬ (i : Int) < ((a.length : Nat) : Int) := by omega
            rw [dendronlaw27_ints_s4, cnd' c1])
    rcases hr with ⟨rfl, h⟩ | ⟨rfl, h⟩
    · rw [hlp, decide_eq_true h]; rfl
    · rw [hlp, decide_eq_false h]; rfl
  · have c0 : ¬ ((a.length : Nat) : Int) = ((b.length : Nat) : Int) := by omega
    have : a ≠ b := fun e => hlen (by rw [e])
    rw [decide_eq_false c0, decide_eq_false this]
    rfl

theorem rank_Top_ok {l : List RAT} {o : List Int} (ho : rank_Order l = some o) (n : Int) (hl : o.length < 4398046511104) : rank_Top l n = some (o.take (min n.toNat o.length)) := by
  rw [rank_Top, ho, Option.bind_some]
  by_cases hn : n < 0
  · have e : mn 0 (o.length : Int) = 0 := by unfold mn; split <;> omega
    have e2 : min n.toNat o.length = 0 := by omega
    rw [cnd hn, e, e2]
    simp
  · have e : mn n (o.length : Int) = ((min n.toNat o.length : Nat) : Int) := by unfold mn; split <;> omega
    rw [cnd' hn, e]
    have h1 : ((min n.toNat o.length : Nat) : Int) ≤ (o.length : Int) := by omega
    have h2 : (0 : Int) ≤ ((min n.toNat o.length : Nat) : Int) := by omega
    rw [decide_eq_true h1, decide_eq_true h2, decide_eq_true (Int.le_refl _)]
    have e3 : (((min n.toNat o.length : Nat) : Int) - 0).toNat = min n.toNat o.length := by omega
    simp only [Bool.and_self, cond_true, e3]

theorem law27_awake_ok : dendronlaw27_awake = some true := by
  have h1 := ratio_Of_ok (n := 1) (by decide) (by decide)
  have h3 := ratio_Of_ok (n := 3) (by decide) (by decide)
  have s1 : Sm (canQ ((1 : Int) : Rat)) := (SzQ.int (z := 1) (by decide)).sm (by decide)
  have s3 : Sm (canQ ((3 : Int) : Rat)) := (SzQ.int (z := 3) (by decide)).sm (by decide)
  have w1 := rv_canQ ((1 : Int) : Rat)
  have w3 := rv_canQ ((3 : Int) : Rat)
  generalize canQ ((1 : Int) : Rat) = A at *
  generalize canQ ((3 : Int) : Rat) = B at *
  obtain ⟨o, ho, hO⟩ := rank_Order_ok (l := [A, B, B]) (by
    intro x hx
    simp at hx
    rcases hx with rfl | rfl
    · exact s1
    · exact s3) (by simp)
  have e : o = [1, 2, 0] := by
    apply hO.unique
    have v0 : vals [A, B, B] 0 = ((1 : Int) : Rat) := by simpa [vals] using w1
    have v1 : vals [A, B, B] 1 = ((3 : Int) : Rat) := by simpa [vals] using w3
    have v2 : vals [A, B, B] 2 = ((3 : Int) : Rat) := by simpa [vals] using w3
    have lt : ((1 : Int) : Rat) < ((3 : Int) : Rat) := by decide
    constructor
    · refine List.Pairwise.cons ?_ (List.Pairwise.cons ?_ (List.Pairwise.cons ?_ List.Pairwise.nil))
      · intro a ha
        simp at ha
        rcases ha with rfl | rfl
        · exact .inr ⟨by rw [v1, v2], by decide⟩
        · exact .inl (by rw [v0, v1]; exact lt)
      · intro a ha
        simp at ha
        subst ha
        exact .inl (by rw [v0, v2]; exact lt)
      · intro a ha; cases ha
    · show List.Perm [1, 2, 0] (List.range 3)
      decide
  subst e
  rw [dendronlaw27_awake, h1, Option.bind_some, h3, Option.bind_some, Option.bind_some, ho, Option.bind_some]
  rfl

theorem RankOrders_true (l : List RAT) (n : Int) (hl : l.length ≤ 9223372036854775807) : dendronlaw27_RankOrders l n = some true := by
  have hf := Few19_ok l hl
  have hs : ∀ x ∈ (l.take 33).map (cutR 2), Sm x := by
    intro x hx
    obtain ⟨y, _, rfl⟩ := List.mem_map.1 hx
    exact (cutR_sz 2 y).sm (by decide)
  have hlen : ((l.take 33).map (cutR 2)).length ≤ 33 := by simp; omega
  generalize (l.take 33).map (cutR 2) = m at *
  obtain ⟨o, ho, hO⟩ := rank_Order_ok hs (by omega)
  obtain ⟨o', ho', hO'⟩ := law27_order_ok hs (by omega)
  have e := hO'.unique hO
  subst e
  have hol := hO.len
  have hil : (ints o').length < 4398046511104 := by simp; omega
  have i1 : dendronlaw27_ints (ints o') (ints o') = some true := by rw [law27_ints_ok (by omega)]; simp
  have ht := rank_Top_ok ho n hil
  rw [dendronlaw27_RankOrders, hf, Option.bind_some, ho', Option.bind_some]
  by_cases h1 : n < ((ints o').length : Int)
  · rw [cnd h1]
    by_cases h2 : n > 0
    · have g1 : (0 : Int) ≤ n := by omega
      have g2 : n ≤ ((ints o').length : Int) := by omega
      have e2 : min n.toNat (ints o').length = (n - 0).toNat := by omega
      rw [e2] at ht
      have i2 : dendronlaw27_ints ((ints o').take ((n - 0).toNat)) ((ints o').take ((n - 0).toNat)) = some true := by rw [law27_ints_ok (by simp; omega)]; simp
      rw [cnd h2, decide_eq_true g1, decide_eq_true g2, decide_eq_true (Int.le_refl n)]
      simp only [Bool.and_self, cond_true, ho, Option.bind_some, i1, ht, i2, law27_awake_ok]
    · have e2 : min n.toNat (ints o').length = 0 := by omega
      rw [e2, List.take_zero] at ht
      have i2 : dendronlaw27_ints [] [] = some true := by rw [law27_ints_ok (by simp)]; simp
      rw [cnd' h2]
      simp only [ho, Option.bind_some, i1, cond_true, ht, i2, law27_awake_ok]
  · have e2 : min n.toNat (ints o').length = (ints o').length := by omega
    rw [e2, List.take_length] at ht
    rw [cnd' h1]
    simp only [ho, Option.bind_some, i1, cond_true, ht, law27_awake_ok]
end Go.Proofs.YtdkcgmbdeimonaaDoor.X

/- Lemmas over the printed texts: rows that are cut; the place of a step; DependPlaces. -/
namespace Go.Proofs.YtdkcgmbdeimonaaDoor.X
open Go
set_option linter.unusedVariables false
set_option linter.unusedSimpArgs false

theorem number09_ok (a : RAT) : dendronlaw09_number a = some (cutR 3 a) := by
  obtain ⟨⟨s, x⟩, y⟩ := a
  unfold dendronlaw09_number cutR
  by_cases h1 : 3 < x.length
  · have c1 : ((x.length : Nat) : Int) > 3 := by omega
    have c2 : (3 : Int) ≤ ((x.length : Nat) : Int) := by omega
    by_cases h2 : 3 < y.length
    · have c3 : ((y.length : Nat) : Int) > 3 := by omega
      have c4 : (3 : Int) ≤ ((y.length : Nat) : Int) := by omega
      rw [cnd c1, cnd c2, cnd c3, cnd c4]
    · have c3 : ¬ ((y.length : Nat) : Int) > 3 := by omega
      rw [cnd c1, cnd c2, cnd' c3, List.take_of_length_le (l := y) (by omega)]
  · have c1 : ¬ ((x.length : Nat) : Int) > 3 := by omega
    by_cases h2 : 3 < y.length
    · have c3 : ((y.length : Nat) : Int) > 3 := by omega
      have c4 : (3 : Int) ≤ ((y.length : Nat) : Int) := by omega
      rw [cnd' c1, cnd c3, cnd c4, List.take_of_length_le (l := x) (by omega)]
    · have c3 : ¬ ((y.length : Nat) : Int) > 3 := by omega
      rw [cnd' c1, cnd' c3, List.take_of_length_le (l := x) (by omega), List.take_of_length_le (l := y) (by omega)]

abbrev CELL := Bool × (Bool × List Int) × List Int
def cutCell (c : CELL) : CELL := (c.1, cutR 3 c.2)
theorem Few09_ok (l : List CELL) (n : Nat) (hl : l.length ≤ 9223372036854775807) (hn : n < 1000000) : dendronlaw09_Few l (n : Int) = some ((l.take n).map cutCell) := by
  have hnn : min l.length n ≤ l.length := Nat.min_le_left _ _
  have key := lp_up (step := dendronlaw09_Few_s3) (fun i => ((l, (n : Int), (l.take i).map cutCell, (i : Int), ()), ())) (min l.length n) (r := (((l.take n).map cutCell, ()), ())) (by omega) (by
    intro g i hi
    have h1 : i < l.length := by omega
    have c1 : (i : Int) < ((l.length : Nat) : Int) := by omega
    have c2 : (i : Int) < (n : Int) := by omega
    have c3 : (0 : Int) ≤ (i : Int) := by omega
    have c4 : (Nat.ble ((((l.take i).map cutCell).length + 1) * 64) 140737488355328 && !false) = true := by
      have : (((l.take i).map cutCell).length + 1) * 64 ≤ 140737488355328 := by simp; omega
      simp only [Nat.ble_eq, this, Bool.not_false, Bool.and_true]
    rw [dendronlaw09_Few_s3, cnd c1, cnd c2, cnd c3, Int.toNat_natCast, List.getElem?_eq_getElem h1, Option.bind_some, number09_ok, Option.bind_some, c4, cond_true, iadd1 (by omega), map_take_succ _ h1]
    rfl) (by
    intro g
    by_cases h : l.length ≤ n
    · have c1 : ¬ ((min l.length n : Nat) : Int) < ((l.length : Nat) : Int) := by omega
      rw [dendronlaw09_Few_s3, cnd' c1, Nat.min_eq_left h, List.take_of_length_le (Nat.le_refl _), List.take_of_length_le h]
    · have c1 : ((min l.length n : Nat) : Int) < ((l.length : Nat) : Int) := by omega
      have c2 : ¬ ((min l.length n : Nat) : Int) < (n : Int) := by omega
      rw [dendronlaw09_Few_s3, cnd c1, cnd' c2, Nat.min_eq_right (by omega)])
  rw [dendronlaw09_Few]
  rw [show ((l, (n : Int), ([] : List CELL), (0 : Int), ()), ()) = (((l, (n : Int), (l.take 0).map cutCell, ((0 : Nat) : Int), ()), ()) : (List CELL × Int × List CELL × Int × Unit) × Unit) from rfl, key]
  rfl

/-- The place of the last step that is not above a number. -/
def atF (v : Nat → Rat) (z : Rat) : Nat → Nat
  | 0 => 0
  | k + 1 => if v (k + 1) ≤ z then k + 1 else atF v z k
theorem rcmp_le {p q : Rat} : rcmp p q ≤ 0 ↔ p ≤ q := by
  rw [← Rat.not_lt, ← rcmp_pos]; omega
theorem depend_At_ok {l : List RAT} (hs : ∀ x ∈ l, Sm x) (hl : l.length < 4398046511104) {z : RAT} (hz : Sm z) : depend_At l z = some ((atF (vals l) (rv z) (l.length - 1) : Nat) : Int) := by
  have key := lp_up (step := depend_At_s3) (fun i => ((l, ((atF (vals l) (rv z) i : Nat) : Int), ((i + 1 : Nat) : Int), ()), ((z.1.1, z.1.2, z.2, ()), ()))) (l.length - 1) (r := ((((atF (vals l) (rv z) (l.length - 1) : Nat) : Int), ()), ())) (by omega) (by
    intro g i hi
    have h1 : i + 1 < l.length := by omega
    have c1 : ((i + 1 : Nat) : Int) < ((l.length : Nat) : Int) := by omega
    have c2 : (0 : Int) ≤ ((i + 1 : Nat) : Int) := by omega
    have hc := ratio_Cmp_ok (hs _ (List.getElem_mem h1)) hz
    rw [← vals_get h1] at hc
    have hc' : ratio_Cmp l[i + 1] ((z.1.1, z.1.2), z.2) = some (rcmp (vals l (i + 1)) (rv z)) := hc
    have e1 : iadd .i64 ((i + 1 : Nat) : Int) 1 = ((i + 1 + 1 : Nat) : Int) := by rw [iadd_i] <;> omega
    rw [depend_At_s3, cnd c1, cnd c2, Int.toNat_natCast, List.getElem?_eq_getElem h1, Option.bind_some, hc', Option.bind_some, e1]
    simp only [atF]
    by_cases h : vals l (i + 1) ≤ rv z
    · rw [cnd (rcmp_le.2 h), if_pos h]
    · rw [cnd' (fun h' => h (rcmp_le.1 h')), if_neg h]) (by
    intro g
    have c1 : ¬ ((l.length - 1 + 1 : Nat) : Int) < ((l.length : Nat) : Int) := by omega
    rw [depend_At_s3, cnd' c1])
  rw [depend_At]
  rw [show ((l, (0 : Int), (1 : Int), ()), ((z.1.1, z.1.2, z.2, ()), ())) = (((l, ((atF (vals l) (rv z) 0 : Nat) : Int), ((0 + 1 : Nat) : Int), ()), ((z.1.1, z.1.2, z.2, ()), ())) : (List RAT × Int × Int × Unit) × (Bool × List Int × List Int × Unit) × Unit) from rfl, key]
  rfl

theorem rat_nat (n : Nat) : ((n : Int) : Rat) = (n : Rat) := rfl
theorem SzQ.smallInt {z : Int} (h : z.natAbs < 4294967296) : Sm (canQ (z : Rat)) := (SzQ.int h).sm (by decide)

theorem law13_awake_ok : dendronlaw13_awake = some true := by
  have h0 := ratio_Of_ok (n := 0) (by decide) (by decide)
  have h1 := ratio_Of_ok (n := 1) (by decide) (by decide)
  have h2 := ratio_Of_ok (n := 2) (by decide) (by decide)
  have h3 := ratio_Frac_ok (n := 3) (d := 2) (by decide) (by decide) (by decide) (by decide)
  have s0 : Sm (canQ ((0 : Int) : Rat)) := SzQ.smallInt (by decide)
  have s1 : Sm (canQ ((1 : Int) : Rat)) := SzQ.smallInt (by decide)
  have s2 : Sm (canQ ((2 : Int) : Rat)) := SzQ.smallInt (by decide)
  have s3 : Sm (canQ (((3 : Int) : Rat) / ((2 : Int) : Rat))) := ((SzQ.int (z := 3) (by decide)).div (SzQ.int (z := 2) (by decide))).sm (by decide)
  have w0 := rv_canQ ((0 : Int) : Rat)
  have w1 := rv_canQ ((1 : Int) : Rat)
  have w2 := rv_canQ ((2 : Int) : Rat)
  have w3 := rv_canQ (((3 : Int) : Rat) / ((2 : Int) : Rat))
  generalize canQ ((0 : Int) : Rat) = A at *
  generalize canQ ((1 : Int) : Rat) = B at *
  generalize canQ ((2 : Int) : Rat) = C at *
  generalize canQ (((3 : Int) : Rat) / ((2 : Int) : Rat)) = D at *
  have hd := depend_At_ok (l := [A, B, C]) (by
    intro x hx
    simp at hx
    rcases hx with rfl | rfl | rfl
    · exact s0
    · exact s1
    · exact s2) (by simp) s3
  have e : atF (vals [A, B, C]) (rv D) ([A, B, C].length - 1) = 1 := by
    show (if vals [A, B, C] 2 ≤ rv D then 2 else if vals [A, B, C] 1 ≤ rv D then 1 else 0) = 1
    have v1 : vals [A, B, C] 1 = ((1 : Int) : Rat) := by simpa [vals] using w1
    have v2 : vals [A, B, C] 2 = ((2 : Int) : Rat) := by simpa [vals] using w2
    rw [v1, v2, w3]
    have h1 : ¬ ((2 : Int) : Rat) ≤ ((3 : Int) : Rat) / ((2 : Int) : Rat) := by rw [Rat.not_le, Rat.div_lt_iff (by decide), ← Rat.intCast_mul]; decide
    have h2 : ((1 : Int) : Rat) ≤ ((3 : Int) : Rat) / ((2 : Int) : Rat) := by rw [← Rat.not_lt, Rat.div_lt_iff (by decide), ← Rat.intCast_mul]; decide
    rw [if_neg h1, if_pos h2]
  rw [e] at hd
  rw [dendronlaw13_awake, h0, Option.bind_some, h1, Option.bind_some, h2, Option.bind_some, h3, Option.bind_some, hd, Option.bind_some]
  rfl

theorem DependPlaces_true (l : List RAT) (z : RAT) (hl : l.length ≤ 9223372036854775807) : dendronlaw13_DependPlaces l z = some true := by
  have key := lp_up (step := dendronlaw13_DependPlaces_s3) (fun i => ((l, (l.take i).map (cutR 3), (i : Int), ()), ((z.1.1, z.1.2, z.2, ()), ()))) (min l.length 12) (r := (((l.take 12).map (cutR 3), ()), ((z.1.1, z.1.2, z.2, ()), ()))) (by omega) (by
    intro g i hi
    have h1 : i < l.length := by omega
    have c1 : (i : Int) < ((l.length : Nat) : Int) := by omega
    have c2 : (i : Int) < 12 := by omega
    have c3 : (0 : Int) ≤ (i : Int) := by omega
    have hf : dendronlaw09_Few [(false, l[i])] 1 = some [(false, cutR 3 l[i])] := Few09_ok [(false, l[i])] 1 (by simp) (by decide)
    have c4 : (Nat.ble ((((l.take i).map (cutR 3)).length + 1) * 56) 140737488355328 && !false) = true := by
      have : (((l.take i).map (cutR 3)).length + 1) * 56 ≤ 140737488355328 := by simp; omega
      simp only [Nat.ble_eq, this, Bool.not_false, Bool.and_true]
    rw [dendronlaw13_DependPlaces_s3, cnd c1, cnd c2, cnd c3, Int.toNat_natCast, List.getElem?_eq_getElem h1, Option.bind_some, hf, Option.bind_some, cnd (by simp), List.getElem?_cons_zero, Option.bind_some, c4, cond_true, iadd1 (by omega), map_take_succ _ h1]
    rfl) (by
    intro g
    by_cases h : l.length ≤ 12
    · have c1 : ¬ ((min l.length 12 : Nat) : Int) < ((l.length : Nat) : Int) := by omega
      rw [dendronlaw13_DependPlaces_s3, cnd' c1, Nat.min_eq_left h, List.take_of_length_le (Nat.le_refl _), List.take_of_length_le h]
    · have c1 : ((min l.length 12 : Nat) : Int) < ((l.length : Nat) : Int) := by omega
      have c2 : ¬ ((min l.length 12 : Nat) : Int) < 12 := by omega
      rw [dendronlaw13_DependPlaces_s3, cnd c1, cnd' c2, Nat.min_eq_right (by omega)])
  have hs : ∀ x ∈ (l.take 12).map (cutR 3), Sm x := by
    intro x hx
    obtain ⟨y, _, rfl⟩ := List.mem_map.1 hx
    exact (cutR_sz 3 y).sm (by decide)
  have hlen : ((l.take 12).map (cutR 3)).length ≤ 12 := by simp; omega
  have hz : Sm (cutR 3 z) := (cutR_sz 3 z).sm (by decide)
  have hf : dendronlaw09_Few [(false, ((z.1.1, z.1.2), z.2))] 1 = some [(false, cutR 3 z)] := Few09_ok [(false, z)] 1 (by simp) (by decide)
  have key0 : lp dendronlaw13_DependPlaces_s3 K0 ((l, [], 0, ()), ((z.1.1, z.1.2, z.2, ()), ())) = some (((l.take 12).map (cutR 3), ()), ((z.1.1, z.1.2, z.2, ()), ())) := key
  generalize (l.take 12).map (cutR 3) = m at *
  generalize cutR 3 z = w at *
  have key2 := lp_up (step := dendronlaw13_DependPlaces_s9) (fun i => ((m, ((atF (vals m) (rv w) i : Nat) : Int), ((i + 1 : Nat) : Int), ()), ((w.1.1, w.1.2, w.2, ()), ()))) (m.length - 1) (r := ((m, ((atF (vals m) (rv w) (m.length - 1) : Nat) : Int), ()), ((w.1.1, w.1.2, w.2, ()), ()))) (by omega) (by
    intro g i hi
    have h1 : i + 1 < m.length := by omega
    have c1 : ((i + 1 : Nat) : Int) < ((m.length : Nat) : Int) := by omega
    have c2 : (0 : Int) ≤ ((i + 1 : Nat) : Int) := by omega
    have hc := ratio_Cmp_ok (hs _ (List.getElem_mem h1)) hz
    rw [← vals_get h1] at hc
    have hc' : ratio_Cmp m[i + 1] ((w.1.1, w.1.2), w.2) = some (rcmp (vals m (i + 1)) (rv w)) := hc
    have e1 : iadd .i64 ((i + 1 : Nat) : Int) 1 = ((i + 1 + 1 : Nat) : Int) := by rw [iadd_i] <;> omega
    rw [dendronlaw13_DependPlaces_s9, cnd c1, cnd2 c2 c1, Int.toNat_natCast, List.getElem?_eq_getElem h1, Option.bind_some, hc', Option.bind_some, e1]
    simp only [atF]
    by_cases h : vals m (i + 1) ≤ rv w
    · rw [cnd (rcmp_le.2 h), if_pos h]
    · rw [cnd' (fun h' => h (rcmp_le.1 h')), if_neg h]) (by
    intro g
    have c1 : ¬ ((m.length - 1 + 1 : Nat) : Int) < ((m.length : Nat) : Int) := by omega
    rw [dendronlaw13_DependPlaces_s9, cnd' c1])
  have key3 : lp dendronlaw13_DependPlaces_s9 K0 ((m, 0, 1, ()), ((w.1.1, w.1.2, w.2, ()), ())) = some ((m, ((atF (vals m) (rv w) (m.length - 1) : Nat) : Int), ()), ((w.1.1, w.1.2, w.2, ()), ())) := key2
  have hat := depend_At_ok hs (by omega) hz
  have hat' : depend_At m ((w.1.1, w.1.2), w.2) = some ((atF (vals m) (rv w) (m.length - 1) : Nat) : Int) := hat
  rw [dendronlaw13_DependPlaces, key0, Option.bind_some, hf, Option.bind_some, cnd (by simp), List.getElem?_cons_zero, Option.bind_some, key3, Option.bind_some, hat', Option.bind_some, cnd rfl, law13_awake_ok]
  rfl
end Go.Proofs.YtdkcgmbdeimonaaDoor.X

