/- Lemmas over the printed texts: the order by choice; RankOrders. -/
import Derived.Test.YtdkcgmbdeimonaaDoorKd6

namespace Go.Proofs.YtdkcgmbdeimonaaDoor.X
open Go
set_option linter.unusedVariables false
set_option linter.unusedSimpArgs false

/-- What is not yet taken. -/
def left (n : Nat) (o : List Nat) : List Nat := (List.range n).filter fun j => !decide (j ∈ o)
theorem mem_left {n : Nat} {o : List Nat} {j : Nat} : j ∈ left n o ↔ j < n ∧ j ∉ o := by simp [left]
def usedOf (n : Nat) (o : List Nat) : List Bool := (List.range n).map fun j => decide (j ∈ o)
@[simp] theorem usedOf_len (n : Nat) (o : List Nat) : (usedOf n o).length = n := by simp [usedOf]
theorem usedOf_get {n : Nat} {o : List Nat} {j : Nat} (h : j < n) : (usedOf n o)[j]? = some (decide (j ∈ o)) := by simp [usedOf, h]
theorem usedOf_set {n : Nat} {o : List Nat} {b : Nat} (h : b < n) : (usedOf n o).set b true = usedOf n (o ++ [b]) := by
  apply List.ext_getElem?
  intro j
  rw [List.getElem?_set]
  by_cases hj : j < n
  · rw [usedOf_get hj]
    by_cases hb : b = j
    · subst hb; simp [h, usedOf]
    · rw [if_neg hb, usedOf_get hj]
      simp [show ¬ j = b from fun e => hb e.symm]
  · rw [List.getElem?_eq_none (by simp; omega), List.getElem?_eq_none (by simp; omega)]
    split
    · rw [if_neg (by simp; omega)]
    · rfl

theorem best_ok {l : List RAT} (hs : ∀ x ∈ l, Sm x) (hl : l.length < 4398046511104) {o : List Nat} (out : List Int) (k : Int) (hne : left l.length o ≠ []) :
    ∃ b : Nat, b ∈ left l.length o ∧ (∀ j ∈ left l.length o, j ≠ b → pre (vals l) b j) ∧
      lp dendronlaw27_order_s8 K0 ((l, usedOf l.length o, out, k, -1, 0, ()), ()) = some ((l, usedOf l.length o, out, k, (b : Int), ()), ()) := by
  obtain ⟨r, ⟨z, rfl, hz⟩, hlp⟩ := lp_inv (step := dendronlaw27_order_s8)
    (fun i s => ∃ z : Int, s = ((l, usedOf l.length o, out, k, z, (i : Int), ()), ()) ∧ ((z = -1 ∧ ∀ j, j < i → j ∈ o) ∨ ∃ b : Nat, z = (b : Int) ∧ b < i ∧ b ∉ o ∧ ∀ j, j < i → j ∉ o → j ≠ b → pre (vals l) b j))
    (fun r => ∃ z : Int, r = ((l, usedOf l.length o, out, k, z, ()), ()) ∧ ((z = -1 ∧ ∀ j, j < l.length → j ∈ o) ∨ ∃ b : Nat, z = (b : Int) ∧ b < l.length ∧ b ∉ o ∧ ∀ j, j < l.length → j ∉ o → j ≠ b → pre (vals l) b j)) l.length (v := ((l, usedOf l.length o, out, k, -1, 0, ()), ()))
    ⟨-1, rfl, .inl ⟨rfl, fun j h => by omega⟩⟩ (by omega) (by
      rintro i s hi ⟨z, rfl, hz⟩
      have c0 : (i : Int) < ((l.length : Nat) : Int) := by omega
      have c1 : (0 : Int) ≤ (i : Int) := by omega
      have c2 : (i : Int) < ((usedOf l.length o).length : Int) := by simp; omega
      have e1 := iadd1 (n := i) (by omega)
      by_cases hu : i ∈ o
      · refine ⟨_, ⟨z, rfl, ?_⟩, fun g => ?_⟩
        · rcases hz with ⟨rfl, h⟩ | ⟨b, rfl, h1, h2, h3⟩
          · exact .inl ⟨rfl, fun j hj => by
              by_cases e : j = i
              · subst e; exact hu
              · exact h j (by omega)⟩
          · exact .inr ⟨b, rfl, by omega, h2, fun j hj hjo hjb => h3 j (by
              by_cases e : j = i
              · subst e; exact absurd hu hjo
              · omega) hjo hjb⟩
        · rw [dendronlaw27_order_s8, cnd c0, cnd2 c1 c2, Int.toNat_natCast, usedOf_get hi, Option.bind_some, decide_eq_true hu, e1]
          rfl
      · have head : ∀ g, dendronlaw27_order_s8 g ((l, usedOf l.length o, out, k, z, (i : Int), ()), ()) = bif decide (z < 0) then g ((l, usedOf l.length o, out, k, (i : Int), ((i : Int) + 1), ()), ()) else (bif decide (0 ≤ (i : Int)) then (l[i]?).bind fun x2 => bif decide (0 ≤ z) then (l[z.toNat]?).bind fun x3 => (ratio_Cmp x2 x3).bind fun r4 => bif (decide (r4 > 0)) then (g ((l, usedOf l.length o, out, k, (i : Int), ((i : Int) + 1), ()), ())) else (g ((l, usedOf l.length o, out, k, z, ((i : Int) + 1), ()), ())) else none else none) := by
          intro g
          rw [dendronlaw27_order_s8, cnd c0, cnd2 c1 c2, Int.toNat_natCast, usedOf_get hi, Option.bind_some, decide_eq_false hu, e1]
          rfl
        rcases hz with ⟨rfl, h⟩ | ⟨b, rfl, h1, h2, h3⟩
        · refine ⟨_, ⟨(i : Int), rfl, .inr ⟨i, rfl, by omega, hu, fun j hj hjo hji => absurd (h j (by omega)) hjo⟩⟩, fun g => ?_⟩
          rw [head, cnd (by omega)]
          rfl
        · have hb : b < l.length := by omega
          have hcmp := ratio_Cmp_ok (hs _ (List.getElem_mem hi)) (hs _ (List.getElem_mem hb))
          rw [← vals_get hi, ← vals_get hb] at hcmp
          have c3 : ¬ (b : Int) < 0 := by omega
          have c4 : (0 : Int) ≤ (b : Int) := by omega
          have head2 : ∀ g, dendronlaw27_order_s8 g ((l, usedOf l.length o, out, k, (b : Int), (i : Int), ()), ()) = bif decide (rcmp (vals l i) (vals l b) > 0) then g ((l, usedOf l.length o, out, k, (i : Int), ((i : Int) + 1), ()), ()) else g ((l, usedOf l.length o, out, k, (b : Int), ((i : Int) + 1), ()), ()) := by
            intro g
            rw [head, cnd' c3, cnd c1, List.getElem?_eq_getElem hi, Option.bind_some, cnd c4, Int.toNat_natCast, List.getElem?_eq_getElem hb, Option.bind_some, hcmp, Option.bind_some]
          by_cases hgt : vals l b < vals l i
          · refine ⟨_, ⟨(i : Int), rfl, .inr ⟨i, rfl, by omega, hu, fun j hj hjo hji => ?_⟩⟩, fun g => by rw [head2, cnd (rcmp_pos.2 hgt)]; rfl⟩
            by_cases hjb : j = b
            · subst hjb; exact .inl hgt
            · exact pre_trans (.inl hgt) (h3 j (by omega) hjo hjb)
          · refine ⟨_, ⟨(b : Int), rfl, .inr ⟨b, rfl, by omega, h2, fun j hj hjo hjb => ?_⟩⟩, fun g => by rw [head2, cnd' (fun h => hgt (rcmp_pos.1 h))]; rfl⟩
            by_cases hji : j = i
            · subst hji
              by_cases hlt : vals l j < vals l b
              · exact .inl hlt
              · exact .inr ⟨Rat.le_antisymm (Rat.not_lt.1 hlt) (Rat.not_lt.1 hgt), h1⟩
            · exact h3 j (by omega) hjo hjb) (by
      rintro s ⟨z, rfl, hz⟩
      exact ⟨((l, usedOf l.length o, out, k, z, ()), ()), ⟨z, rfl, hz⟩, fun g => by simp [dendronlaw27_order_s8]⟩)
  rcases hz with ⟨rfl, h⟩ | ⟨b, rfl, h1, h2, h3⟩
  · exfalso
    apply hne
    apply List.eq_nil_iff_forall_not_mem.2
    intro j hj
    rw [mem_left] at hj
    exact hj.2 (h j hj.1)
  · exact ⟨b, mem_left.2 ⟨h1, h2⟩, fun j hj hjb => h3 j (mem_left.1 hj).1 (mem_left.1 hj).2 hjb, hlp⟩

theorem left_take {n : Nat} {o : List Nat} {b : Nat} (hb : b ∈ left n o) : (b :: left n (o ++ [b])).Perm (left n o) := by
  have hnd : (left n o).Nodup := List.Nodup.sublist List.filter_sublist List.nodup_range
  have e : left n (o ++ [b]) = (left n o).erase b := by
    rw [List.Nodup.erase_eq_filter hnd]
    unfold left
    rw [List.filter_filter]
    congr 1
    funext j
    by_cases h1 : j ∈ o <;> by_cases h2 : j = b <;> simp [h1, h2]
  rw [e]
  exact (List.perm_cons_erase hb).symm

theorem law27_order_ok {l : List RAT} (hs : ∀ x ∈ l, Sm x) (hl : l.length < 4398046511104) : ∃ o, dendronlaw27_order l = some (ints o) ∧ Ordered (vals l) l.length o := by
  obtain ⟨r, ⟨o, rfl, ho⟩, hlp⟩ := lp_inv (step := dendronlaw27_order_s4)
    (fun i s => ∃ o : List Nat, s = ((l, usedOf l.length o, ints o, (i : Int), ()), ()) ∧ o.length = i ∧ o.Pairwise (pre (vals l)) ∧ (∀ a ∈ o, ∀ j ∈ left l.length o, pre (vals l) a j) ∧ (o ++ left l.length o).Perm (List.range l.length))
    (fun r => ∃ o : List Nat, r = ((ints o, ()), ()) ∧ Ordered (vals l) l.length o) l.length (v := ((l, List.replicate l.length false, [], 0, ()), ()))
    ⟨[], by simp [usedOf, ints, List.map_const'], rfl, List.Pairwise.nil, by simp, by rw [List.nil_append, show left l.length [] = List.range l.length from List.filter_eq_self.2 (by simp)]⟩ (by omega) (by
      rintro i s hi ⟨o, rfl, hol, hpw, hall, hperm⟩
      have hne : left l.length o ≠ [] := by
        intro e
        rw [e, List.append_nil] at hperm
        have := hperm.length_eq
        simp at this; omega
      obtain ⟨b, hb, hbest, hbl⟩ := best_ok hs hl (ints o) (i : Int) hne
      have hbn := (mem_left.1 hb).1
      refine ⟨((l, usedOf l.length (o ++ [b]), ints (o ++ [b]), ((i + 1 : Nat) : Int), ()), ()), ⟨o ++ [b], rfl, by simp [hol], ?_, ?_, ?_⟩, fun g => ?_⟩
      · rw [List.pairwise_append]
        exact ⟨hpw, by simp, fun a ha c hc => by
          simp at hc; subst hc; exact hall a ha c hb⟩
      · intro a ha j hj
        have hj' := mem_left.1 hj
        have hjo : j ∈ left l.length o := mem_left.2 ⟨hj'.1, fun h => hj'.2 (List.mem_append_left _ h)⟩
        rcases List.mem_append.1 ha with ha | ha
        · exact hall a ha j hjo
        · simp at ha; subst ha
          exact hbest j hjo (fun e => hj'.2 (by subst e; simp))
      · rw [List.append_assoc]
        exact (List.Perm.append_left o (left_take hb)).trans hperm
      · have c0 : (i : Int) < ((l.length : Nat) : Int) := by omega
        have c1 : (0 : Int) ≤ (b : Int) := by omega
        have c2 : (b : Int) < ((usedOf l.length o).length : Int) := by simp; omega
        have c3 : (Nat.ble (((ints o).length + 1) * 8) 140737488355328 && !false) = true := by
          have : ((ints o).length + 1) * 8 ≤ 140737488355328 := by simp; omega
          simp only [Nat.ble_eq, this, Bool.not_false, Bool.and_true]
        rw [dendronlaw27_order_s4, cnd c0, hbl, Option.bind_some, cnd2 c1 c2, Int.toNat_natCast, usedOf_get hbn, Option.bind_some, c3, cond_true, usedOf_set hbn, iadd1 (by omega)]
        simp [ints]) (by
      rintro s ⟨o, rfl, hol, hpw, hall, hperm⟩
      have hlen := hperm.length_eq
      have hnil : left l.length o = [] := by
        apply List.eq_nil_of_length_eq_zero
        simp at hlen; omega
      rw [hnil, List.append_nil] at hperm
      exact ⟨((ints o, ()), ()), ⟨o, rfl, hpw, hperm⟩, fun g => by simp [dendronlaw27_order_s4]⟩)
  refine ⟨o, ?_, ho⟩
  have g1 : (((1 : Nat) : Int) * (l.length : Int) ≤ 281474976710656) := by omega
  have g2 : (l.length : Int) ≤ 9223372036854775807 := by omega
  have g3 : (0 : Int) ≤ (l.length : Int) := by omega
  rw [dendronlaw27_order, decide_eq_true rfl, decide_eq_true g1, decide_eq_true g2, decide_eq_true g3]
  simp [hlp]

theorem law27_ints_ok {a b : List Int} (hl : a.length < 4611686018427387904) : dendronlaw27_ints a b = some (decide (a = b)) := by
  unfold dendronlaw27_ints
  by_cases hlen : a.length = b.length
  · have c0 : ((a.length : Nat) : Int) = ((b.length : Nat) : Int) := by omega
    rw [decide_eq_true c0]
    obtain ⟨r, hr, hlp⟩ := lp_wf (step := dendronlaw27_ints_s4) (fun s => ∃ i : Nat, s = ((a, b, (i : Int), ()), ()) ∧ i ≤ a.length ∧ a.take i = b.take i) (fun s => (a.length - s.1.2.2.1).toNat)
      (fun r => (r = .inl ((), ()) ∧ a = b) ∨ (r = .inr ((false, ()), ()) ∧ a ≠ b)) (v := ((a, b, 0, ()), ())) ⟨0, rfl, by omega, rfl⟩ (by simp; omega) (by
        rintro s ⟨i, rfl, hi, ht⟩
        by_cases h : i < a.length
        · have hb : i < b.length := by omega
          have c1 : (i : Int) < ((a.length : Nat) : Int) := by omega
          have c2 : (0 : Int) ≤ (i : Int) := by omega
          have st : ∀ g, dendronlaw27_ints_s4 g ((a, b, (i : Int), ()), ()) = bif (!decide (a[i] = b[i])) then some (.inr ((false, ()), ())) else g ((a, b, ((i + 1 : Nat) : Int), ()), ()) := by
            intro g
            rw [dendronlaw27_ints_s4, cnd c1, cnd c2, Int.toNat_natCast, List.getElem?_eq_getElem h, Option.bind_some, cnd c2, List.getElem?_eq_getElem hb, Option.bind_some, iadd1 (by omega)]
            rfl
          by_cases he : a[i] = b[i]
          · refine .inr ⟨_, ⟨i + 1, rfl, by omega, ?_⟩, by simp; omega, fun g => by rw [st, decide_eq_true he]; rfl⟩
            rw [List.take_succ_eq_append_getElem h, List.take_succ_eq_append_getElem hb, ht, he]
          · exact .inl ⟨_, .inr ⟨rfl, fun e => he (by subst e; rfl)⟩, fun g => by rw [st, decide_eq_false he]; rfl⟩
        · refine .inl ⟨_, .inl ⟨rfl, ?_⟩, fun g => ?_⟩
          · rw [List.take_of_length_le (by omega), List.take_of_length_le (by omega)] at ht; exact ht
          · have c1 : ¬ (i : Int) < ((a.length : Nat) : Int) := by omega
            rw [dendronlaw27_ints_s4, cnd' c1])
    rcases hr with ⟨rfl, h⟩ | ⟨rfl, h⟩
    · rw [hlp, decide_eq_true h]; rfl
    · rw [hlp, decide_eq_false h]; rfl
  · have c0 : ¬ ((a.length : Nat) : Int) = ((b.length : Nat) : Int) := by omega
    have : a ≠ b := fun e => hlen (by rw [e])
    rw [decide_eq_false c0, decide_eq_false this]
    rfl

theorem rank_Top_ok {l : List RAT} {o : List Int} (ho : rank_Order l = some o) (n : Int) (hl : o.length < 4398046511104) : rank_Top l n = some (o.take (min n.toNat o.length)) := by
  rw [rank_Top, ho, Option.bind_some]
  by_cases hn : n < 0
  · have e : mn 0 (o.length : Int) = 0 := by unfold mn; split <;> omega
    have e2 : min n.toNat o.length = 0 := by omega
    rw [cnd hn, e, e2]
    simp
  · have e : mn n (o.length : Int) = ((min n.toNat o.length : Nat) : Int) := by unfold mn; split <;> omega
    rw [cnd' hn, e]
    have h1 : ((min n.toNat o.length : Nat) : Int) ≤ (o.length : Int) := by omega
    have h2 : (0 : Int) ≤ ((min n.toNat o.length : Nat) : Int) := by omega
    rw [decide_eq_true h1, decide_eq_true h2, decide_eq_true (Int.le_refl _)]
    have e3 : (((min n.toNat o.length : Nat) : Int) - 0).toNat = min n.toNat o.length := by omega
    simp only [Bool.and_self, cond_true, e3]

theorem law27_awake_ok : dendronlaw27_awake = some true := by
  have h1 := ratio_Of_ok (n := 1) (by decide) (by decide)
  have h3 := ratio_Of_ok (n := 3) (by decide) (by decide)
  have s1 : Sm (canQ ((1 : Int) : Rat)) := (SzQ.int (z := 1) (by decide)).sm (by decide)
  have s3 : Sm (canQ ((3 : Int) : Rat)) := (SzQ.int (z := 3) (by decide)).sm (by decide)
  have w1 := rv_canQ ((1 : Int) : Rat)
  have w3 := rv_canQ ((3 : Int) : Rat)
  generalize canQ ((1 : Int) : Rat) = A at *
  generalize canQ ((3 : Int) : Rat) = B at *
  obtain ⟨o, ho, hO⟩ := rank_Order_ok (l := [A, B, B]) (by
    intro x hx
    simp at hx
    rcases hx with rfl | rfl
    · exact s1
    · exact s3) (by simp)
  have e : o = [1, 2, 0] := by
    apply hO.unique
    have v0 : vals [A, B, B] 0 = ((1 : Int) : Rat) := by simpa [vals] using w1
    have v1 : vals [A, B, B] 1 = ((3 : Int) : Rat) := by simpa [vals] using w3
    have v2 : vals [A, B, B] 2 = ((3 : Int) : Rat) := by simpa [vals] using w3
    have lt : ((1 : Int) : Rat) < ((3 : Int) : Rat) := by decide
    constructor
    · refine List.Pairwise.cons ?_ (List.Pairwise.cons ?_ (List.Pairwise.cons ?_ List.Pairwise.nil))
      · intro a ha
        simp at ha
        rcases ha with rfl | rfl
        · exact .inr ⟨by rw [v1, v2], by decide⟩
        · exact .inl (by rw [v0, v1]; exact lt)
      · intro a ha
        simp at ha
        subst ha
        exact .inl (by rw [v0, v2]; exact lt)
      · intro a ha; cases ha
    · show List.Perm [1, 2, 0] (List.range 3)
      decide
  subst e
  rw [dendronlaw27_awake, h1, Option.bind_some, h3, Option.bind_some, Option.bind_some, ho, Option.bind_some]
  rfl

theorem RankOrders_true (l : List RAT) (n : Int) (hl : l.length ≤ 9223372036854775807) : dendronlaw27_RankOrders l n = some true := by
  have hf := Few19_ok l hl
  have hs : ∀ x ∈ (l.take 33).map (cutR 2), Sm x := by
    intro x hx
    obtain ⟨y, _, rfl⟩ := List.mem_map.1 hx
    exact (cutR_sz 2 y).sm (by decide)
  have hlen : ((l.take 33).map (cutR 2)).length ≤ 33 := by simp; omega
  generalize (l.take 33).map (cutR 2) = m at *
  obtain ⟨o, ho, hO⟩ := rank_Order_ok hs (by omega)
  obtain ⟨o', ho', hO'⟩ := law27_order_ok hs (by omega)
  have e := hO'.unique hO
  subst e
  have hol := hO.len
  have hil : (ints o').length < 4398046511104 := by simp; omega
  have i1 : dendronlaw27_ints (ints o') (ints o') = some true := by rw [law27_ints_ok (by omega)]; simp
  have ht := rank_Top_ok ho n hil
  rw [dendronlaw27_RankOrders, hf, Option.bind_some, ho', Option.bind_some]
  by_cases h1 : n < ((ints o').length : Int)
  · rw [cnd h1]
    by_cases h2 : n > 0
    · have g1 : (0 : Int) ≤ n := by omega
      have g2 : n ≤ ((ints o').length : Int) := by omega
      have e2 : min n.toNat (ints o').length = (n - 0).toNat := by omega
      rw [e2] at ht
      have i2 : dendronlaw27_ints ((ints o').take ((n - 0).toNat)) ((ints o').take ((n - 0).toNat)) = some true := by rw [law27_ints_ok (by simp; omega)]; simp
      rw [cnd h2, decide_eq_true g1, decide_eq_true g2, decide_eq_true (Int.le_refl n)]
      simp only [Bool.and_self, cond_true, ho, Option.bind_some, i1, ht, i2, law27_awake_ok]
    · have e2 : min n.toNat (ints o').length = 0 := by omega
      rw [e2, List.take_zero] at ht
      have i2 : dendronlaw27_ints [] [] = some true := by rw [law27_ints_ok (by simp)]; simp
      rw [cnd' h2]
      simp only [ho, Option.bind_some, i1, cond_true, ht, i2, law27_awake_ok]
  · have e2 : min n.toNat (ints o').length = (ints o').length := by omega
    rw [e2, List.take_length] at ht
    rw [cnd' h1]
    simp only [ho, Option.bind_some, i1, cond_true, ht, law27_awake_ok]
end Go.Proofs.YtdkcgmbdeimonaaDoor.X

/- Lemmas over the printed texts: rows that are cut; the place of a step; DependPlaces. -/
namespace Go.Proofs.YtdkcgmbdeimonaaDoor.X
open Go
set_option linter.unusedVariables false
set_option linter.unusedSimpArgs false

theorem number09_ok (a : RAT) : dendronlaw09_number a = some (cutR 3 a) := by
  obtain ⟨⟨s, x⟩, y⟩ := a
  unfold dendronlaw09_number cutR
  by_cases h1 : 3 < x.length
  · have c1 : ((x.length : Nat) : Int) > 3 := by omega
    have c2 : (3 : Int) ≤ ((x.length : Nat) : Int) := by omega
    by_cases h2 : 3 < y.length
    · have c3 : ((y.length : Nat) : Int) > 3 := by omega
      have c4 : (3 : Int) ≤ ((y.length : Nat) : Int) := by omega
      rw [cnd c1, cnd c2, cnd c3, cnd c4]
    · have c3 : ¬ ((y.length : Nat) : Int) > 3 := by omega
      rw [cnd c1, cnd c2, cnd' c3, List.take_of_length_le (l := y) (by omega)]
  · have c1 : ¬ ((x.length : Nat) : Int) > 3 := by omega
    by_cases h2 : 3 < y.length
    · have c3 : ((y.length : Nat) : Int) > 3 := by omega
      have c4 : (3 : Int) ≤ ((y.length : Nat) : Int) := by omega
      rw [cnd' c1, cnd c3, cnd c4, List.take_of_length_le (l := x) (by omega)]
    · have c3 : ¬ ((y.length : Nat) : Int) > 3 := by omega
      rw [cnd' c1, cnd' c3, List.take_of_length_le (l := x) (by omega), List.take_of_length_le (l := y) (by omega)]

def cutCell (c : CELL) : CELL := (c.1, cutR 3 c.2)
theorem Few09_ok (l : List CELL) (n : Nat) (hl : l.length ≤ 9223372036854775807) (hn : n < 1000000) : dendronlaw09_Few l (n : Int) = some ((l.take n).map cutCell) := by
  have hnn : min l.length n ≤ l.length := Nat.min_le_left _ _
  have key := lp_up (step := dendronlaw09_Few_s3) (fun i => ((l, (n : Int), (l.take i).map cutCell, (i : Int), ()), ())) (min l.length n) (r := (((l.take n).map cutCell, ()), ())) (by omega) (by
    intro g i hi
    have h1 : i < l.length := by omega
    have c1 : (i : Int) < ((l.length : Nat) : Int) := by omega
    have c2 : (i : Int) < (n : Int) := by omega
    have c3 : (0 : Int) ≤ (i : Int) := by omega
    have c4 : (Nat.ble ((((l.take i).map cutCell).length + 1) * 64) 140737488355328 && !false) = true := by
      have : (((l.take i).map cutCell).length + 1) * 64 ≤ 140737488355328 := by simp; omega
      simp only [Nat.ble_eq, this, Bool.not_false, Bool.and_true]
    rw [dendronlaw09_Few_s3, cnd c1, cnd c2, cnd c3, Int.toNat_natCast, List.getElem?_eq_getElem h1, Option.bind_some, number09_ok, Option.bind_some, c4, cond_true, iadd1 (by omega), map_take_succ _ h1]
    rfl) (by
    intro g
    by_cases h : l.length ≤ n
    · have c1 : ¬ ((min l.length n : Nat) : Int) < ((l.length : Nat) : Int) := by omega
      rw [dendronlaw09_Few_s3, cnd' c1, Nat.min_eq_left h, List.take_of_length_le (Nat.le_refl _), List.take_of_length_le h]
    · have c1 : ((min l.length n : Nat) : Int) < ((l.length : Nat) : Int) := by omega
      have c2 : ¬ ((min l.length n : Nat) : Int) < (n : Int) := by omega
      rw [dendronlaw09_Few_s3, cnd c1, cnd' c2, Nat.min_eq_right (by omega)])
  rw [dendronlaw09_Few]
  rw [show ((l, (n : Int), ([] : List CELL), (0 : Int), ()), ()) = (((l, (n : Int), (l.take 0).map cutCell, ((0 : Nat) : Int), ()), ()) : (List CELL × Int × List CELL × Int × Unit) × Unit) from rfl, key]
  rfl

/-- The place of the last step that is not above a number. -/
def atF (v : Nat → Rat) (z : Rat) : Nat → Nat
  | 0 => 0
  | k + 1 => if v (k + 1) ≤ z then k + 1 else atF v z k
theorem rcmp_le {p q : Rat} : rcmp p q ≤ 0 ↔ p ≤ q := by
  rw [← Rat.not_lt, ← rcmp_pos]; omega
theorem depend_At_ok {l : List RAT} (hs : ∀ x ∈ l, Sm x) (hl : l.length < 4398046511104) {z : RAT} (hz : Sm z) : depend_At l z = some ((atF (vals l) (rv z) (l.length - 1) : Nat) : Int) := by
  have key := lp_up (step := depend_At_s3) (fun i => ((l, ((atF (vals l) (rv z) i : Nat) : Int), ((i + 1 : Nat) : Int), ()), ((z.1.1, z.1.2, z.2, ()), ()))) (l.length - 1) (r := ((((atF (vals l) (rv z) (l.length - 1) : Nat) : Int), ()), ())) (by omega) (by
    intro g i hi
    have h1 : i + 1 < l.length := by omega
    have c1 : ((i + 1 : Nat) : Int) < ((l.length : Nat) : Int) := by omega
    have c2 : (0 : Int) ≤ ((i + 1 : Nat) : Int) := by omega
    have hc := ratio_Cmp_ok (hs _ (List.getElem_mem h1)) hz
    rw [← vals_get h1] at hc
    have hc' : ratio_Cmp l[i + 1] ((z.1.1, z.1.2), z.2) = some (rcmp (vals l (i + 1)) (rv z)) := hc
    have e1 : iadd .i64 ((i + 1 : Nat) : Int) 1 = ((i + 1 + 1 : Nat) : Int) := by rw [iadd_i] <;> omega
    rw [depend_At_s3, cnd c1, cnd c2, Int.toNat_natCast, List.getElem?_eq_getElem h1, Option.bind_some, hc', Option.bind_some, e1]
    simp only [atF]
    by_cases h : vals l (i + 1) ≤ rv z
    · rw [cnd (rcmp_le.2 h), if_pos h]
    · rw [cnd' (fun h' => h (rcmp_le.1 h')), if_neg h]) (by
    intro g
    have c1 : ¬ ((l.length - 1 + 1 : Nat) : Int) < ((l.length : Nat) : Int) := by omega
    rw [depend_At_s3, cnd' c1])
  rw [depend_At]
  rw [show ((l, (0 : Int), (1 : Int), ()), ((z.1.1, z.1.2, z.2, ()), ())) = (((l, ((atF (vals l) (rv z) 0 : Nat) : Int), ((0 + 1 : Nat) : Int), ()), ((z.1.1, z.1.2, z.2, ()), ())) : (List RAT × Int × Int × Unit) × (Bool × List Int × List Int × Unit) × Unit) from rfl, key]
  rfl

theorem rat_nat (n : Nat) : ((n : Int) : Rat) = (n : Rat) := rfl
theorem SzQ.smallInt {z : Int} (h : z.natAbs < 4294967296) : Sm (canQ (z : Rat)) := (SzQ.int h).sm (by decide)

theorem law13_awake_ok : dendronlaw13_awake = some true := by
  have h0 := ratio_Of_ok (n := 0) (by decide) (by decide)
  have h1 := ratio_Of_ok (n := 1) (by decide) (by decide)
  have h2 := ratio_Of_ok (n := 2) (by decide) (by decide)
  have h3 := ratio_Frac_ok (n := 3) (d := 2) (by decide) (by decide) (by decide) (by decide)
  have s0 : Sm (canQ ((0 : Int) : Rat)) := SzQ.smallInt (by decide)
  have s1 : Sm (canQ ((1 : Int) : Rat)) := SzQ.smallInt (by decide)
  have s2 : Sm (canQ ((2 : Int) : Rat)) := SzQ.smallInt (by decide)
  have s3 : Sm (canQ (((3 : Int) : Rat) / ((2 : Int) : Rat))) := ((SzQ.int (z := 3) (by decide)).div (SzQ.int (z := 2) (by decide))).sm (by decide)
  have w0 := rv_canQ ((0 : Int) : Rat)
  have w1 := rv_canQ ((1 : Int) : Rat)
  have w2 := rv_canQ ((2 : Int) : Rat)
  have w3 := rv_canQ (((3 : Int) : Rat) / ((2 : Int) : Rat))
  generalize canQ ((0 : Int) : Rat) = A at *
  generalize canQ ((1 : Int) : Rat) = B at *
  generalize canQ ((2 : Int) : Rat) = C at *
  generalize canQ (((3 : Int) : Rat) / ((2 : Int) : Rat)) = D at *
  have hd := depend_At_ok (l := [A, B, C]) (by
    intro x hx
    simp at hx
    rcases hx with rfl | rfl | rfl
    · exact s0
    · exact s1
    · exact s2) (by simp) s3
  have e : atF (vals [A, B, C]) (rv D) ([A, B, C].length - 1) = 1 := by
    show (if vals [A, B, C] 2 ≤ rv D then 2 else if vals [A, B, C] 1 ≤ rv D then 1 else 0) = 1
    have v1 : vals [A, B, C] 1 = ((1 : Int) : Rat) := by simpa [vals] using w1
    have v2 : vals [A, B, C] 2 = ((2 : Int) : Rat) := by simpa [vals] using w2
    rw [v1, v2, w3]
    have h1 : ¬ ((2 : Int) : Rat) ≤ ((3 : Int) : Rat) / ((2 : Int) : Rat) := by rw [Rat.not_le, Rat.div_lt_iff (by decide), ← Rat.intCast_mul]; decide
    have h2 : ((1 : Int) : Rat) ≤ ((3 : Int) : Rat) / ((2 : Int) : Rat) := by rw [← Rat.not_lt, Rat.div_lt_iff (by decide), ← Rat.intCast_mul]; decide
    rw [if_neg h1, if_pos h2]
  rw [e] at hd
  rw [dendronlaw13_awake, h0, Option.bind_some, h1, Option.bind_some, h2, Option.bind_some, h3, Option.bind_some, hd, Option.bind_some]
  rfl

theorem DependPlaces_true (l : List RAT) (z : RAT) (hl : l.length ≤ 9223372036854775807) : dendronlaw13_DependPlaces l z = some true := by
  have key := lp_up (step := dendronlaw13_DependPlaces_s3) (fun i => ((l, (l.take i).map (cutR 3), (i : Int), ()), ((z.1.1, z.1.2, z.2, ()), ()))) (min l.length 12) (r := (((l.take 12).map (cutR 3), ()), ((z.1.1, z.1.2, z.2, ()), ()))) (by omega) (by
    intro g i hi
    have h1 : i < l.length := by omega
    have c1 : (i : Int) < ((l.length : Nat) : Int) := by omega
    have c2 : (i : Int) < 12 := by omega
    have c3 : (0 : Int) ≤ (i : Int) := by omega
    have hf : dendronlaw09_Few [(false, l[i])] 1 = some [(false, cutR 3 l[i])] := Few09_ok [(false, l[i])] 1 (by simp) (by decide)
    have c4 : (Nat.ble ((((l.take i).map (cutR 3)).length + 1) * 56) 140737488355328 && !false) = true := by
      have : (((l.take i).map (cutR 3)).length + 1) * 56 ≤ 140737488355328 := by simp; omega
      simp only [Nat.ble_eq, this, Bool.not_false, Bool.and_true]
    rw [dendronlaw13_DependPlaces_s3, cnd c1, cnd c2, cnd c3, Int.toNat_natCast, List.getElem?_eq_getElem h1, Option.bind_some, hf, Option.bind_some, cnd (by simp), List.getElem?_cons_zero, Option.bind_some, c4, cond_true, iadd1 (by omega), map_take_succ _ h1]
    rfl) (by
    intro g
    by_cases h : l.length ≤ 12
    · have c1 : ¬ ((min l.length 12 : Nat) : Int) < ((l.length : Nat) : Int) := by omega
      rw [dendronlaw13_DependPlaces_s3, cnd' c1, Nat.min_eq_left h, List.take_of_length_le (Nat.le_refl _), List.take_of_length_le h]
    · have c1 : ((min l.length 12 : Nat) : Int) < ((l.length : Nat) : Int) := by omega
      have c2 : ¬ ((min l.length 12 : Nat) : Int) < 12 := by omega
      rw [dendronlaw13_DependPlaces_s3, cnd c1, cnd' c2, Nat.min_eq_right (by omega)])
  have hs : ∀ x ∈ (l.take 12).map (cutR 3), Sm x := by
    intro x hx
    obtain ⟨y, _, rfl⟩ := List.mem_map.1 hx
    exact (cutR_sz 3 y).sm (by decide)
  have hlen : ((l.take 12).map (cutR 3)).length ≤ 12 := by simp; omega
  have hz : Sm (cutR 3 z) := (cutR_sz 3 z).sm (by decide)
  have hf : dendronlaw09_Few [(false, ((z.1.1, z.1.2), z.2))] 1 = some [(false, cutR 3 z)] := Few09_ok [(false, z)] 1 (by simp) (by decide)
  have key0 : lp dendronlaw13_DependPlaces_s3 K0 ((l, [], 0, ()), ((z.1.1, z.1.2, z.2, ()), ())) = some (((l.take 12).map (cutR 3), ()), ((z.1.1, z.1.2, z.2, ()), ())) := key
  generalize (l.take 12).map (cutR 3) = m at *
  generalize cutR 3 z = w at *
  have key2 := lp_up (step := dendronlaw13_DependPlaces_s9) (fun i => ((m, ((atF (vals m) (rv w) i : Nat) : Int), ((i + 1 : Nat) : Int), ()), ((w.1.1, w.1.2, w.2, ()), ()))) (m.length - 1) (r := ((m, ((atF (vals m) (rv w) (m.length - 1) : Nat) : Int), ()), ((w.1.1, w.1.2, w.2, ()), ()))) (by omega) (by
    intro g i hi
    have h1 : i + 1 < m.length := by omega
    have c1 : ((i + 1 : Nat) : Int) < ((m.length : Nat) : Int) := by omega
    have c2 : (0 : Int) ≤ ((i + 1 : Nat) : Int) := by omega
    have hc := ratio_Cmp_ok (hs _ (List.getElem_mem h1)) hz
    rw [← vals_get h1] at hc
    have hc' : ratio_Cmp m[i + 1] ((w.1.1, w.1.2), w.2) = some (rcmp (vals m (i + 1)) (rv w)) := hc
    have e1 : iadd .i64 ((i + 1 : Nat) : Int) 1 = ((i + 1 + 1 : Nat) : Int) := by rw [iadd_i] <;> omega
    rw [dendronlaw13_DependPlaces_s9, cnd c1, cnd2 c2 c1, Int.toNat_natCast, List.getElem?_eq_getElem h1, Option.bind_some, hc', Option.bind_some, e1]
    simp only [atF]
    by_cases h : vals m (i + 1) ≤ rv w
    · rw [cnd (rcmp_le.2 h), if_pos h]
    · rw [cnd' (fun h' => h (rcmp_le.1 h')), if_neg h]) (by
    intro g
    have c1 : ¬ ((m.length - 1 + 1 : Nat) : Int) < ((m.length : Nat) : Int) := by omega
    rw [dendronlaw13_DependPlaces_s9, cnd' c1])
  have key3 : lp dendronlaw13_DependPlaces_s9 K0 ((m, 0, 1, ()), ((w.1.1, w.1.2, w.2, ()), ())) = some ((m, ((atF (vals m) (rv w) (m.length - 1) : Nat) : Int), ()), ((w.1.1, w.1.2, w.2, ()), ())) := key2
  have hat := depend_At_ok hs (by omega) hz
  have hat' : depend_At m ((w.1.1, w.1.2), w.2) = some ((atF (vals m) (rv w) (m.length - 1) : Nat) : Int) := hat
  rw [dendronlaw13_DependPlaces, key0, Option.bind_some, hf, Option.bind_some, cnd (by simp), List.getElem?_cons_zero, Option.bind_some, key3, Option.bind_some, hat', Option.bind_some, cnd rfl, law13_awake_ok]
  rfl
end Go.Proofs.YtdkcgmbdeimonaaDoor.X

/- Numbers of digits to the base 10000. -/
namespace Go.Proofs.YtdkcgmbdeimonaaDoor.X
open Go
set_option linter.unusedVariables false
set_option linter.unusedSimpArgs false

/-- The number that digs are: of each the lowest 32 bits. -/
def dd : List Int → Nat
  | [] => 0
  | x :: r => (x % 10000).toNat + 10000 * dd r
@[simp] theorem dd_nil : dd [] = 0 := rfl
/-- Limbs below 2^32. -/
def Dig (a : List Int) : Prop := ∀ x ∈ a, 0 ≤ x ∧ x < 10000
theorem Dig.nil : Dig [] := by intro x h; cases h
theorem Dig.cons {x : Int} {a : List Int} (h : 0 ≤ x ∧ x < 10000) (ha : Dig a) : Dig (x :: a) := by
  intro y hy; rcases List.mem_cons.1 hy with rfl | hy
  · exact h
  · exact ha y hy
theorem Dig.append {a b : List Int} (ha : Dig a) (hb : Dig b) : Dig (a ++ b) := by
  intro y hy; rcases List.mem_append.1 hy with hy | hy
  · exact ha y hy
  · exact hb y hy
theorem Dig.take {a : List Int} (ha : Dig a) (n : Nat) : Dig (a.take n) := fun x h => ha x (List.mem_of_mem_take h)
theorem Dig.drop {a : List Int} (ha : Dig a) (n : Nat) : Dig (a.drop n) := fun x h => ha x (List.mem_of_mem_drop h)
theorem Dig.get {a : List Int} (ha : Dig a) {i : Nat} {x : Int} (h : a[i]? = some x) : 0 ≤ x ∧ x < 10000 := ha x (List.mem_of_getElem? h)
theorem Dig.zeros (n : Nat) : Dig (List.replicate n 0) := by
  intro x h; have := (List.mem_replicate.1 h).2; omega
theorem Dig.set {a : List Int} (ha : Dig a) {i : Nat} {x : Int} (h : 0 ≤ x ∧ x < 10000) : Dig (a.set i x) := by
  intro y hy; rcases List.mem_or_eq_of_mem_set hy with hy | rfl
  · exact ha y hy
  · exact h
theorem dd_append (a b : List Int) : dd (a ++ b) = dd a + 10000 ^ a.length * dd b := by
  induction a with
  | nil => simp
  | cons x a ih => simp only [List.cons_append, dd, ih, List.length_cons, Nat.pow_succ]; grind
theorem dd_zeros (n : Nat) : dd (List.replicate n 0) = 0 := by
  induction n with
  | zero => rfl
  | succ n ih => simp [List.replicate_succ, dd, ih]
theorem dd_lt (a : List Int) : dd a < 10000 ^ a.length := by
  induction a with
  | nil => simp
  | cons x a ih =>
    simp only [dd, List.length_cons, Nat.pow_succ]
    have : (x % 10000).toNat < 10000 := by omega
    have h2 : 10000 * (dd a + 1) ≤ 10000 * 10000 ^ a.length := Nat.mul_le_mul_left _ ih
    rw [Nat.mul_comm (10000 ^ a.length)]
    omega
theorem dd_one (x : Int) (h : 0 ≤ x ∧ x < 10000) : dd [x] = x.toNat := by
  simp only [dd]; omega
theorem dd_take_succ {a : List Int} {i : Nat} {x : Int} (h : a[i]? = some x) : dd (a.take (i + 1)) = dd (a.take i) + 10000 ^ i * (x % 10000).toNat := by
  have hi := (List.getElem?_eq_some_iff.1 h).1
  have e : a.take (i + 1) = a.take i ++ [x] := by rw [List.take_add_one, h]; rfl
  rw [e, dd_append, List.length_take, Nat.min_eq_left (by omega)]
  simp [dd]
theorem dd_take_all {a : List Int} {i : Nat} (h : a.length ≤ i) : dd (a.take i) = dd a := by rw [List.take_of_length_le h]
/-- The digs of a number. -/
def digs (n : Nat) : List Int := if h : n = 0 then [] else ((n % 10000 : Nat) : Int) :: digs (n / 10000)
termination_by n
decreasing_by omega
theorem digs_zero : digs 0 = [] := by rw [digs]; rfl
theorem digs_pos {n : Nat} (h : n ≠ 0) : digs n = ((n % 10000 : Nat) : Int) :: digs (n / 10000) := by
  rw [digs]; simp [h]
theorem digs_small {n : Nat} (h : n ≠ 0) (h' : n < 10000) : digs n = [(n : Int)] := by
  rw [digs_pos h, Nat.div_eq_of_lt h', Nat.mod_eq_of_lt h', digs_zero]
theorem dd_digs (n : Nat) : dd (digs n) = n := by
  induction n using Nat.strongRecOn with
  | _ n ih =>
    by_cases h : n = 0
    · subst h; rw [digs_zero]; rfl
    · rw [digs_pos h]; simp only [dd]; rw [ih _ (by omega)]; omega
theorem digs_dig (n : Nat) : Dig (digs n) := by
  induction n using Nat.strongRecOn with
  | _ n ih =>
    by_cases h : n = 0
    · subst h; rw [digs_zero]; exact Dig.nil
    · rw [digs_pos h]; exact Dig.cons (by omega) (ih _ (by omega))
theorem digs_eq_nil {n : Nat} : digs n = [] ↔ n = 0 := by
  constructor
  · intro h; have := dd_digs n; rw [h] at this; exact this.symm
  · rintro rfl; exact digs_zero
/-- In one form: the last limb is not 0. -/
def DCan (a : List Int) : Prop := Dig a ∧ ∀ x, a.getLast? = some x → x ≠ 0
theorem dcan_eq : ∀ {a : List Int}, DCan a → a = digs (dd a)
  | [], _ => by rw [dd_nil, digs_zero]
  | x :: r, h => by
    have hx := h.1 x List.mem_cons_self
    have hr : DCan r := ⟨fun y hy => h.1 y (List.mem_cons_of_mem _ hy), fun y hy => h.2 y (by rw [List.getLast?_cons, hy]; rfl)⟩
    have ih := dcan_eq hr
    have hne : dd (x :: r) ≠ 0 := by
      simp only [dd]
      cases r with
      | nil => have := h.2 x rfl; simp; omega
      | cons y r' =>
        have : dd (y :: r') ≠ 0 := fun e => by rw [e, digs_zero] at ih; cases ih
        omega
    rw [digs_pos hne]
    simp only [dd]
    have e1 : ((x % 10000).toNat + 10000 * dd r) / 10000 = dd r := by omega
    have e2 : ((((x % 10000).toNat + 10000 * dd r) % 10000 : Nat) : Int) = x := by omega
    rw [e1, e2, ← ih]
theorem digs_dcan (n : Nat) : DCan (digs n) := by
  refine ⟨digs_dig n, ?_⟩
  induction n using Nat.strongRecOn with
  | _ n ih =>
    intro x hx
    by_cases h : n = 0
    · subst h; rw [digs_zero] at hx; cases hx
    · rw [digs_pos h] at hx
      by_cases h2 : n / 10000 = 0
      · rw [h2, digs_zero] at hx; simp only [List.getLast?_singleton, Option.some.injEq] at hx; omega
      · rw [List.getLast?_cons] at hx
        cases h3 : (digs (n / 10000)).getLast? with
        | none => rw [List.getLast?_eq_none_iff] at h3; exact absurd (digs_eq_nil.1 h3) h2
        | some y => rw [h3] at hx; injection hx with hx; subst hx; exact ih _ (by omega) _ h3
theorem digs_inj {n m : Nat} (h : digs n = digs m) : n = m := by rw [← dd_digs n, h, dd_digs]
theorem digs_len_le {n k : Nat} (h : n < 10000 ^ k) : (digs n).length ≤ k := by
  induction k generalizing n with
  | zero => have : n = 0 := by simpa using h
            subst this; rw [digs_zero]; simp
  | succ k ih =>
    by_cases h0 : n = 0
    · subst h0; rw [digs_zero]; simp
    · rw [digs_pos h0, List.length_cons]
      have := ih (n := n / 10000) (by rw [Nat.div_lt_iff_lt_mul (by decide)]; rw [Nat.pow_succ] at h; exact h)
      omega
theorem digs_len_lt {n k : Nat} (h : 10000 ^ k ≤ n) : k < (digs n).length := by
  have := dd_lt (digs n)
  rw [dd_digs] at this
  rcases Nat.lt_or_ge k (digs n).length with h1 | h1
  · exact h1
  · have := Nat.pow_le_pow_right (n := 10000) (by decide) h1
    omega
theorem dd_len_digs (a : List Int) : (digs (dd a)).length ≤ a.length := digs_len_le (dd_lt a)
theorem dnnt {a : List Int} {i : Nat} (h : i < a.length) : dd (a.take (i + 1)) = dd (a.take i) + 10000 ^ i * (a[i] % 10000).toNat := dd_take_succ (List.getElem?_eq_getElem h)
theorem Dig.at {a : List Int} (ha : Dig a) {i : Nat} (h : i < a.length) : 0 ≤ a[i] ∧ a[i] < 10000 := ha _ (List.getElem_mem h)
theorem dd_split {a : List Int} {i : Nat} (h : i < a.length) : dd a = dd (a.take i) + 10000 ^ i * ((a[i] % 10000).toNat + 10000 * dd (a.drop (i + 1))) := by
  have e : a = a.take i ++ (a[i] :: a.drop (i + 1)) := by simp
  conv => lhs; rw [e]
  rw [dd_append]
  simp [dd, Nat.min_eq_left (Nat.le_of_lt h)]
theorem dd_lt_of {a b : List Int} (ha : Dig a) (hb : Dig b) {i : Nat} (h : i < a.length) (h' : i < b.length) (hd : a.drop (i + 1) = b.drop (i + 1)) (hlt : a[i] < b[i]) : dd a < dd b := by
  rw [dd_split h, dd_split h', hd]
  have h1 := dd_lt (a.take i)
  rw [List.length_take, Nat.min_eq_left (Nat.le_of_lt h)] at h1
  have ha := ha.at h
  have hb := hb.at h'
  have h2 : (a[i] % 10000).toNat + 1 ≤ (b[i] % 10000).toNat := by omega
  have h3 : 10000 ^ i * ((a[i] % 10000).toNat + 1 + 10000 * dd (b.drop (i + 1))) ≤ 10000 ^ i * ((b[i] % 10000).toNat + 10000 * dd (b.drop (i + 1))) := Nat.mul_le_mul_left _ (by omega)
  have h4 : 10000 ^ i * ((a[i] % 10000).toNat + 1 + 10000 * dd (b.drop (i + 1))) = 10000 ^ i + 10000 ^ i * ((a[i] % 10000).toNat + 10000 * dd (b.drop (i + 1))) := by grind
  omega
theorem len_lt_dd {n m : Nat} (h : (digs n).length < (digs m).length) : n < m := by
  have h1 := dd_lt (digs n)
  rw [dd_digs] at h1
  rcases Nat.lt_or_ge m (10000 ^ (digs n).length) with h2 | h2
  · have := digs_len_le h2; omega
  · omega
theorem lget_dig {a : List Int} (ha : Dig a) (i : Nat) : 0 ≤ lget a i ∧ lget a i < 10000 := by
  unfold lget
  cases h : a[i]? with
  | none => simp
  | some x => exact ha.get h
theorem dd_take_lget (a : List Int) (i : Nat) : dd (a.take (i + 1)) = dd (a.take i) + 10000 ^ i * (lget a i % 10000).toNat := by
  by_cases h : i < a.length
  · rw [dnnt h]; simp [lget, h]
  · rw [List.take_of_length_le (by omega), List.take_of_length_le (by omega)]
    simp [lget, h]
theorem dd_take_le (a : List Int) (k : Nat) : dd (a.take k) ≤ dd a := by
  conv => rhs; rw [← List.take_append_drop k a]
  rw [dd_append]; omega
theorem dd_take_of_lt {b : List Int} {k : Nat} (h : dd b < 10000 ^ k) : dd (b.take k) = dd b := by
  by_cases hk : b.length ≤ k
  · rw [List.take_of_length_le hk]
  have e : dd b = dd (b.take k) + 10000 ^ k * dd (b.drop k) := by
    conv => lhs; rw [← List.take_append_drop k b]
    rw [dd_append, List.length_take, Nat.min_eq_left (by omega)]
  rcases Nat.eq_zero_or_pos (dd (b.drop k)) with h0 | h0
  · rw [h0] at e; omega
  · have : 10000 ^ k * 1 ≤ 10000 ^ k * dd (b.drop k) := Nat.mul_le_mul_left _ h0
    omega
theorem dd_set {u : List Int} (hu : Dig u) {j : Nat} (hj : j < u.length) {y : Int} (hy : 0 ≤ y ∧ y < 10000) : dd (u.set j y) + 10000 ^ j * u[j].toNat = dd u + 10000 ^ j * y.toNat := by
  have e1 : u = u.take j ++ (u[j] :: u.drop (j + 1)) := by simp
  have e2 : u.set j y = u.take j ++ (y :: u.drop (j + 1)) := List.set_eq_take_append_cons_drop.trans (by simp [hj])
  have b := hu.at hj
  rw [e2]
  have : dd u = dd (u.take j ++ (u[j] :: u.drop (j + 1))) := by rw [← e1]
  rw [this, dd_append, dd_append]
  simp only [List.length_take, Nat.min_eq_left (Nat.le_of_lt hj), dd]
  have k1 : (y % 10000).toNat = y.toNat := by omega
  have k2 : (u[j] % 10000).toNat = u[j].toNat := by omega
  rw [k1, k2]
  grind
theorem dd_drop (a : List Int) {i : Nat} (h : i < a.length) : dd (a.drop i) = (a[i] % 10000).toNat + 10000 * dd (a.drop (i + 1)) := by
  rw [List.drop_eq_getElem_cons h, dd]
theorem digs_len_mono {n m : Nat} (h : n ≤ m) : (digs n).length ≤ (digs m).length := by
  rcases Nat.lt_or_ge (digs m).length (digs n).length with h1 | h1
  · have := len_lt_dd h1; omega
  · exact h1
theorem dd_take_drop (u : List Int) {j : Nat} (hj : j ≤ u.length) : dd u = dd (u.take j) + 10000 ^ j * dd (u.drop j) := by
  conv => lhs; rw [← List.take_append_drop j u]
  rw [dd_append, List.length_take, Nat.min_eq_left hj]
theorem digs_mul_len (x y : Nat) : (digs (x * y)).length ≤ (digs x).length + (digs y).length := by
  apply digs_len_le
  have a1 := dd_lt (digs x)
  have a2 := dd_lt (digs y)
  rw [dd_digs] at a1 a2
  rw [Nat.pow_add]
  exact Nat.mul_lt_mul'' a1 a2
theorem digs_add_len (x y : Nat) : (digs (x + y)).length ≤ max (digs x).length (digs y).length + 1 := by
  apply digs_len_le
  have a1 := dd_lt (digs x)
  have a2 := dd_lt (digs y)
  rw [dd_digs] at a1 a2
  have h1 := Nat.pow_le_pow_right (n := 10000) (by decide) (Nat.le_max_left (digs x).length (digs y).length)
  have h2 := Nat.pow_le_pow_right (n := 10000) (by decide) (Nat.le_max_right (digs x).length (digs y).length)
  rw [Nat.pow_succ]
  omega
theorem digs_pos_len {n : Nat} : ((digs n).length : Int) > 0 ↔ n ≠ 0 := by
  constructor
  · intro h h0; subst h0; rw [digs_zero] at h; simp at h
  · intro h
    have : digs n ≠ [] := fun e => h (digs_eq_nil.1 e)
    have := List.length_pos_iff.2 this
    omega
theorem digs_len0 {n : Nat} : ((digs n).length : Int) = 0 ↔ n = 0 := by
  have := @digs_pos_len n
  omega
theorem ddrop_lt {u : List Int} {j V : Nat} (hu : Dig u) (hj : j < u.length) (h : dd (u.drop (j + 1)) < V) : dd (u.drop j) < 10000 * V := by
  rw [dd_drop u hj]
  have h1 : 10000 * (dd (u.drop (j + 1)) + 1) ≤ 10000 * V := Nat.mul_le_mul_left _ h
  omega

end Go.Proofs.YtdkcgmbdeimonaaDoor.X

/- Lemmas over the printed texts: the reference's natural numbers. -/
namespace Go.Proofs.YtdkcgmbdeimonaaDoor.X
open Go
set_option linter.unusedVariables false
set_option linter.unusedSimpArgs false

theorem rTrim_ok {a : List Int} (ha : Dig a) (hl : a.length < 4611686018427387904) : dendronref01_Trim a = some (digs (dd a)) := by
  obtain ⟨r, ⟨n, hn, rfl, h1, h2⟩, hr⟩ := lp_wf (step := dendronref01_Trim_s2) (fun v => ∃ n : Nat, n ≤ a.length ∧ v = ((a, (n : Int), ()), ()) ∧ dd (a.take n) = dd a) (fun v => v.1.2.1.toNat)
    (fun r => ∃ n : Nat, n ≤ a.length ∧ r = ((a, (n : Int), ()), ()) ∧ dd (a.take n) = dd a ∧ ∀ x, (a.take n).getLast? = some x → x ≠ 0) (v := ((a, (a.length : Int), ()), ()))
    ⟨a.length, Nat.le_refl _, rfl, by simp⟩ (by simp; omega) (by
      rintro v ⟨n, hn, rfl, h1⟩
      cases n with
      | zero => exact .inl ⟨_, ⟨0, by omega, rfl, h1, by simp⟩, fun g => by simp [dendronref01_Trim_s2]⟩
      | succ n =>
        have hl2 : n < a.length := by omega
        have e2 : (0 : Int) < (n : Int) + 1 := by omega
        have e1 := isub1 (n := n) (by omega)
        by_cases h0 : a[n] = 0
        · refine .inr ⟨((a, (n : Int), ()), ()), ⟨n, by omega, rfl, ?_⟩, by simp, fun g => ?_⟩
          · rw [← h1, dnnt hl2, h0]; simp
          · simp [dendronref01_Trim_s2, e1, e2, h0, hl2]
        · refine .inl ⟨_, ⟨n + 1, hn, rfl, h1, ?_⟩, fun g => ?_⟩
          · intro y hy
            rw [List.take_add_one, List.getElem?_eq_getElem hl2] at hy
            simp only [Option.toList_some, List.getLast?_append, List.getLast?_singleton, Option.some_or, Option.some.injEq] at hy
            subst hy; exact h0
          · simp [dendronref01_Trim_s2, e1, e2, h0, hl2])
  have e : a.take n = digs (dd a) := by rw [← h1]; exact dcan_eq ⟨ha.take n, h2⟩
  simp only [dendronref01_Trim, hr, Option.bind_some]
  rw [← e]
  simp [hn]

theorem dcan_of_len {o : List Int} (ho : Dig o) (hl : o.length ≤ (digs (dd o)).length) : o = digs (dd o) := by
  refine dcan_eq ⟨ho, fun x hx h0 => ?_⟩
  subst h0
  have hne : o ≠ [] := by rintro rfl; cases hx
  have hlen : o.length - 1 + 1 = o.length := by have := List.length_pos_iff.2 hne; omega
  have e1 := dd_take_drop o (j := o.length - 1) (by omega)
  have e2 : o.drop (o.length - 1) = [0] := by
    rw [List.getLast?_eq_getElem?] at hx
    have hlt : o.length - 1 < o.length := by omega
    rw [List.drop_eq_getElem_cons hlt, List.drop_eq_nil_of_le (by omega)]
    rw [List.getElem?_eq_getElem hlt] at hx
    injection hx with hx
    rw [hx]
  rw [e2] at e1
  have e3 : dd [0] = 0 := by simp [dd]
  rw [e3, Nat.mul_zero, Nat.add_zero] at e1
  have := dd_len_digs (o.take (o.length - 1))
  rw [← e1, List.length_take] at this
  omega

theorem blt {n : Nat} {k : Nat} (h : n * k ≤ 140737488355328) : (Nat.ble (n * k) 140737488355328 && !false) = true := by
  simp only [Nat.ble_eq, h, Bool.not_false, Bool.and_true]

theorem rSmall_ok {n : Nat} (hn : n < 9223372036854775808) : dendronref01_Small (n : Int) = some (digs n) := by
  obtain ⟨r, rfl, hlp⟩ := lp_wf (step := dendronref01_Small_s2) (fun s => ∃ (m : Nat) (o : List Int), s = (((m : Int), o, ()), ()) ∧ m ≤ n ∧ o.length ≤ n - m ∧ o.length < 100 ∧ m * 10000 ^ o.length ≤ n ∧ o ++ digs m = digs n) (fun s => s.1.1.toNat)
    (fun r => r = ((digs n, ()), ())) (v := (((n : Int), [], ()), ())) ⟨n, [], rfl, Nat.le_refl _, by simp, by simp, by simp, by simp⟩ (by simp; omega) (by
      rintro s ⟨m, o, rfl, hm, hol, ho2, hpw, ho⟩
      by_cases h0 : m = 0
      · subst h0
        refine .inl ⟨_, rfl, fun g => ?_⟩
        rw [digs_zero, List.append_nil] at ho
        rw [dendronref01_Small_s2, cnd' (by decide), ho]
      · have e1 : iquo .i64 (m : Int) 10000 = ((m / 10000 : Nat) : Int) := by rw [iquo_i (by omega) (by omega) (by omega)]; omega
        have e2 : irem (m : Int) 10000 = ((m % 10000 : Nat) : Int) := by rw [irem_n (by omega)]; omega
        have hlen : o.length < 5 := by
          rcases Nat.lt_or_ge o.length 5 with h | h
          · exact h
          · exfalso
            have h1 := Nat.pow_le_pow_right (n := 10000) (by decide) h
            have h2 : 1 * 10000 ^ o.length ≤ m * 10000 ^ o.length := Nat.mul_le_mul_right _ (by omega)
            omega
        refine .inr ⟨((((m / 10000 : Nat) : Int), o ++ [((m % 10000 : Nat) : Int)], ()), ()), ⟨m / 10000, _, rfl, by omega, by simp; omega, by simp; omega, ?_, ?_⟩, by simp; omega, fun g => ?_⟩
        · rw [List.length_append, List.length_singleton, Nat.pow_succ, Nat.mul_comm (10000 ^ o.length), ← Nat.mul_assoc]
          have : m / 10000 * 10000 ≤ m := Nat.div_mul_le_self _ _
          exact Nat.le_trans (Nat.mul_le_mul_right _ this) hpw
        · rw [← ho, digs_pos h0, List.append_assoc]; rfl
        · have c0 : (m : Int) > 0 := by omega
          rw [dendronref01_Small_s2, cnd c0, blt (by omega), cond_true, e1, e2])
  rw [dendronref01_Small, hlp]; rfl

theorem rdigit_ok (a : List Int) (i : Nat) : dendronref01_digit a (i : Int) = some (lget a i) := by
  by_cases h : i < a.length <;> simp [dendronref01_digit, lget, h]

theorem rOrder_ok {n m : Nat} (hn : (digs n).length < 4611686018427387904) : dendronref01_Order (digs n) (digs m) = some (ncmp n m) := by
  unfold dendronref01_Order
  by_cases h1 : (digs n).length < (digs m).length
  · have := len_lt_dd h1
    have c1 : ¬ (((digs n).length : Nat) : Int) = (((digs m).length : Nat) : Int) := by omega
    have c2 : (((digs n).length : Nat) : Int) < (((digs m).length : Nat) : Int) := by omega
    rw [decide_eq_false c1, decide_eq_true c2]
    simp [ncmp, this]
  by_cases h2 : (digs m).length < (digs n).length
  · have := len_lt_dd h2
    have c1 : ¬ (((digs n).length : Nat) : Int) = (((digs m).length : Nat) : Int) := by omega
    have c2 : ¬ (((digs n).length : Nat) : Int) < (((digs m).length : Nat) : Int) := by omega
    rw [decide_eq_false c1, decide_eq_false c2]
    simp [ncmp, this, Nat.not_lt.2 (Nat.le_of_lt this)]
  have hl : (digs m).length = (digs n).length := by omega
  have c1 : (((digs n).length : Nat) : Int) = (((digs m).length : Nat) : Int) := by omega
  rw [decide_eq_true c1]
  have ha := digs_dig n
  have hb := digs_dig m
  have e1 := dd_digs n
  have e2 := dd_digs m
  generalize digs n = a at *
  generalize digs m = b at *
  obtain ⟨r, hr, hlp⟩ := lp_wf (step := dendronref01_Order_s6) (fun v => ∃ j : Nat, j ≤ a.length ∧ v = ((a, b, (j : Int) - 1, ()), ()) ∧ a.drop j = b.drop j) (fun v => (v.1.2.2.1 + 1).toNat)
    (fun r => (r = .inl ((), ()) ∧ a = b) ∨ (r = .inr ((-1, ()), ()) ∧ dd a < dd b) ∨ (r = .inr ((1, ()), ()) ∧ dd b < dd a)) (v := ((a, b, (a.length : Int) - 1, ()), ()))
    ⟨a.length, Nat.le_refl _, rfl, by rw [List.drop_length, ← hl, List.drop_length]⟩ (by simp; omega) (by
      rintro v ⟨j, hj, rfl, hd⟩
      cases j with
      | zero => exact .inl ⟨_, .inl ⟨rfl, by simpa using hd⟩, fun g => by simp [dendronref01_Order_s6]⟩
      | succ j =>
        have hja : j < a.length := by omega
        have hjb : j < b.length := by omega
        have e3 : ((j + 1 : Nat) : Int) - 1 = (j : Int) := by omega
        rw [e3]
        by_cases c1 : a[j] < b[j]
        · exact .inl ⟨_, .inr (.inl ⟨rfl, dd_lt_of ha hb hja hjb hd c1⟩), fun g => by simp [dendronref01_Order_s6, hja, hjb, c1]⟩
        by_cases c2 : b[j] < a[j]
        · exact .inl ⟨_, .inr (.inr ⟨rfl, dd_lt_of hb ha hjb hja hd.symm c2⟩), fun g => by simp [dendronref01_Order_s6, hja, hjb, c1, c2]⟩
        refine .inr ⟨((a, b, (j : Int) - 1, ()), ()), ⟨j, by omega, rfl, ?_⟩, by simp, fun g => ?_⟩
        · rw [List.drop_eq_getElem_cons hja, List.drop_eq_getElem_cons hjb, hd, show a[j] = b[j] by omega]
        · have : isub .i64 (j : Int) 1 = (j : Int) - 1 := by rw [isub_i] <;> omega
          simp [dendronref01_Order_s6, hja, hjb, c1, c2, this])
  have e3 : isub .i64 (a.length : Int) 1 = (a.length : Int) - 1 := by rw [isub_i] <;> omega
  rw [e3, hlp]
  rcases hr with ⟨rfl, h⟩ | ⟨rfl, h⟩ | ⟨rfl, h⟩
  · subst h
    have : n = m := by omega
    subst this
    simp [ncmp]
  · rw [e1, e2] at h
    simp [h1, hl, ncmp, h]
  · rw [e1, e2] at h
    simp [h1, hl, ncmp, h, Nat.not_lt.2 (Nat.le_of_lt h)]

theorem rPlus_ok {x y : Nat} (hx : (digs x).length < 1099511627776) (hy : (digs y).length < 1099511627776) : dendronref01_Plus (digs x) (digs y) = some (digs (x + y)) := by
  have la := digs_dig x
  have lb := digs_dig y
  have ea := dd_digs x
  have eb := dd_digs y
  have m1 := digs_len_mono (Nat.le_add_right x y)
  have m2 := digs_len_mono (Nat.le_add_left y x)
  generalize digs x = a at *
  generalize digs y = b at *
  obtain ⟨r, rfl, hlp⟩ := lp_wf (step := dendronref01_Plus_s4)
    (fun s => ∃ (i : Nat) (c : Nat) (o : List Int), s = ((a, b, o, (c : Int), (i : Int), ()), ()) ∧ o.length = i ∧ Dig o ∧ c ≤ 1 ∧ dd o + 10000 ^ i * c = dd (a.take i) + dd (b.take i) ∧ (i ≤ max a.length b.length ∨ (c = 0 ∧ i = max a.length b.length + 1 ∧ i ≤ (digs (x + y)).length)))
    (fun s => (max a.length b.length + 2 - s.1.2.2.2.2.1).toNat) (fun r => r = ((digs (x + y), ()), ())) (v := ((a, b, [], 0, 0, ()), ()))
    ⟨0, 0, [], rfl, rfl, Dig.nil, by omega, by simp, .inl (by omega)⟩ (by simp; omega) (by
      rintro s ⟨i, c, o, rfl, hol, hod, hc, hs, hi⟩
      have b1 := lget_dig la i
      have b2 := lget_dig lb i
      have q1 : iadd .i64 (iadd .i64 (c : Int) (lget a i)) (lget b i) = (c : Int) + lget a i + lget b i := by
        have : iadd .i64 (c : Int) (lget a i) = (c : Int) + lget a i := by rw [iadd_i] <;> omega
        rw [this, iadd_i] <;> omega
      have q2 : irem ((c : Int) + lget a i + lget b i) 10000 = ((c : Int) + lget a i + lget b i) % 10000 := irem_n (by omega)
      have q3 : iquo .i64 ((c : Int) + lget a i + lget b i) 10000 = ((((c : Int) + lget a i + lget b i) / 10000).toNat : Int) := by rw [iquo_i (by omega) (by omega) (by omega)]; omega
      have hnext : dd (o ++ [((c : Int) + lget a i + lget b i) % 10000]) + 10000 ^ (i + 1) * (((c : Int) + lget a i + lget b i) / 10000).toNat = dd (a.take (i + 1)) + dd (b.take (i + 1)) := by
        rw [dd_append, hol, dd_take_lget, dd_take_lget, dd_one _ (by omega), Nat.pow_succ]
        have k1 : (((c : Int) + lget a i + lget b i) % 10000).toNat + 10000 * (((c : Int) + lget a i + lget b i) / 10000).toNat = c + (lget a i % 10000).toNat + (lget b i % 10000).toNat := by omega
        have k2 : 10000 ^ i * ((((c : Int) + lget a i + lget b i) % 10000).toNat + 10000 * (((c : Int) + lget a i + lget b i) / 10000).toNat) = 10000 ^ i * (c + (lget a i % 10000).toNat + (lget b i % 10000).toNat) := by rw [k1]
        grind
      have hod' : Dig (o ++ [((c : Int) + lget a i + lget b i) % 10000]) := Dig.append hod (Dig.cons (by omega) Dig.nil)
      by_cases him : i < max a.length b.length
      · refine .inr ⟨((a, b, o ++ [((c : Int) + lget a i + lget b i) % 10000], ((((c : Int) + lget a i + lget b i) / 10000).toNat : Int), ((i + 1 : Nat) : Int), ()), ()), ⟨i + 1, _, _, rfl, by simp [hol], hod', by omega, hnext, .inl (by omega)⟩, by simp; omega, fun g => ?_⟩
        by_cases h1 : i < a.length
        · have c1 : (i : Int) < ((a.length : Nat) : Int) := by omega
          rw [dendronref01_Plus_s4, cnd c1, rdigit_ok, Option.bind_some, rdigit_ok, Option.bind_some, blt (by omega), cond_true, q1, q2, q3, iadd1 (by omega)]
          rfl
        · have c1 : ¬ (i : Int) < ((a.length : Nat) : Int) := by omega
          have c2 : (i : Int) < ((b.length : Nat) : Int) := by omega
          rw [dendronref01_Plus_s4, cnd' c1, cnd c2, rdigit_ok, Option.bind_some, rdigit_ok, Option.bind_some, blt (by omega), cond_true, q1, q2, q3, iadd1 (by omega)]
          rfl
      · have c1 : ¬ (i : Int) < ((a.length : Nat) : Int) := by omega
        have c2 : ¬ (i : Int) < ((b.length : Nat) : Int) := by omega
        have t1 : dd (a.take i) = x := by rw [dd_take_all (by omega), ea]
        have t2 : dd (b.take i) = y := by rw [dd_take_all (by omega), eb]
        by_cases hc0 : c = 0
        · subst hc0
          refine .inl ⟨_, rfl, fun g => ?_⟩
          have hval : dd o = x + y := by rw [t1, t2] at hs; simpa using hs
          have : o = digs (x + y) := by
            have := dcan_of_len hod (by rw [hval, hol]; rcases hi with h | ⟨_, _, h⟩ <;> omega)
            rw [hval] at this; exact this
          rw [dendronref01_Plus_s4, cnd' c1, cnd' c2, cnd' (by decide), this]
        · have hc1 : c = 1 := by omega
          have hieq : i = max a.length b.length := by rcases hi with h | ⟨h, _⟩ <;> omega
          have l1 : lget a i = 0 := by simp only [lget]; rw [List.getElem?_eq_none (by omega)]; rfl
          have l2 : lget b i = 0 := by simp only [lget]; rw [List.getElem?_eq_none (by omega)]; rfl
          refine .inr ⟨((a, b, o ++ [((c : Int) + lget a i + lget b i) % 10000], ((((c : Int) + lget a i + lget b i) / 10000).toNat : Int), ((i + 1 : Nat) : Int), ()), ()), ⟨i + 1, _, _, rfl, by simp [hol], hod', by omega, hnext, .inr ⟨by omega, by omega, ?_⟩⟩, by simp; omega, fun g => ?_⟩
          · have : 10000 ^ i ≤ x + y := by rw [← t1, ← t2, ← hs, hc1]; omega
            exact digs_len_lt this
          · have c3 : (c : Int) > 0 := by omega
            rw [dendronref01_Plus_s4, cnd' c1, cnd' c2, cnd c3, rdigit_ok, Option.bind_some, rdigit_ok, Option.bind_some, blt (by omega), cond_true, q1, q2, q3, iadd1 (by omega)]
            rfl)
  rw [dendronref01_Plus, hlp]; rfl
end Go.Proofs.YtdkcgmbdeimonaaDoor.X

/- Lemmas over the printed texts: the reference's products, differences, quotients. -/
namespace Go.Proofs.YtdkcgmbdeimonaaDoor.X
open Go
set_option linter.unusedVariables false
set_option linter.unusedSimpArgs false

theorem rMinus_ok {a b : List Int} (ha : Dig a) (hb : Dig b) (hl : a.length < 4398046511104) (hle : dd b ≤ dd a) : dendronref01_Minus a b = some (digs (dd a - dd b)) := by
  obtain ⟨r, ⟨p, rfl, hp, hpl, hpn⟩, hlp⟩ := lp_inv (step := dendronref01_Minus_s4) (fun i v => ∃ (p : List Int) (d : Nat), v = ((a, b, p, (d : Int), (i : Int), ()), ()) ∧ p.length = i ∧ Dig p ∧ d ≤ 1 ∧ dd p + dd (b.take i) = dd (a.take i) + 10000 ^ i * d)
    (fun r => ∃ p, r = ((p, ()), ()) ∧ p.length = a.length ∧ Dig p ∧ dd p = dd a - dd b) a.length (v := ((a, b, [], 0, 0, ()), ()))
    ⟨[], 0, rfl, rfl, Dig.nil, by omega, by simp⟩ (by omega) (by
      rintro i v hi ⟨p, d, rfl, hp, hpl, hd, hs⟩
      have b1 := ha.at hi
      have b2 := lget_dig hb i
      have q1 : isub .i64 (isub .i64 a[i] (lget b i)) (d : Int) = a[i] - lget b i - d := by
        have : isub .i64 a[i] (lget b i) = a[i] - lget b i := by rw [isub_i] <;> omega
        rw [this, isub_i] <;> omega
      have c0 : (i : Int) < ((a.length : Nat) : Int) := by omega
      have c1 : (0 : Int) ≤ (i : Int) := by omega
      by_cases hneg : a[i] - lget b i - d < 0
      · have q2 : iadd .i64 (a[i] - lget b i - d) 10000 = a[i] - lget b i - d + 10000 := by rw [iadd_i] <;> omega
        refine ⟨((a, b, p ++ [a[i] - lget b i - d + 10000], ((1 : Nat) : Int), ((i + 1 : Nat) : Int), ()), ()), ⟨_, 1, rfl, by simp [hp], Dig.append hpl (Dig.cons (by omega) Dig.nil), by omega, ?_⟩, fun g => ?_⟩
        · rw [dd_append, hp, dd_take_lget, dnnt hi, dd_one _ (by omega), Nat.pow_succ]
          have k1 : (a[i] - lget b i - d + 10000).toNat + (lget b i % 10000).toNat + d = (a[i] % 10000).toNat + 10000 * 1 := by omega
          have k2 : 10000 ^ i * ((a[i] - lget b i - d + 10000).toNat + (lget b i % 10000).toNat + d) = 10000 ^ i * ((a[i] % 10000).toNat + 10000 * 1) := by rw [k1]
          grind
        · rw [dendronref01_Minus_s4, cnd c0, cnd c1, Int.toNat_natCast, List.getElem?_eq_getElem hi, Option.bind_some, rdigit_ok, Option.bind_some, q1, cnd hneg, blt (by omega), cond_true, q2, iadd1 (by omega)]
          rfl
      · refine ⟨((a, b, p ++ [a[i] - lget b i - d], ((0 : Nat) : Int), ((i + 1 : Nat) : Int), ()), ()), ⟨_, 0, rfl, by simp [hp], Dig.append hpl (Dig.cons (by omega) Dig.nil), by omega, ?_⟩, fun g => ?_⟩
        · rw [dd_append, hp, dd_take_lget, dnnt hi, dd_one _ (by omega), Nat.pow_succ]
          have k1 : (a[i] - lget b i - d).toNat + (lget b i % 10000).toNat + d = (a[i] % 10000).toNat := by omega
          have k2 : 10000 ^ i * ((a[i] - lget b i - d).toNat + (lget b i % 10000).toNat + d) = 10000 ^ i * ((a[i] % 10000).toNat) := by rw [k1]
          grind
        · rw [dendronref01_Minus_s4, cnd c0, cnd c1, Int.toNat_natCast, List.getElem?_eq_getElem hi, Option.bind_some, rdigit_ok, Option.bind_some, q1, cnd' hneg, blt (by omega), cond_true, iadd1 (by omega)]
          rfl) (by
      rintro v ⟨p, d, rfl, hp, hpl, hd, hs⟩
      refine ⟨((p, ()), ()), ⟨p, rfl, hp, hpl, ?_⟩, fun g => by simp [dendronref01_Minus_s4]⟩
      rw [dd_take_of_lt (Nat.lt_of_le_of_lt hle (dd_lt a)), List.take_length] at hs
      have k1 := dd_lt p
      rw [hp] at k1
      have : d = 0 := by
        rcases Nat.eq_zero_or_pos d with h | h
        · exact h
        · have : d = 1 := by omega
          subst this
          omega
      subst this
      omega)
  rw [dendronref01_Minus, hlp, Option.bind_some, rTrim_ok hpl (by omega), hpn]
  rfl

theorem dmul_lt_sq {x y c u : Int} (hx : 0 ≤ x ∧ x < 10000) (hy : 0 ≤ y ∧ y < 10000) (hc : 0 ≤ c ∧ c < 10000) (hu : 0 ≤ u ∧ u < 10000) :
    0 ≤ x * y ∧ x * y < 100000000 ∧ u + x * y < 100000000 ∧ c + u + x * y < 100000000 := by
  have h0 : 0 ≤ x * y := Int.mul_nonneg hx.1 hy.1
  have h1 : x * y ≤ 9999 * 9999 := Int.mul_le_mul (by omega) (by omega) hy.1 (by decide)
  omega

theorem rTimes_inner {b a : List Int} {i : Nat} {u : List Int} {Z : Nat} (hb : Dig b) (ha : Dig a) (hi : i < a.length) (hu : Dig u) (hul : u.length = i + b.length) (hsz : i + b.length < 4611686018427387904) :
    ∃ (w : List Int) (c : Nat), lp dendronref01_Times_s7 K0 ((a, b, u ++ List.replicate Z 0, (i : Int), 0, 0, ()), ()) = some ((a, b, w ++ List.replicate Z 0, (i : Int), (c : Int), ()), ()) ∧
      w.length = i + b.length ∧ Dig w ∧ c < 10000 ∧ dd w + 10000 ^ (i + b.length) * c = dd u + 10000 ^ i * (a[i].toNat * dd b) := by
  have hx := ha.at hi
  generalize hxx : a[i] = x at *
  obtain ⟨r, ⟨w, c, rfl, h1, h2, h3, h4⟩, hlp⟩ := lp_inv (step := dendronref01_Times_s7)
    (fun k v => ∃ (w : List Int) (c : Nat), v = ((a, b, w ++ List.replicate Z 0, (i : Int), (c : Int), (k : Int), ()), ()) ∧ w.length = i + b.length ∧ Dig w ∧ c < 10000 ∧ dd w + 10000 ^ (i + k) * c = dd u + 10000 ^ i * (x.toNat * dd (b.take k)))
    (fun r => ∃ (w : List Int) (c : Nat), r = ((a, b, w ++ List.replicate Z 0, (i : Int), (c : Int), ()), ()) ∧ w.length = i + b.length ∧ Dig w ∧ c < 10000 ∧ dd w + 10000 ^ (i + b.length) * c = dd u + 10000 ^ i * (x.toNat * dd b))
    b.length (v := ((a, b, u ++ List.replicate Z 0, (i : Int), 0, 0, ()), ())) ⟨u, 0, rfl, hul, hu, by omega, by simp⟩ (by omega) (by
      rintro k v hk ⟨w, c, rfl, hw, hwl, hc, hs⟩
      have b1 := hb.at hk
      have hik : i + k < w.length := by omega
      have b2 := hwl.at hik
      have b3 : (0 : Int) ≤ c ∧ (c : Int) < 10000 := by omega
      obtain ⟨m0, m1, m2, m3⟩ := dmul_lt_sq hx b1 b3 b2
      have q1 : imul .i64 x b[k] = x * b[k] := by rw [imul_i] <;> omega
      have q2 : iadd .i64 (c : Int) w[i + k] = c + w[i + k] := by rw [iadd_i] <;> omega
      have q3 : iadd .i64 ((c : Int) + w[i + k]) (x * b[k]) = (c : Int) + w[i + k] + x * b[k] := by rw [iadd_i] <;> omega
      have q4 : iadd .i64 (i : Int) (k : Int) = ((i + k : Nat) : Int) := by rw [iadd_i] <;> omega
      have q5 : irem ((c : Int) + w[i + k] + x * b[k]) 10000 = ((c : Int) + w[i + k] + x * b[k]) % 10000 := irem_n (by omega)
      have q6 : iquo .i64 ((c : Int) + w[i + k] + x * b[k]) 10000 = (((((c : Int) + w[i + k] + x * b[k]) / 10000).toNat : Nat) : Int) := by rw [iquo_i (by omega) (by omega) (by omega)]; omega
      refine ⟨((a, b, w.set (i + k) (((c : Int) + w[i + k] + x * b[k]) % 10000) ++ List.replicate Z 0, (i : Int), (((((c : Int) + w[i + k] + x * b[k]) / 10000).toNat : Nat) : Int), ((k + 1 : Nat) : Int), ()), ()), ⟨_, _, rfl, by simpa using hw, hwl.set (by omega), by omega, ?_⟩, fun g => ?_⟩
      · have hset := dd_set hwl hik (y := ((c : Int) + w[i + k] + x * b[k]) % 10000) (by omega)
        rw [dnnt hk, show i + (k + 1) = i + k + 1 from rfl, Nat.pow_succ]
        have k1 : (((c : Int) + w[i + k] + x * b[k]) % 10000).toNat + 10000 * (((c : Int) + w[i + k] + x * b[k]) / 10000).toNat = c + (w[i + k].toNat + (x * b[k]).toNat) := by omega
        have k2 : 10000 ^ (i + k) * ((((c : Int) + w[i + k] + x * b[k]) % 10000).toNat + 10000 * (((c : Int) + w[i + k] + x * b[k]) / 10000).toNat) = 10000 ^ (i + k) * (c + (w[i + k].toNat + (x * b[k]).toNat)) := by rw [k1]
        have k3 : (x * b[k]).toNat = x.toNat * (b[k] % 10000).toNat := by
          rw [Int.toNat_mul hx.1 b1.1]; congr 2; omega
        rw [k3] at k2
        have k4 : 10000 ^ (i + k) = 10000 ^ i * 10000 ^ k := Nat.pow_add ..
        grind
      · have e5 : (w ++ List.replicate Z (0 : Int))[i + k]? = some w[i + k] := by rw [List.getElem?_append_left hik]; exact List.getElem?_eq_getElem hik
        have c0 : (k : Int) < ((b.length : Nat) : Int) := by omega
        have c2 : (0 : Int) ≤ (k : Int) := by omega
        have c3 : (0 : Int) ≤ (i : Int) := by omega
        have e6 : ((i + k : Nat) : Int) < (((w ++ List.replicate Z (0 : Int)).length : Nat) : Int) := by rw [List.length_append]; omega
        have e7 : (0 : Int) ≤ ((i + k : Nat) : Int) := by omega
        rw [dendronref01_Times_s7, cnd c0, q4, cnd2 e7 e6, Int.toNat_natCast, e5, Option.bind_some, cnd c3, Int.toNat_natCast, List.getElem?_eq_getElem hi, Option.bind_some, hxx, cnd c2, Int.toNat_natCast, List.getElem?_eq_getElem hk, Option.bind_some, cnd2 e7 e6, Option.bind_some, q1, q2, q3, q5, q6, List.set_append_left _ _ hik, iadd1 (by omega)]
        rfl) (by
      rintro v ⟨w, c, rfl, hw, hwl, hc, hs⟩
      rw [List.take_length] at hs
      exact ⟨((a, b, w ++ List.replicate Z 0, (i : Int), (c : Int), ()), ()), ⟨w, c, rfl, hw, hwl, hc, hs⟩, fun g => by simp [dendronref01_Times_s7]⟩)
  exact ⟨w, c, hlp, h1, h2, h3, h4⟩

theorem rTimes_ok {x y : List Int} (l1 : Dig x) (l2 : Dig y) (ha : x.length < 4398046511104) (hb : y.length < 4398046511104) : dendronref01_Times x y = some (digs (dd x * dd y)) := by
  have hN : iadd .i64 (x.length : Int) (y.length : Int) = ((x.length + y.length : Nat) : Int) := by rw [iadd_i] <;> omega
  rw [dendronref01_Times, hN]
  obtain ⟨r, ⟨p, rfl, hp, hpl, hpn⟩, hlp⟩ := lp_inv (step := dendronref01_Times_s3) (fun i v => ∃ p : List Int, v = ((x, y, p ++ List.replicate (x.length - i) 0, (i : Int), ()), ()) ∧ p.length = i + y.length ∧ Dig p ∧ dd p = dd (x.take i) * dd y)
    (fun r => ∃ p, r = ((p, ()), ()) ∧ p.length = x.length + y.length ∧ Dig p ∧ dd p = dd x * dd y) x.length (v := ((x, y, List.replicate (x.length + y.length) 0, 0, ()), ()))
    ⟨List.replicate y.length 0, by rw [List.replicate_append_replicate, Nat.sub_zero, Nat.add_comm]; rfl, by simp, Dig.zeros _, by simp [dd_zeros]⟩ (by omega) (by
      rintro i v hi ⟨p, rfl, hp, hpl, hs⟩
      obtain ⟨w, c, hin, hw, hwl, hc, hwn⟩ := rTimes_inner (Z := x.length - i) l2 l1 hi hpl hp (by omega)
      have b1 := l1.at hi
      refine ⟨((x, y, (w ++ [(c : Int)]) ++ List.replicate (x.length - (i + 1)) 0, ((i + 1 : Nat) : Int), ()), ()), ⟨_, rfl, by simp [hw]; omega, Dig.append hwl (Dig.cons (by omega) Dig.nil), ?_⟩, fun g => ?_⟩
      · rw [dd_append, hw, dd_one _ (by omega), dnnt hi, Int.toNat_natCast, hwn, hs]
        have : (x[i] % 10000).toNat = x[i].toNat := by omega
        rw [this]
        grind
      · have q4 : iadd .i64 (i : Int) (y.length : Int) = ((i + y.length : Nat) : Int) := by rw [iadd_i] <;> omega
        have c0 : (i : Int) < ((x.length : Nat) : Int) := by omega
        have e6 : ((i + y.length : Nat) : Int) < (((w ++ List.replicate (x.length - i) (0 : Int)).length : Nat) : Int) := by rw [List.length_append, List.length_replicate]; omega
        have e7 : (0 : Int) ≤ ((i + y.length : Nat) : Int) := by omega
        have e8 : i + y.length < (w ++ List.replicate (x.length - i) (0 : Int)).length := by omega
        have e9 : (w ++ List.replicate (x.length - i) (0 : Int)).set (i + y.length) (c : Int) = (w ++ [(c : Int)]) ++ List.replicate (x.length - (i + 1)) 0 := by
          have := set_mid (p := w) (i := i + y.length) (n := x.length + y.length) (z := 0) (c : Int) hw (by omega)
          rw [show x.length + y.length - (i + y.length) = x.length - i by omega, show x.length + y.length - (i + y.length + 1) = x.length - (i + 1) by omega] at this
          exact this
        rw [dendronref01_Times_s3, cnd c0, hin, Option.bind_some, q4, cnd2 e7 e6, Int.toNat_natCast, List.getElem?_eq_getElem e8, Option.bind_some, e9, iadd1 (by omega)]
        rfl) (by
      rintro v ⟨p, rfl, hp, hpl, hs⟩
      rw [List.take_length] at hs
      exact ⟨((p, ()), ()), ⟨p, rfl, hp, hpl, hs⟩, fun g => by simp [dendronref01_Times_s3]⟩)
  have g2 : ((x.length + y.length : Nat) : Int) ≤ 9223372036854775807 := by omega
  have g3 : (0 : Int) ≤ ((x.length + y.length : Nat) : Int) := by omega
  have g4 : ((8 : Nat) : Int) * ((x.length + y.length : Nat) : Int) ≤ 281474976710656 := by omega
  rw [decide_eq_true g2, decide_eq_true g3, decide_eq_true g4, decide_eq_true rfl, Int.toNat_natCast, hlp, Option.bind_some, rTrim_ok hpl (by omega), hpn]
  rfl
end Go.Proofs.YtdkcgmbdeimonaaDoor.X

/- Lemmas over the printed texts: the reference's quotients, greatest divisors, numbers; whether a number is another one. -/
namespace Go.Proofs.YtdkcgmbdeimonaaDoor.X
open Go
set_option linter.unusedVariables false
set_option linter.unusedSimpArgs false

theorem rOver_inner {a q : List Int} {i : Int} {y R : Nat} (hy : (digs y).length < 1099511627776) (hR : (digs R).length < 1099511627776) (hRy : R < y * 10000) :
    lp dendronref01_Over_s12 K0 ((a, digs y, q, digs R, i, 0, 10000, ()), ()) = some ((a, digs y, q, digs R, i, ((R / y : Nat) : Int), ()), ()) := by
  have hy0 : 0 < y := by
    rcases Nat.eq_zero_or_pos y with h | h
    · subst h; omega
    · exact h
  obtain ⟨r, rfl, hlp⟩ := lp_wf (step := dendronref01_Over_s12) (fun s => ∃ lo hi : Nat, s = ((a, digs y, q, digs R, i, (lo : Int), (hi : Int), ()), ()) ∧ lo < hi ∧ hi ≤ 10000 ∧ y * lo ≤ R ∧ R < y * hi) (fun s => (s.1.2.2.2.2.2.2.1 - s.1.2.2.2.2.2.1).toNat)
    (fun r => r = ((a, digs y, q, digs R, i, ((R / y : Nat) : Int), ()), ())) (v := ((a, digs y, q, digs R, i, 0, 10000, ()), ())) ⟨0, 10000, rfl, by omega, by omega, by simp, hRy⟩ (by simp) (by
      rintro s ⟨lo, hi, rfl, hlt, hh, h1, h2⟩
      have e1 : isub .i64 (hi : Int) (lo : Int) = (hi : Int) - lo := by rw [isub_i] <;> omega
      by_cases hd : hi - lo ≤ 1
      · have : hi = lo + 1 := by omega
        subst this
        have hq : R / y = lo := by
          rw [Nat.div_eq_iff hy0]
          rw [Nat.mul_add, Nat.mul_one] at h2
          rw [Nat.mul_comm]; omega
        refine .inl ⟨_, rfl, fun g => ?_⟩
        rw [dendronref01_Over_s12, e1, cnd' (by omega), hq]
      · have e2 : iquo .i64 (iadd .i64 (lo : Int) (hi : Int)) 2 = (((lo + hi) / 2 : Nat) : Int) := by
          have : iadd .i64 (lo : Int) (hi : Int) = ((lo + hi : Nat) : Int) := by rw [iadd_i] <;> omega
          rw [this, iquo_i (by omega) (by omega) (by omega)]; omega
        have hmid : (lo + hi) / 2 < 10000 := by omega
        have hs := rSmall_ok (n := (lo + hi) / 2) (by omega)
        have hdl : (digs ((lo + hi) / 2)).length ≤ 1 := digs_len_le (by omega)
        have ht := rTimes_ok (digs_dig y) (digs_dig ((lo + hi) / 2)) (by omega) (by omega)
        rw [dd_digs, dd_digs] at ht
        have hml := digs_mul_len y ((lo + hi) / 2)
        have ho := rOrder_ok (n := y * ((lo + hi) / 2)) (m := R) (by omega)
        have hmlo : lo < (lo + hi) / 2 := by omega
        have hmhi : (lo + hi) / 2 < hi := by omega
        generalize (lo + hi) / 2 = mid at *
        have step : ∀ g, dendronref01_Over_s12 g ((a, digs y, q, digs R, i, (lo : Int), (hi : Int), ()), ()) = bif decide (ncmp (y * mid) R ≤ 0) then g ((a, digs y, q, digs R, i, (mid : Int), (hi : Int), ()), ()) else g ((a, digs y, q, digs R, i, (lo : Int), (mid : Int), ()), ()) := by
          intro g
          rw [dendronref01_Over_s12, e1, cnd (by omega), e2, hs, Option.bind_some, ht, Option.bind_some, ho, Option.bind_some]
        by_cases hc : y * mid ≤ R
        · have c : ncmp (y * mid) R ≤ 0 := by unfold ncmp; split <;> (try split) <;> omega
          exact .inr ⟨_, ⟨mid, hi, rfl, hmhi, hh, hc, h2⟩, by show ((hi : Int) - (mid : Int)).toNat < ((hi : Int) - (lo : Int)).toNat; omega, fun g => by rw [step, cnd c]⟩
        · have c : ¬ ncmp (y * mid) R ≤ 0 := by unfold ncmp; rw [if_neg (by omega), if_pos (by omega)]; decide
          exact .inr ⟨_, ⟨lo, mid, rfl, hmlo, by omega, h1, by omega⟩, by show ((mid : Int) - (lo : Int)).toNat < ((hi : Int) - (lo : Int)).toNat; omega, fun g => by rw [step, cnd' c]⟩)
  exact hlp

theorem pow_help {R y k : Nat} (h : R < y * 10000) (hy : y < 10000 ^ k) : R < 10000 ^ (k + 1) := by
  rw [Nat.pow_succ]
  exact Nat.lt_of_lt_of_le h (Nat.mul_le_mul_right _ (Nat.le_of_lt hy))

theorem rOver_ok {a : List Int} {y : Nat} (ha : Dig a) (hl : a.length < 1099511627776) (hy : (digs y).length < 1099511627775) (hy0 : 0 < y) : dendronref01_Over a (digs y) = some (digs (dd a / y), digs (dd a % y)) := by
  obtain ⟨r, ⟨s, c, rfl, hs, hsl, hc, hsn⟩, hlp⟩ := lp_wf (step := dendronref01_Over_s4)
    (fun v => ∃ (j : Nat) (s : List Int) (c : Nat), j ≤ a.length ∧ v = ((a, digs y, List.replicate j 0 ++ s, digs c, (j : Int) - 1, ()), ()) ∧ j + s.length = a.length ∧ Dig s ∧ c < y ∧ dd (a.drop j) = y * dd s + c)
    (fun v => (v.1.2.2.2.2.1 + 1).toNat)
    (fun r => ∃ (s : List Int) (c : Nat), r = ((s, digs c, ()), ()) ∧ s.length = a.length ∧ Dig s ∧ c < y ∧ dd a = y * dd s + c) (v := ((a, digs y, List.replicate a.length 0, [], (a.length : Int) - 1, ()), ()))
    ⟨a.length, [], 0, Nat.le_refl _, by simp [digs_zero], by simp, Dig.nil, hy0, by simp⟩ (by simp; omega) (by
      rintro v ⟨j, s, c, hj, rfl, hjl, hsl, hc, hn⟩
      cases j with
      | zero =>
        refine .inl ⟨((s, digs c, ()), ()), ⟨s, c, rfl, by omega, hsl, hc, by simpa using hn⟩, fun g => by simp [dendronref01_Over_s4]⟩
      | succ j =>
        have hja : j < a.length := by omega
        have b := ha.at hja
        have e3 : ((j + 1 : Nat) : Int) - 1 = (j : Int) := by omega
        rw [e3]
        obtain ⟨x, hx⟩ := Int.eq_ofNat_of_zero_le b.1
        have hx' : x < 10000 := by omega
        have hcl := digs_len_mono (Nat.le_of_lt hc)
        have htr := rTrim_ok (a := [a[j]] ++ digs c) (Dig.append (Dig.cons b Dig.nil) (digs_dig c)) (by simp; omega)
        have hval : dd ([a[j]] ++ digs c) = x + 10000 * c := by
          show dd (a[j] :: digs c) = _
          rw [dd, dd_digs]; omega
        rw [hval] at htr
        have hR : x + 10000 * c < y * 10000 := by omega
        have hRl : (digs (x + 10000 * c)).length < 1099511627776 := by
          have h5 : x + 10000 * c < 10000 ^ ((digs y).length + 1) := by
            have h6 := dd_lt (digs y)
            rw [dd_digs] at h6
            exact pow_help hR h6
          have := digs_len_le h5
          omega
        have hin := rOver_inner (a := a) (q := List.replicate (j + 1) 0 ++ s) (i := (j : Int)) (by omega) hRl hR
        have k1 := Nat.div_add_mod (x + 10000 * c) y
        have k5 := Nat.mod_lt (x + 10000 * c) hy0
        have hq : (x + 10000 * c) / y < 10000 := by rw [Nat.div_lt_iff_lt_mul hy0]; omega
        have hs1 := rSmall_ok (n := (x + 10000 * c) / y) (by omega)
        have hdl : (digs ((x + 10000 * c) / y)).length ≤ 1 := digs_len_le (by omega)
        have ht := rTimes_ok (digs_dig y) (digs_dig ((x + 10000 * c) / y)) (by omega) (by omega)
        rw [dd_digs, dd_digs] at ht
        have hm := rMinus_ok (digs_dig (x + 10000 * c)) (digs_dig (y * ((x + 10000 * c) / y))) (by omega) (by rw [dd_digs, dd_digs]; omega)
        rw [dd_digs, dd_digs] at hm
        have hrest : x + 10000 * c - y * ((x + 10000 * c) / y) = (x + 10000 * c) % y := by omega
        rw [hrest] at hm
        generalize (x + 10000 * c) / y = qd at *
        generalize (x + 10000 * c) % y = rr at *
        refine .inr ⟨((a, digs y, List.replicate j 0 ++ (qd : Int) :: s, digs rr, (j : Int) - 1, ()), ()), ⟨j, _, _, by omega, rfl, by simp; omega, Dig.cons (by omega) hsl, k5, ?_⟩, by simp, fun g => ?_⟩
        · rw [dd_drop a hja, hn, dd]
          have k2 : ((qd : Int) % 10000).toNat = qd := by omega
          have k3 : (a[j] % 10000).toNat = x := by omega
          rw [k2, k3]
          grind
        · have q5 : isub .i64 (j : Int) 1 = (j : Int) - 1 := by rw [isub_i] <;> omega
          have e5 : (List.replicate (j + 1) (0 : Int) ++ s).set j (qd : Int) = List.replicate j 0 ++ (qd : Int) :: s := by
            rw [List.replicate_succ', List.append_assoc, List.set_append_right _ _ (by simp)]
            simp
          have e6 : j < (List.replicate (j + 1) (0 : Int) ++ s).length := by simp; omega
          have e7 : ((j : Nat) : Int) < ((List.replicate (j + 1) (0 : Int) ++ s).length : Int) := by omega
          have e8 : (0 : Int) ≤ ((j : Nat) : Int) := by omega
          have c0 : (j : Int) ≥ 0 := by omega
          have c1 : (Nat.ble ((([a[j]] : List Int).length + (digs c).length) * 8) 140737488355328 && !false) = true := blt (by simp; omega)
          rw [dendronref01_Over_s4, cnd c0, cnd e8, Int.toNat_natCast, List.getElem?_eq_getElem hja, Option.bind_some, c1, cond_true, htr, Option.bind_some, hin, Option.bind_some, cnd2 e8 e7, Int.toNat_natCast, List.getElem?_eq_getElem e6, Option.bind_some, hs1, Option.bind_some, ht, Option.bind_some, hm, Option.bind_some, e5, q5])
  have g1 : ((8 : Nat) : Int) * (a.length : Int) ≤ 281474976710656 := by omega
  have g2 : (a.length : Int) ≤ 9223372036854775807 := by omega
  have g4 : (0 : Int) ≤ (a.length : Int) := by omega
  have g3 : isub .i64 (a.length : Int) 1 = (a.length : Int) - 1 := by rw [isub_i] <;> omega
  have k1 : dd a / y = dd s := by rw [hsn, Nat.mul_add_div hy0, Nat.div_eq_of_lt hc]; simp
  have k2 : dd a % y = c := by rw [hsn, Nat.mul_add_mod, Nat.mod_eq_of_lt hc]
  rw [k1, k2]
  rw [dendronref01_Over, decide_eq_true rfl, decide_eq_true g4, decide_eq_true g1, decide_eq_true g2, Int.toNat_natCast, g3, hlp]
  simp only [Bool.and_self, cond_true, Option.bind_some, rTrim_ok hsl (show s.length < 4611686018427387904 by omega)]

theorem lenN_lt {x y : Nat} (hy : y ≠ 0) (h : 2 * x ≤ y) : lenN x < lenN y := by
  unfold lenN
  by_cases hx : x = 0
  · rw [if_pos hx, if_neg hy]; omega
  · rw [if_neg hx, if_neg hy]
    have := log2_half hx h
    omega
theorem lenN_le {n k : Nat} (h : n < 2 ^ k) : lenN n ≤ k := by
  unfold lenN
  by_cases hx : n = 0
  · rw [if_pos hx]; omega
  · rw [if_neg hx]; have := (Nat.log2_lt hx).2 h; omega
theorem lenN_digs (n : Nat) : lenN n ≤ 14 * (digs n).length := by
  apply lenN_le
  have h1 := dd_lt (digs n)
  rw [dd_digs] at h1
  have h2 : 10000 ^ (digs n).length ≤ (2 ^ 14) ^ (digs n).length := Nat.pow_le_pow_left (by decide) _
  rw [← Nat.pow_mul] at h2
  omega

theorem rGcd_ok {x y : Nat} (hx : (digs x).length < 1099511627775) (hy : (digs y).length < 1099511627775) : dendronref01_Gcd (digs x) (digs y) = some (digs (Nat.gcd x y)) := by
  obtain ⟨r, rfl, hlp⟩ := lp_wf (step := dendronref01_Gcd_s1) (fun s => ∃ p q : Nat, s = ((digs p, digs q, ()), ()) ∧ (digs p).length < 1099511627775 ∧ (digs q).length < 1099511627775 ∧ Nat.gcd p q = Nat.gcd x y)
    (fun s => 2 * (lenN (dd s.1.1) + lenN (dd s.1.2.1)) + if dd s.1.1 < dd s.1.2.1 then 1 else 0) (fun r => r = ((digs (Nat.gcd x y), ()), ())) (v := ((digs x, digs y, ()), ()))
    ⟨x, y, rfl, hx, hy, rfl⟩ (by
      have h1 := lenN_digs x
      have h2 := lenN_digs y
      simp only [dd_digs]
      split <;> omega) (by
      rintro s ⟨p, q, rfl, hp, hq, hg⟩
      by_cases h0 : q = 0
      · subst h0
        refine .inl ⟨_, rfl, fun g => ?_⟩
        rw [Nat.gcd_zero_right] at hg
        rw [digs_zero, dendronref01_Gcd_s1, cnd' (by decide), ← hg]
      · have c0 : ((digs q).length : Int) > 0 := digs_pos_len.2 h0
        have ho := rOver_ok (digs_dig p) (by omega) hq (Nat.pos_of_ne_zero h0)
        rw [dd_digs] at ho
        have hml := Nat.mod_lt p (Nat.pos_of_ne_zero h0)
        refine .inr ⟨((digs q, digs (p % q), ()), ()), ⟨q, p % q, rfl, hq, Nat.lt_of_le_of_lt (digs_len_mono (Nat.le_of_lt hml)) hq, ?_⟩, ?_, fun g => ?_⟩
        · rw [← hg, Nat.gcd_comm q, ← Nat.gcd_rec, Nat.gcd_comm]
        · simp only [dd_digs]
          rw [if_neg (by omega)]
          by_cases hpq : p < q
          · rw [if_pos hpq, Nat.mod_eq_of_lt hpq]; omega
          · rw [if_neg hpq]
            have : 2 * (p % q) ≤ p := by
              have h1 := Nat.div_add_mod p q
              have h2 : 1 ≤ p / q := Nat.div_pos (by omega) (by omega)
              have h3 : q * 1 ≤ q * (p / q) := Nat.mul_le_mul_left _ h2
              omega
            have := lenN_lt (by omega) this
            omega
        · rw [dendronref01_Gcd_s1, cnd c0, ho, Option.bind_some])
  rw [dendronref01_Gcd, hlp]; rfl

theorem digs_of_limbs {n k : Nat} (h : n < 4294967296 ^ k) : (digs n).length ≤ 3 * k := by
  apply digs_len_le
  have : 4294967296 ^ k ≤ (10000 ^ 3) ^ k := Nat.pow_le_pow_left (by decide) _
  rw [← Nat.pow_mul] at this
  omega

theorem rFrom_ok {a : List Int} (hl : a.length < 274877906944) : dendronref01_From a = some (digs (nn a)) := by
  have hu := rSmall_ok (n := 4294967296) (by decide)
  obtain ⟨r, rfl, hlp⟩ := lp_wf (step := dendronref01_From_s4) (fun s => ∃ j : Nat, j ≤ a.length ∧ s = ((a, digs (nn (a.drop j)), digs 4294967296, (j : Int) - 1, ()), ())) (fun s => (s.1.2.2.2.1 + 1).toNat)
    (fun r => r = ((digs (nn a), ()), ())) (v := ((a, [], digs 4294967296, (a.length : Int) - 1, ()), ())) ⟨a.length, Nat.le_refl _, by rw [List.drop_length, nn_nil, digs_zero]⟩ (by simp; omega) (by
      rintro s ⟨j, hj, rfl⟩
      cases j with
      | zero => exact .inl ⟨_, rfl, fun g => by simp [dendronref01_From_s4]⟩
      | succ j =>
        have hja : j < a.length := by omega
        have e3 : ((j + 1 : Nat) : Int) - 1 = (j : Int) := by omega
        rw [e3]
        have hnl := nn_lt (a.drop (j + 1))
        rw [List.length_drop] at hnl
        have hd := digs_of_limbs hnl
        have hu2 : (digs 4294967296).length ≤ 3 := digs_len_le (by decide)
        have ht := rTimes_ok (digs_dig (nn (a.drop (j + 1)))) (digs_dig 4294967296) (by omega) (by omega)
        rw [dd_digs, dd_digs] at ht
        have hml := digs_mul_len (nn (a.drop (j + 1))) 4294967296
        have hw : IntKind.wrap .i64 (iand .u64 a[j] 4294967295) = (((a[j] % 4294967296).toNat : Nat) : Int) := by
          rw [iand_low, wrap_i (by omega) (by omega)]; omega
        have hs := rSmall_ok (n := (a[j] % 4294967296).toNat) (by omega)
        have hsl : (digs (a[j] % 4294967296).toNat).length ≤ 3 := digs_len_le (by omega)
        have hp := rPlus_ok (x := nn (a.drop (j + 1)) * 4294967296) (y := (a[j] % 4294967296).toNat) (by omega) (by omega)
        have hval : nn (a.drop (j + 1)) * 4294967296 + (a[j] % 4294967296).toNat = nn (a.drop j) := by rw [nn_drop a hja]; omega
        rw [hval] at hp
        refine .inr ⟨((a, digs (nn (a.drop j)), digs 4294967296, (j : Int) - 1, ()), ()), ⟨j, by omega, rfl⟩, by simp, fun g => ?_⟩
        have q5 : isub .i64 (j : Int) 1 = (j : Int) - 1 := by rw [isub_i] <;> omega
        have c0 : (j : Int) ≥ 0 := by omega
        have c1 : (0 : Int) ≤ (j : Int) := by omega
        rw [dendronref01_From_s4, cnd c0, ht, Option.bind_some, cnd c1, Int.toNat_natCast, List.getElem?_eq_getElem hja, Option.bind_some, hw, hs, Option.bind_some, hp, Option.bind_some, q5])
  have g3 : isub .i64 (a.length : Int) 1 = (a.length : Int) - 1 := by rw [isub_i] <;> omega
  rw [show ((4294967296 : Nat) : Int) = 4294967296 from rfl] at hu
  rw [dendronref01_From, hu, Option.bind_some, g3, hlp]; rfl

theorem rRight_ok {n : Nat} (hl : (limbs n).length < 4398046511104) : dendronref01_Right (limbs n) = some true := by
  have la := limbs_lim n
  have hc := (limbs_canon n).2
  generalize limbs n = a at *
  have key := lp_up (step := dendronref01_Right_s2) (fun i => ((a, (i : Int), ()), ())) a.length (r := .inl ((a, ()), ())) (by omega) (by
    intro g i hi
    have b := la.at hi
    have c0 : (i : Int) < ((a.length : Nat) : Int) := by omega
    have c1 : (0 : Int) ≤ (i : Int) := by omega
    rw [dendronref01_Right_s2, cnd c0, cnd c1, Int.toNat_natCast, List.getElem?_eq_getElem hi, Option.bind_some, cnd' (by omega), iadd1 (by omega)]
    rfl) (by
    intro g
    rw [dendronref01_Right_s2, cnd' (by omega)])
  have key' : lp dendronref01_Right_s2 K0 ((a, 0, ()), ()) = some (.inl ((a, ()), ())) := key
  rw [dendronref01_Right, key', Option.bind_some]
  by_cases h0 : a = []
  · subst h0; rfl
  · have hlen := List.length_pos_iff.2 h0
    have e : isub .i64 (a.length : Int) 1 = ((a.length - 1 : Nat) : Int) := by rw [isub_i] <;> omega
    have hlt : a.length - 1 < a.length := by omega
    have hne : a[a.length - 1] ≠ 0 := hc _ (by rw [List.getLast?_eq_getElem?]; exact List.getElem?_eq_getElem hlt)
    have c0 : ¬ ((a.length : Nat) : Int) = 0 := by omega
    have c1 : (0 : Int) ≤ ((a.length - 1 : Nat) : Int) := by omega
    simp only []
    rw [cnd' c0, e, cnd c1, Int.toNat_natCast, List.getElem?_eq_getElem hlt, Option.bind_some, decide_eq_false hne]
    rfl

/-! Whole numbers and fractions of the reference. -/
def digsI (z : Int) : WH := (decide (z < 0), digs z.natAbs)
theorem rMake_ok (b : Bool) (n : Nat) : dendronref02_Make b (digs n) = some (digsI (if b then -(n : Int) else n)) := by
  cases b with
  | false =>
    show some (false, digs n) = some (digsI (n : Int))
    unfold digsI
    rw [decide_eq_false (by omega), Int.natAbs_natCast]
  | true =>
    show some (decide (((digs n).length : Int) > 0), digs n) = some (digsI (-(n : Int)))
    unfold digsI
    rw [Int.natAbs_neg, Int.natAbs_natCast]
    congr 2
    rw [decide_eq_decide, digs_pos_len]
    omega
theorem digsI_nat (n : Nat) : digsI (n : Int) = (false, digs n) := by
  unfold digsI
  rw [decide_eq_false (by omega), Int.natAbs_natCast]
theorem rITimes_ok {x y : Int} (hx : (digs x.natAbs).length < 1099511627776) (hy : (digs y.natAbs).length < 1099511627776) : dendronref02_Times (digsI x) (digsI y) = some (digsI (x * y)) := by
  have hm := rTimes_ok (digs_dig x.natAbs) (digs_dig y.natAbs) (by omega) (by omega)
  rw [dd_digs, dd_digs] at hm
  rw [dendronref02_Times]
  simp only [digsI, hm, Option.bind_some, rMake_ok]
  have key : (if (!decide (x < 0) == decide (y < 0)) = true then -(((x.natAbs * y.natAbs : Nat)) : Int) else ((x.natAbs * y.natAbs : Nat) : Int)) = x * y := by
    rw [Int.natCast_mul]
    by_cases h1 : x < 0 <;> by_cases h2 : y < 0
    · rw [show ((x.natAbs : Nat) : Int) = -x by omega, show ((y.natAbs : Nat) : Int) = -y by omega]; simp [h1, h2, Int.neg_mul_neg]
    · rw [show ((x.natAbs : Nat) : Int) = -x by omega, show ((y.natAbs : Nat) : Int) = y by omega]; simp [h1, h2, Int.neg_mul]
    · rw [show ((x.natAbs : Nat) : Int) = x by omega, show ((y.natAbs : Nat) : Int) = -y by omega]; simp [h1, h2, Int.mul_neg]
    · rw [show ((x.natAbs : Nat) : Int) = x by omega, show ((y.natAbs : Nat) : Int) = y by omega]; simp [h1, h2]
  exact congrArg (fun z => some (digsI z)) key
theorem rIOrder_ok {x y : Int} (hx : (digs x.natAbs).length < 4398046511104) (hy : (digs y.natAbs).length < 4398046511104) : dendronref02_Order (digsI x) (digsI y) = some (icmp x y) := by
  have e1 := rOrder_ok (n := x.natAbs) (m := y.natAbs) (by omega)
  have e2 := rOrder_ok (n := y.natAbs) (m := x.natAbs) (by omega)
  rw [dendronref02_Order]
  simp only [digsI, e1, e2]
  by_cases h1 : x < 0 <;> by_cases h2 : y < 0 <;> simp [h1, h2, icmp, ncmp] <;> (repeat' split) <;> omega

theorem rFromI_ok {a : WH} (h : a.2.length < 274877906944) : dendronref02_From a = some (digsI (wv a)) := by
  rw [dendronref02_From, rFrom_ok h, Option.bind_some, rMake_ok]; rfl

/-- What anything is, as a fraction. -/
theorem rFromQ_ok {a : RAT} {n : Nat} (h : SzR a n) (hn : n < 91625968980) : ∃ (z : Int) (d : Nat), dendronref03_From a = some (digsI z, digs d) ∧ 0 < d ∧ rv a = mkRat z d ∧ (digs z.natAbs).length ≤ 3 * n + 1 ∧ (digs d).length ≤ 3 * n + 1 := by
  have h1 := h.1
  have h2 := h.2
  rw [dendronref03_From, rFrom_ok (by omega), Option.bind_some]
  by_cases h0 : nn a.2 = 0
  · refine ⟨0, 1, ?_, by omega, ?_, by simp [digs_zero], digs_len_le (by rw [Nat.pow_add]; have : 0 < 10000 ^ (3 * n) := Nat.pow_pos (by decide); omega)⟩
    · have s1 := rSmall_ok (n := 1) (by decide)
      have s0 := rSmall_ok (n := 0) (by decide)
      rw [show ((1 : Nat) : Int) = 1 from rfl] at s1
      rw [show ((0 : Nat) : Int) = 0 from rfl] at s0
      rw [h0, digs_zero, cnd (by rfl), dendronref03_Small, dendronref02_Small, cnd' (by decide), s0, Option.bind_some, rMake_ok, Option.bind_some, Option.bind_some, s1]
      rfl
    · rw [rv, h0]; simp
  · have hne : ¬ ((digs (nn a.2)).length : Int) = 0 := by rw [digs_len0]; exact h0
    refine ⟨wv a.1, nn a.2, ?_, Nat.pos_of_ne_zero h0, rfl, ?_, ?_⟩
    · rw [cnd' hne, rFromI_ok (by omega)]; rfl
    · rw [wv_natAbs]
      have := digs_of_limbs (nn_lt a.1.2)
      omega
    · have := digs_of_limbs (nn_lt a.2)
      omega

theorem Is_ok {q : Rat} {b : RAT} {n m : Nat} (hq : SzQ q n) (hn : n < 91625968980) (hb : SzR b m) (hm : m < 91625968980) : dendronref10_Is (canQ q) b = some (decide (q = rv b)) := by
  obtain ⟨z, d, hf, hd0, hv, hz, hd⟩ := rFromQ_ok hb hm
  have hr := hq.szR
  have r1 : (limbs q.num.natAbs).length ≤ n := hr.1
  have r2 : (limbs q.den).length ≤ n := hr.2
  have hnum := digs_of_limbs hq.1
  have hden := digs_of_limbs hq.2
  have f1 := rFrom_ok (a := limbs q.num.natAbs) (by omega)
  have f2 := rFrom_ok (a := limbs q.den) (by omega)
  rw [nn_limbs] at f1 f2
  have hg := rGcd_ok (x := q.num.natAbs) (y := q.den) (by omega) (by omega)
  rw [show Nat.gcd q.num.natAbs q.den = 1 from q.reduced] at hg
  have s1 := rSmall_ok (n := 1) (by decide)
  rw [show ((1 : Nat) : Int) = 1 from rfl] at s1
  have hl1 : (digs 1).length ≤ 1 := digs_len_le (by decide)
  have ho := rOrder_ok (n := 1) (m := 1) (by omega)
  have hcm : ncmp 1 1 = 0 := rfl
  have hdne : ¬ (((limbs q.den).length : Nat) : Int) = 0 := by rw [limbs_len0]; exact q.den_nz
  have hright : dendronref03_Right (canQ q) = some true := by
    have hfin : ((dendronref01_From (limbs q.num.natAbs)).bind fun r3 => (dendronref01_From (limbs q.den)).bind fun r4 => (dendronref01_Gcd r3 r4).bind fun r5 => (dendronref01_Small 1).bind fun r6 => (dendronref01_Order r5 r6).bind fun r7 => some (decide (r7 = 0))) = some true := by
      rw [f1, Option.bind_some, f2, Option.bind_some, hg, Option.bind_some, s1, Option.bind_some, ho, Option.bind_some, hcm]; rfl
    rw [show canQ q = ((decide (q.num < 0), limbs q.num.natAbs), limbs q.den) from rfl, dendronref03_Right, rRight_ok (show (limbs q.num.natAbs).length < 4398046511104 by omega), Option.bind_some, Bool.not_true, cond_false, rRight_ok (show (limbs q.den).length < 4398046511104 by omega), Option.bind_some, Bool.not_true, cond_false, cnd' hdne]
    by_cases hz0 : q.num.natAbs = 0
    · have hnn : ¬ q.num < 0 := by omega
      have hl0 : (((limbs q.num.natAbs).length : Nat) : Int) = 0 := limbs_len0.2 hz0
      rw [cnd hl0, cnd' hnn]
      exact hfin
    · have hl0 : ¬ (((limbs q.num.natAbs).length : Nat) : Int) = 0 := by rw [limbs_len0]; exact hz0
      rw [cnd' hl0]
      exact hfin
  have hfrom : dendronref03_From (canQ q) = some (digsI q.num, digs q.den) := by
    have hdne2 : ¬ (((digs q.den).length : Nat) : Int) = 0 := by rw [digs_len0]; exact q.den_nz
    have f3 := rFromI_ok (a := limbsI q.num) (by show (limbs _).length < _; omega)
    rw [wv_limbsI] at f3
    rw [dendronref03_From]
    simp only [canQ, f2, Option.bind_some, f3]
    exact cnd' hdne2
  have m1 := rITimes_ok (x := q.num) (y := (d : Int)) (by omega) (by rw [Int.natAbs_natCast]; omega)
  have m2 := rITimes_ok (x := z) (y := (q.den : Int)) (by omega) (by rw [Int.natAbs_natCast]; omega)
  have l1 := digs_mul_len q.num.natAbs d
  have l2 := digs_mul_len z.natAbs q.den
  have oo := rIOrder_ok (x := q.num * (d : Int)) (y := z * (q.den : Int)) (by rw [Int.natAbs_mul, Int.natAbs_natCast]; omega) (by rw [Int.natAbs_mul, Int.natAbs_natCast]; omega)
  have k1 := rMake_ok false d
  have k2 := rMake_ok false q.den
  have horder : dendronref03_Order (digsI q.num, digs q.den) (digsI z, digs d) = some (icmp (q.num * (d : Int)) (z * (q.den : Int))) := by
    rw [dendronref03_Order]
    simp only [dendronref03_den, k1, k2, Option.bind_some, Bool.false_eq_true, if_false, m1, m2, oo]
  have hiff : icmp (q.num * (d : Int)) (z * (q.den : Int)) = 0 ↔ q = rv b := by
    rw [hv]
    have h1 : icmp (q.num * (d : Int)) (z * (q.den : Int)) = 0 ↔ q.num * (d : Int) = z * (q.den : Int) := by
      unfold icmp; (repeat' split) <;> omega
    rw [h1]
    conv => rhs; rw [← Rat.mkRat_self q]
    rw [Rat.mkRat_eq_iff q.den_nz (by omega)]
  rw [dendronref10_Is, hf, Option.bind_some, dendronref03_Is, hright, Option.bind_some, cond_true, hfrom, Option.bind_some, horder, Option.bind_some, Option.bind_some]
  congr 1
  rw [decide_eq_decide]
  exact hiff
end Go.Proofs.YtdkcgmbdeimonaaDoor.X

/- Lemmas over the printed texts: sums; the number in the middle. -/
namespace Go.Proofs.YtdkcgmbdeimonaaDoor.X
open Go
set_option linter.unusedVariables false
set_option linter.unusedSimpArgs false

/-! Sums. -/
def rsum (f : Nat → Rat) : Nat → Rat
  | 0 => 0
  | n + 1 => rsum f n + f n
theorem rsum_congr {f g : Nat → Rat} {n : Nat} (h : ∀ i, i < n → f i = g i) : rsum f n = rsum g n := by
  induction n with
  | zero => rfl
  | succ n ih => simp only [rsum]; rw [ih (fun i hi => h i (by omega)), h n (by omega)]
theorem rsum_mul (f : Nat → Rat) (c : Rat) (n : Nat) : rsum (fun i => f i * c) n = rsum f n * c := by
  induction n with
  | zero => simp [rsum]
  | succ n ih => simp only [rsum, ih]; rw [Rat.add_mul]
theorem rsum_div (f : Nat → Rat) (c : Rat) (n : Nat) : rsum (fun i => f i / c) n = rsum f n / c := by
  have := rsum_mul f c⁻¹ n
  simpa [Rat.div_def] using this
theorem rsum_nonneg {f : Nat → Rat} {n : Nat} (h : ∀ i, i < n → 0 ≤ f i) : 0 ≤ rsum f n := by
  induction n with
  | zero => exact Rat.le_refl
  | succ n ih => exact Rat.add_nonneg (ih fun i hi => h i (by omega)) (h n (by omega))
theorem rsum_zero {f : Nat → Rat} {n : Nat} (h : ∀ i, i < n → 0 ≤ f i) (h0 : rsum f n = 0) : ∀ i, i < n → f i = 0 := by
  induction n with
  | zero => intro i hi; omega
  | succ n ih =>
    have h1 := rsum_nonneg (f := f) (n := n) (fun i hi => h i (by omega))
    have h2 := h n (by omega)
    simp only [rsum] at h0
    have e1 : rsum f n = 0 := by grind
    have e2 : f n = 0 := by grind
    intro i hi
    by_cases hin : i = n
    · subst hin; exact e2
    · exact ih (fun i hi => h i (by omega)) e1 i (by omega)
theorem rsum_sz {f : Nat → Rat} {k n : Nat} (h : ∀ i, i < n → SzQ (f i) k) : SzQ (rsum f n) (1 + n * (k + 1)) := by
  induction n with
  | zero => simpa [rsum] using SzQ.zero
  | succ n ih =>
    have := (ih fun i hi => h i (by omega)).add (h n (by omega))
    simp only [rsum]
    exact this.mono (by rw [Nat.add_mul]; omega)
theorem SzQ.abs {q : Rat} {n : Nat} (h : SzQ q n) : SzQ (rabs q) n := by
  unfold rabs; split
  · exact h.neg
  · exact h
theorem rabs_nonneg (q : Rat) : 0 ≤ rabs q := by
  unfold rabs; split
  · grind
  · rename_i h; exact Rat.not_lt.1 h
theorem rabs_zero {q : Rat} : rabs q = 0 ↔ q = 0 := by
  unfold rabs; split
  · constructor <;> intro h <;> grind
  · rfl
theorem vals_sz {l : List RAT} {k : Nat} (h : ∀ x ∈ l, SzR x k) (hk : 0 < k) {i : Nat} (hi : i < l.length) : SzQ (vals l i) k := by
  rw [vals_get hi]; exact (h _ (List.getElem_mem hi)).szQ hk

/-- How many of the first so many. -/
def cntF (p : Nat → Bool) (n : Nat) : Nat := ((List.range n).filter p).length
theorem cntF_succ (p : Nat → Bool) (n : Nat) : cntF p (n + 1) = cntF p n + if p n then 1 else 0 := by
  unfold cntF
  rw [List.range_succ, List.filter_append, List.length_append]
  by_cases h : p n <;> simp [h]
theorem cntF_le (p : Nat → Bool) (n : Nat) : cntF p n ≤ n := by
  unfold cntF
  have := List.length_filter_le p (List.range n)
  simpa using this

theorem Ordered.after {v : Nat → Rat} {n : Nat} {o : List Nat} (h : Ordered v n o) {i j : Nat} (hij : i ≤ j) (hj : j < o.length) : v o[j] ≤ v o[i] := by
  by_cases e : i = j
  · subst e; exact Rat.le_refl
  · rcases List.pairwise_iff_getElem.1 h.1 i j (by omega) hj (by omega) with h1 | ⟨h1, _⟩
    · exact Rat.le_of_lt h1
    · rw [h1]; exact Rat.le_refl
theorem cnt_drop {v : Nat → Rat} {n k : Nat} {o : List Nat} (h : Ordered v n o) (p : Nat → Bool) (hp : ∀ i, (hi : i < o.length) → i < k → p o[i] = false) : cntF p n ≤ n - k := by
  have e : cntF p n = (o.filter p).length := ((h.2.filter p).length_eq).symm
  have hsplit : o.filter p = (o.take k).filter p ++ (o.drop k).filter p := by rw [← List.filter_append, List.take_append_drop]
  have hnil : (o.take k).filter p = [] := by
    rw [List.filter_eq_nil_iff]
    intro a ha
    obtain ⟨i, hi, rfl⟩ := List.mem_iff_getElem.1 ha
    rw [List.length_take] at hi
    rw [List.getElem_take, hp i (by omega) (by omega)]
    decide
  rw [e, hsplit, hnil, List.nil_append]
  have := List.length_filter_le p (o.drop k)
  rw [List.length_drop, h.len] at this
  exact this
theorem cnt_take {v : Nat → Rat} {n k : Nat} {o : List Nat} (h : Ordered v n o) (p : Nat → Bool) (hp : ∀ i, (hi : i < o.length) → k ≤ i → p o[i] = false) : cntF p n ≤ k := by
  have e : cntF p n = (o.filter p).length := ((h.2.filter p).length_eq).symm
  have hsplit : o.filter p = (o.take k).filter p ++ (o.drop k).filter p := by rw [← List.filter_append, List.take_append_drop]
  have hnil : (o.drop k).filter p = [] := by
    rw [List.filter_eq_nil_iff]
    intro a ha
    obtain ⟨i, hi, rfl⟩ := List.mem_iff_getElem.1 ha
    rw [List.length_drop] at hi
    rw [List.getElem_drop, hp (k + i) (by omega) (by omega)]
    decide
  rw [e, hsplit, hnil, List.append_nil]
  have := List.length_filter_le p (o.take k)
  rw [List.length_take] at this
  omega

theorem half_ok : ratio_Frac 1 2 = some (canQ (((1 : Int) : Rat) / ((2 : Int) : Rat))) := ratio_Frac_ok (by decide) (by decide) (by decide) (by decide)
theorem half_sz : SzQ (((1 : Int) : Rat) / ((2 : Int) : Rat)) 2 := (SzQ.int (z := 1) (by decide)).div (SzQ.int (z := 2) (by decide))
theorem half_mid {a b : Rat} (h : b ≤ a) : b ≤ (a + b) * (((1 : Int) : Rat) / ((2 : Int) : Rat)) ∧ (a + b) * (((1 : Int) : Rat) / ((2 : Int) : Rat)) ≤ a := by
  have e : ((1 : Int) : Rat) / ((2 : Int) : Rat) = 1 / 2 := rfl
  rw [e]
  constructor <;> grind

theorem RankMedians_true (l0 : List RAT) (hl0 : l0.length ≤ 9223372036854775807) : dendronlaw27_RankMedians l0 = some true := by
  have hf := Few19_ok l0 hl0
  have hsz : ∀ x ∈ (l0.take 33).map (cutR 2), SzR x 2 := by
    intro x hx
    obtain ⟨y, _, rfl⟩ := List.mem_map.1 hx
    exact cutR_sz 2 y
  have hs : ∀ x ∈ (l0.take 33).map (cutR 2), Sm x := fun x hx => (hsz x hx).sm (by decide)
  have hlen : ((l0.take 33).map (cutR 2)).length ≤ 33 := by simp; omega
  generalize (l0.take 33).map (cutR 2) = l at *
  obtain ⟨o, ho, hO⟩ := rank_Order_ok hs (by omega)
  obtain ⟨o', ho', hO'⟩ := law27_order_ok hs (by omega)
  have e := hO'.unique hO
  subst e
  have hol := hO.len
  rw [dendronlaw27_RankMedians, hf, Option.bind_some]
  by_cases h0 : l.length = 0
  · have c0 : ((l.length : Nat) : Int) = 0 := by omega
    rw [rank_Median, cnd c0, Option.bind_some, cnd c0, law27_awake_ok]
    rfl
  · have c0 : ¬ ((l.length : Nat) : Int) = 0 := by omega
    have i1 : (l.length - 1) / 2 < o'.length := by omega
    have i2 : l.length / 2 < o'.length := by omega
    have m1 : o'[(l.length - 1) / 2] < l.length := hO.lt (List.getElem_mem i1)
    have m2 : o'[l.length / 2] < l.length := hO.lt (List.getElem_mem i2)
    have e1 : iquo .i64 (isub .i64 ((l.length : Nat) : Int) 1) 2 = (((l.length - 1) / 2 : Nat) : Int) := by
      have : isub .i64 ((l.length : Nat) : Int) 1 = ((l.length - 1 : Nat) : Int) := by rw [isub_i] <;> omega
      rw [this, iquo_i (by omega) (by omega) (by omega)]; omega
    have e2 : iquo .i64 ((l.length : Nat) : Int) 2 = ((l.length / 2 : Nat) : Int) := by rw [iquo_i (by omega) (by omega) (by omega)]; omega
    have g1 := ints_get i1
    have g2 := ints_get i2
    have c1 : (0 : Int) ≤ (((l.length - 1) / 2 : Nat) : Int) := by omega
    have c2 : (((l.length - 1) / 2 : Nat) : Int) < ((ints o').length : Int) := by simp; omega
    have c3 : (0 : Int) ≤ ((l.length / 2 : Nat) : Int) := by omega
    have c4 : ((l.length / 2 : Nat) : Int) < ((ints o').length : Int) := by simp; omega
    have hva := hO.after (i := (l.length - 1) / 2) (j := l.length / 2) (by omega) i2
    have hA := fun i (h : i ≤ (l.length - 1) / 2) => hO.after (i := i) h i1
    have hB := fun j (hj : j < o'.length) (h : l.length / 2 ≤ j) => hO.after (i := l.length / 2) h hj
    obtain ⟨p, hp⟩ : ∃ p, p = o'[(l.length - 1) / 2] := ⟨_, rfl⟩
    obtain ⟨q, hq⟩ : ∃ q, q = o'[l.length / 2] := ⟨_, rfl⟩
    rw [← hp] at g1 m1 hva
    rw [← hq] at g2 m2 hva
    simp only [← hp] at hA
    simp only [← hq] at hB
    have c5 : (0 : Int) ≤ ((p : Nat) : Int) := by omega
    have c6 : (0 : Int) ≤ ((q : Nat) : Int) := by omega
    have c7 : ((p : Nat) : Int) < ((l.length : Nat) : Int) := by omega
    have c8 : ((q : Nat) : Int) < ((l.length : Nat) : Int) := by omega
    have hadd := ratio_Add_ok (hs _ (List.getElem_mem m1)) (hs _ (List.getElem_mem m2))
    rw [← vals_get m1, ← vals_get m2] at hadd
    have szp := vals_sz hsz (by decide) m1
    have szq := vals_sz hsz (by decide) m2
    have sza := szp.add szq
    have szm := sza.mul half_sz
    have hmul := ratio_Mul_ok (sza.sm (by decide)) (half_sz.sm (by decide))
    rw [rv_canQ, rv_canQ] at hmul
    obtain ⟨hmid1, hmid2⟩ := half_mid hva
    have hmed : rank_Median l = some (canQ ((vals l p + vals l q) * (((1 : Int) : Rat) / ((2 : Int) : Rat))), 0) := by
      rw [rank_Median, cnd' c0, ho, Option.bind_some, ints_len, hol, e1, e2]
      rw [ints_len, hol] at c2 c4
      rw [cnd2 c1 c2, Int.toNat_natCast, g1, Option.bind_some, cnd c5, Int.toNat_natCast, List.getElem?_eq_getElem m1, Option.bind_some, cnd2 c3 c4, Int.toNat_natCast, g2, Option.bind_some, cnd c6, Int.toNat_natCast, List.getElem?_eq_getElem m2, Option.bind_some, hadd, Option.bind_some, half_ok, Option.bind_some, hmul, Option.bind_some]
    generalize hM : (vals l p + vals l q) * (((1 : Int) : Rat) / ((2 : Int) : Rat)) = M at *
    have smM : Sm (canQ M) := szm.sm (by decide)
    have key := lp_up (step := dendronlaw27_RankMedians_s11) (fun i => ((l, (0 : Int), ((l.length : Nat) : Int), ((cntF (fun j => decide (vals l j < M)) i : Nat) : Int), ((cntF (fun j => decide (M < vals l j)) i : Nat) : Int), (i : Int), ()), (((canQ M).1.1, (canQ M).1.2, (canQ M).2, ()), (l[p].1.1, l[p].1.2, l[p].2, ()), (l[q].1.1, l[q].1.2, l[q].2, ()), ()))) l.length
      (r := (((0 : Int), ((l.length : Nat) : Int), ((cntF (fun j => decide (vals l j < M)) l.length : Nat) : Int), ((cntF (fun j => decide (M < vals l j)) l.length : Nat) : Int), ()), (((canQ M).1.1, (canQ M).1.2, (canQ M).2, ()), (l[p].1.1, l[p].1.2, l[p].2, ()), (l[q].1.1, l[q].1.2, l[q].2, ()), ()))) (by omega) (by
      intro g i hi
      have d0 : (i : Int) < ((l.length : Nat) : Int) := by omega
      have d1 : (0 : Int) ≤ (i : Int) := by omega
      have hc := ratio_Cmp_ok (hs _ (List.getElem_mem hi)) smM
      rw [rv_canQ, ← vals_get hi] at hc
      have hc' : ratio_Cmp l[i] (((canQ M).1.1, (canQ M).1.2), (canQ M).2) = some (rcmp (vals l i) M) := hc
      have a1 := cntF_le (fun j => decide (vals l j < M)) i
      have a2 := cntF_le (fun j => decide (M < vals l j)) i
      rw [dendronlaw27_RankMedians_s11, cnd d0, cnd d1, Int.toNat_natCast, List.getElem?_eq_getElem hi, Option.bind_some, hc', Option.bind_some, cntF_succ, cntF_succ, iadd1 (n := i) (by omega), iadd1 (n := cntF (fun j => decide (vals l j < M)) i) (by omega), iadd1 (n := cntF (fun j => decide (M < vals l j)) i) (by omega)]
      by_cases t1 : vals l i < M
      · have t2 : ¬ M < vals l i := fun h => rlt_asymm t1 h
        rw [cnd (rcmp_neg.2 t1), cnd' (fun h => t2 (rcmp_pos.1 h))]
        simp [t1, t2]
      · rw [cnd' (fun h => t1 (rcmp_neg.1 h))]
        by_cases t2 : M < vals l i
        · rw [cnd (rcmp_pos.2 t2)]
          simp [t1, t2]
        · rw [cnd' (fun h => t2 (rcmp_pos.1 h))]
          simp [t1, t2]) (by
      intro g
      rw [dendronlaw27_RankMedians_s11, cnd' (by omega)])
    have key' : lp dendronlaw27_RankMedians_s11 K0 ((l, (0 : Int), ((l.length : Nat) : Int), 0, 0, 0, ()), (((canQ M).1.1, (canQ M).1.2, (canQ M).2, ()), (l[p].1.1, l[p].1.2, l[p].2, ()), (l[q].1.1, l[q].1.2, l[q].2, ()), ())) = _ := key
    have hIs := Is_ok szm (by decide) szm.szR (by decide)
    rw [rv_canQ, decide_eq_true rfl] at hIs
    have hadd' : ratio_Add ((l[p].1.1, l[p].1.2), l[p].2) ((l[q].1.1, l[q].1.2), l[q].2) = some (canQ (vals l p + vals l q)) := hadd
    have hIs' : dendronref10_Is (((canQ M).1.1, (canQ M).1.2), (canQ M).2) (canQ M) = some true := hIs
    have n1 : cntF (fun j => decide (vals l j < M)) l.length ≤ l.length - ((l.length - 1) / 2 + 1) := cnt_drop hO _ (fun i hi hk => by
      have := hA i (by omega)
      simp only [decide_eq_false_iff_not]
      intro h
      grind)
    have n2 : cntF (fun j => decide (M < vals l j)) l.length ≤ l.length / 2 := cnt_take hO _ (fun i hi hk => by
      have := hB i hi hk
      simp only [decide_eq_false_iff_not]
      intro h
      grind)
    have f1 : imul .i64 2 ((cntF (fun j => decide (vals l j < M)) l.length : Nat) : Int) ≤ ((l.length : Nat) : Int) := by rw [imul_i] <;> omega
    have f2 : imul .i64 2 ((cntF (fun j => decide (M < vals l j)) l.length : Nat) : Int) ≤ ((l.length : Nat) : Int) := by rw [imul_i] <;> omega
    rw [hmed, Option.bind_some, cnd' c0, ho', Option.bind_some, e1, e2, cnd2 c1 c2, Int.toNat_natCast, g1, Option.bind_some, cnd2 c5 c7, Int.toNat_natCast, List.getElem?_eq_getElem m1, Option.bind_some, cnd2 c3 c4, Int.toNat_natCast, g2, Option.bind_some, cnd2 c6 c8, Int.toNat_natCast, List.getElem?_eq_getElem m2, Option.bind_some, key', Option.bind_some, cnd (by rfl), hadd', Option.bind_some, half_ok, Option.bind_some, hmul, Option.bind_some, hIs', Option.bind_some, cond_true, cnd f1, cnd f2, law27_awake_ok]
    rfl
end Go.Proofs.YtdkcgmbdeimonaaDoor.X

/- Lemmas over the printed texts: parts of a sum; RankShares. -/
namespace Go.Proofs.YtdkcgmbdeimonaaDoor.X
open Go
set_option linter.unusedVariables false
set_option linter.unusedSimpArgs false

/-- Amounts, their sum, the parts. -/
def vabs (l : List RAT) (i : Nat) : Rat := rabs (vals l i)
def vsum (l : List RAT) : Rat := rsum (vabs l) l.length
def shareQ (l : List RAT) (i : Nat) : Rat := vabs l i / vsum l
def shareL (l : List RAT) (n : Nat) : List RAT := (List.range n).map fun i => canQ (shareQ l i)
@[simp] theorem shareL_len (l : List RAT) (n : Nat) : (shareL l n).length = n := by simp [shareL]
theorem shareL_succ (l : List RAT) (n : Nat) : shareL l (n + 1) = shareL l n ++ [canQ (shareQ l n)] := by simp [shareL, List.range_succ]
theorem shareL_get {l : List RAT} {n i : Nat} (h : i < n) : (shareL l n)[i]? = some (canQ (shareQ l i)) := by simp [shareL, h]
theorem vals_shareL {l : List RAT} {n i : Nat} (h : i < n) : vals (shareL l n) i = shareQ l i := by simp [vals, shareL_get h, rv_canQ]

section
variable {l : List RAT} (hsz : ∀ x ∈ l, SzR x 2) (hlen : l.length ≤ 33)
include hsz
theorem vabs_sz {i : Nat} (hi : i < l.length) : SzQ (vabs l i) 2 := (vals_sz hsz (by decide) hi).abs
include hlen
theorem vpart_sz {i : Nat} (hi : i ≤ l.length) : SzQ (rsum (vabs l) i) 100 :=
  (rsum_sz (k := 2) fun j hj => vabs_sz hsz (by omega)).mono (by omega)
theorem vsum_sz : SzQ (vsum l) 100 := vpart_sz hsz hlen (Nat.le_refl _)
theorem shareQ_sz {i : Nat} (hi : i < l.length) : SzQ (shareQ l i) 102 := (vabs_sz hsz hi).div (vsum_sz hsz hlen)
end
theorem vsum_nonneg (l : List RAT) : 0 ≤ vsum l := rsum_nonneg fun i _ => rabs_nonneg _
theorem shareQ_zero {l : List RAT} (h : vsum l = 0) (i : Nat) : shareQ l i = 0 := by rw [shareQ, h, Rat.div_def]; simp

theorem rank_Share_ok {l : List RAT} (hsz : ∀ x ∈ l, SzR x 2) (hlen : l.length ≤ 33) : rank_Share l = some (shareL l l.length) := by
  have hs : ∀ x ∈ l, Sm x := fun x hx => (hsz x hx).sm (by decide)
  have key1 := lp_up (step := rank_Share_s3) (fun i => ((l, l, ((l.length : Nat) : Int), (i : Int), ()), (((canQ (rsum (vabs l) i)).1.1, (canQ (rsum (vabs l) i)).1.2, (canQ (rsum (vabs l) i)).2, ()), ()))) l.length
    (r := ((l, ()), (((canQ (vsum l)).1.1, (canQ (vsum l)).1.2, (canQ (vsum l)).2, ()), ()))) (by omega) (by
    intro g i hi
    have d0 : (i : Int) < ((l.length : Nat) : Int) := by omega
    have d1 : (0 : Int) ≤ (i : Int) := by omega
    have ha := ratio_Abs_ok (hs _ (List.getElem_mem hi))
    rw [← vals_get hi] at ha
    have hp := ratio_Add_ok ((vpart_sz hsz hlen (Nat.le_of_lt hi)).sm (by decide)) ((vabs_sz hsz hi).sm (by decide))
    rw [rv_canQ, rv_canQ] at hp
    have hp' : ratio_Add (((canQ (rsum (vabs l) i)).1.1, (canQ (rsum (vabs l) i)).1.2), (canQ (rsum (vabs l) i)).2) (canQ (rabs (vals l i))) = some (canQ (rsum (vabs l) (i + 1))) := hp
    rw [rank_Share_s3, cnd d0, cnd d1, Int.toNat_natCast, List.getElem?_eq_getElem hi, Option.bind_some, ha, Option.bind_some, hp', Option.bind_some, iadd1 (by omega)]
    rfl) (by
    intro g
    rw [rank_Share_s3, cnd' (by omega)]
    rfl)
  have key1' : lp rank_Share_s3 K0 ((l, l, ((l.length : Nat) : Int), 0, ()), (((canQ 0).1.1, (canQ 0).1.2, (canQ 0).2, ()), ())) = _ := key1
  have key2 := lp_up (step := rank_Share_s9) (fun i => ((shareL l i, l, ((l.length : Nat) : Int), (i : Int), ()), (((canQ (vsum l)).1.1, (canQ (vsum l)).1.2, (canQ (vsum l)).2, ()), ()))) l.length
    (r := ((shareL l l.length, ()), ())) (by omega) (by
    intro g i hi
    have d0 : (i : Int) < ((l.length : Nat) : Int) := by omega
    have d1 : (0 : Int) ≤ (i : Int) := by omega
    have hsg := ratio_Sign_ok ((vsum_sz hsz hlen).sm (by decide))
    rw [rv_canQ] at hsg
    have hsg' : ratio_Sign (((canQ (vsum l)).1.1, (canQ (vsum l)).1.2), (canQ (vsum l)).2) = some (rcmp (vsum l) 0) := hsg
    have d2 : (Nat.ble (((shareL l i).length + 1) * 56) 140737488355328 && !false) = true := blt (by simp; omega)
    rw [rank_Share_s9, cnd d0, cnd d1, Int.toNat_natCast, List.getElem?_eq_getElem hi, Option.bind_some, hsg', Option.bind_some]
    by_cases h0 : vsum l = 0
    · rw [cnd (rcmp_zero.2 h0), ratio_Zero_ok, Option.bind_some, d2, cond_true, iadd1 (by omega), shareL_succ, shareQ_zero h0]
      rfl
    · have ha := ratio_Abs_ok (hs _ (List.getElem_mem hi))
      rw [← vals_get hi] at ha
      have hd := ratio_Div_ok ((vabs_sz hsz hi).sm (by decide)) ((vsum_sz hsz hlen).sm (by decide))
      rw [rv_canQ, rv_canQ, if_neg h0] at hd
      have hd' : ratio_Div (canQ (rabs (vals l i))) (((canQ (vsum l)).1.1, (canQ (vsum l)).1.2), (canQ (vsum l)).2) = some (canQ (shareQ l i), 0) := hd
      rw [cnd' (fun h => h0 (rcmp_zero.1 h)), ha, Option.bind_some, hd', Option.bind_some, d2, cond_true, iadd1 (by omega), shareL_succ]
      rfl) (by
    intro g
    rw [rank_Share_s9, cnd' (by omega)])
  have key2' : lp rank_Share_s9 K0 (([], l, ((l.length : Nat) : Int), 0, ()), (((canQ (vsum l)).1.1, (canQ (vsum l)).1.2, (canQ (vsum l)).2, ()), ())) = _ := key2
  rw [rank_Share, ratio_Zero_ok, Option.bind_some, key1', Option.bind_some, key2']
  rfl

theorem shares_ok {l : List RAT} (hsz : ∀ x ∈ l, SzR x 2) (hlen : l.length ≤ 33) : dendronlaw27_shares l = some (shareL l l.length) := by
  have hs : ∀ x ∈ l, Sm x := fun x hx => (hsz x hx).sm (by decide)
  have key1 := lp_up (step := dendronlaw27_shares_s3) (fun i => ((l, (i : Int), ()), (((canQ (rsum (vabs l) i)).1.1, (canQ (rsum (vabs l) i)).1.2, (canQ (rsum (vabs l) i)).2, ()), ()))) l.length
    (r := ((l, ()), (((canQ (vsum l)).1.1, (canQ (vsum l)).1.2, (canQ (vsum l)).2, ()), ()))) (by omega) (by
    intro g i hi
    have d0 : (i : Int) < ((l.length : Nat) : Int) := by omega
    have d1 : (0 : Int) ≤ (i : Int) := by omega
    have ha := ratio_Abs_ok (hs _ (List.getElem_mem hi))
    rw [← vals_get hi] at ha
    have hp := ratio_Add_ok ((vpart_sz hsz hlen (Nat.le_of_lt hi)).sm (by decide)) ((vabs_sz hsz hi).sm (by decide))
    rw [rv_canQ, rv_canQ] at hp
    have hp' : ratio_Add (((canQ (rsum (vabs l) i)).1.1, (canQ (rsum (vabs l) i)).1.2), (canQ (rsum (vabs l) i)).2) (canQ (rabs (vals l i))) = some (canQ (rsum (vabs l) (i + 1))) := hp
    rw [dendronlaw27_shares_s3, cnd d0, cnd d1, Int.toNat_natCast, List.getElem?_eq_getElem hi, Option.bind_some, ha, Option.bind_some, hp', Option.bind_some, iadd1 (by omega)]
    rfl) (by
    intro g
    rw [dendronlaw27_shares_s3, cnd' (by omega)]
    rfl)
  have key1' : lp dendronlaw27_shares_s3 K0 ((l, 0, ()), (((canQ 0).1.1, (canQ 0).1.2, (canQ 0).2, ()), ())) = _ := key1
  have key2 := lp_up (step := dendronlaw27_shares_s8) (fun i => ((l, shareL l i, (i : Int), ()), (((canQ (vsum l)).1.1, (canQ (vsum l)).1.2, (canQ (vsum l)).2, ()), ()))) l.length
    (r := ((shareL l l.length, ()), ())) (by omega) (by
    intro g i hi
    have d0 : (i : Int) < ((l.length : Nat) : Int) := by omega
    have d1 : (0 : Int) ≤ (i : Int) := by omega
    have hsg := ratio_Sign_ok ((vsum_sz hsz hlen).sm (by decide))
    rw [rv_canQ] at hsg
    have hsg' : ratio_Sign (((canQ (vsum l)).1.1, (canQ (vsum l)).1.2), (canQ (vsum l)).2) = some (rcmp (vsum l) 0) := hsg
    have d2 : (Nat.ble (((shareL l i).length + 1) * 56) 140737488355328 && !false) = true := blt (by simp; omega)
    rw [dendronlaw27_shares_s8, cnd d0, ratio_Zero_ok, Option.bind_some, hsg', Option.bind_some]
    by_cases h0 : vsum l = 0
    · have : ¬ rcmp (vsum l) 0 > 0 := by rw [rcmp_pos, h0]; exact Rat.lt_irrefl
      rw [cnd' this, d2, cond_true, iadd1 (by omega), shareL_succ, shareQ_zero h0]
      rfl
    · have : rcmp (vsum l) 0 > 0 := by rw [rcmp_pos]; exact Rat.lt_of_le_of_ne (vsum_nonneg l) (fun e => h0 e.symm)
      have ha := ratio_Abs_ok (hs _ (List.getElem_mem hi))
      rw [← vals_get hi] at ha
      have hd := ratio_Div_ok ((vabs_sz hsz hi).sm (by decide)) ((vsum_sz hsz hlen).sm (by decide))
      rw [rv_canQ, rv_canQ, if_neg h0] at hd
      have hd' : ratio_Div (canQ (rabs (vals l i))) (((canQ (vsum l)).1.1, (canQ (vsum l)).1.2), (canQ (vsum l)).2) = some (canQ (shareQ l i), 0) := hd
      rw [cnd this, cnd d1, Int.toNat_natCast, List.getElem?_eq_getElem hi, Option.bind_some, ha, Option.bind_some, hd', Option.bind_some, d2, cond_true, iadd1 (by omega), shareL_succ]
      rfl) (by
    intro g
    rw [dendronlaw27_shares_s8, cnd' (by omega)])
  have key2' : lp dendronlaw27_shares_s8 K0 ((l, [], 0, ()), (((canQ (vsum l)).1.1, (canQ (vsum l)).1.2, (canQ (vsum l)).2, ()), ())) = _ := key2
  rw [dendronlaw27_shares, ratio_Zero_ok, Option.bind_some, key1', Option.bind_some, key2']
  rfl

/-- Numbers in their form, and others. -/
theorem All_true {a b : List RAT} {n m : Nat} (hn : n < 91625968980) (hm : m < 91625968980) (hb : ∀ x ∈ b, SzR x m) (hlen : a.length = b.length) (hl : a.length < 4398046511104)
    (h : ∀ i (hi : i < a.length) (hi' : i < b.length), ∃ q, SzQ q n ∧ a[i] = canQ q ∧ rv b[i] = q) : dendronref10_All a b = some true := by
  have c0 : ((a.length : Nat) : Int) = ((b.length : Nat) : Int) := by omega
  have key := lp_up (step := dendronref10_All_s4) (fun i => ((a, b, (i : Int), ()), ())) a.length (r := .inl ((), ())) (by omega) (by
    intro g i hi
    have hi' : i < b.length := by omega
    obtain ⟨q, hq, e, e2⟩ := h i hi hi'
    have d0 : (i : Int) < ((a.length : Nat) : Int) := by omega
    have d1 : (0 : Int) ≤ (i : Int) := by omega
    have his := Is_ok hq hn (hb _ (List.getElem_mem hi')) hm
    rw [e2, decide_eq_true rfl] at his
    rw [dendronref10_All_s4, cnd d0, cnd d1, Int.toNat_natCast, List.getElem?_eq_getElem hi, Option.bind_some, cnd d1, List.getElem?_eq_getElem hi', Option.bind_some, e, his, Option.bind_some, iadd1 (by omega)]
    rfl) (by
    intro g
    rw [dendronref10_All_s4, cnd' (by omega)])
  have key' : lp dendronref10_All_s4 K0 ((a, b, 0, ()), ()) = some (.inl ((), ())) := key
  rw [dendronref10_All, decide_eq_true c0, key']
  rfl

theorem ratio_Sum_ok {l : List RAT} {k : Nat} (hs : ∀ x ∈ l, Sm x) (hk : ∀ i, i < l.length → SzQ (vals l i) k) (hl : 1 + l.length * (k + 1) < 1099511627776) (hlen : l.length < 4398046511104) : ratio_Sum l = some (canQ (rsum (vals l) l.length)) := by
  have hpart : ∀ i, i ≤ l.length → Sm (canQ (rsum (vals l) i)) := by
    intro i hi
    have h1 := rsum_sz (f := vals l) (k := k) (n := i) (fun j hj => hk j (by omega))
    refine h1.sm (Nat.lt_of_le_of_lt ?_ hl)
    have := Nat.mul_le_mul_right (k + 1) hi
    omega
  have key := lp_up (step := ratio_Sum_s3) (fun i => ((l, ((l.length : Nat) : Int), (i : Int), ()), ((false, [], [], ()), ((canQ (rsum (vals l) i)).1.1, (canQ (rsum (vals l) i)).1.2, (canQ (rsum (vals l) i)).2, ()), ()))) l.length
    (r := ((), ((false, [], [], ()), ((canQ (rsum (vals l) l.length)).1.1, (canQ (rsum (vals l) l.length)).1.2, (canQ (rsum (vals l) l.length)).2, ()), ()))) (by omega) (by
    intro g i hi
    have d0 : (i : Int) < ((l.length : Nat) : Int) := by omega
    have d1 : (0 : Int) ≤ (i : Int) := by omega
    have hp := ratio_Add_ok (hpart i (Nat.le_of_lt hi)) (hs _ (List.getElem_mem hi))
    rw [rv_canQ, ← vals_get hi] at hp
    have hp' : ratio_Add (((canQ (rsum (vals l) i)).1.1, (canQ (rsum (vals l) i)).1.2), (canQ (rsum (vals l) i)).2) l[i] = some (canQ (rsum (vals l) (i + 1))) := hp
    rw [ratio_Sum_s3, cnd d0, cnd d1, Int.toNat_natCast, List.getElem?_eq_getElem hi, Option.bind_some, hp', Option.bind_some, iadd1 (by omega)]
    rfl) (by
    intro g
    rw [ratio_Sum_s3, cnd' (by omega)])
  have key' : lp ratio_Sum_s3 K0 ((l, ((l.length : Nat) : Int), 0, ()), ((false, [], [], ()), ((canQ 0).1.1, (canQ 0).1.2, (canQ 0).2, ()), ())) = _ := key
  rw [ratio_Sum, ratio_Zero_ok, Option.bind_some, key']
  rfl

/-- Is one of the first so many not 0? -/
def anyNZ (v : Nat → Rat) : Nat → Bool
  | 0 => false
  | n + 1 => anyNZ v n || !decide (v n = 0)
theorem anyNZ_iff {v : Nat → Rat} {n : Nat} : anyNZ v n = true ↔ ∃ i, i < n ∧ v i ≠ 0 := by
  induction n with
  | zero => simp [anyNZ]
  | succ n ih =>
    simp only [anyNZ, Bool.or_eq_true, ih, Bool.not_eq_true', decide_eq_false_iff_not]
    constructor
    · rintro (⟨i, h1, h2⟩ | h)
      · exact ⟨i, by omega, h2⟩
      · exact ⟨n, by omega, h⟩
    · rintro ⟨i, h1, h2⟩
      by_cases e : i = n
      · subst e; exact .inr h2
      · exact .inl ⟨i, by omega, h2⟩

theorem RankShares_true (l0 : List RAT) (hl0 : l0.length ≤ 9223372036854775807) : dendronlaw27_RankShares l0 = some true := by
  have hf := Few19_ok l0 hl0
  have hsz : ∀ x ∈ (l0.take 33).map (cutR 2), SzR x 2 := by
    intro x hx
    obtain ⟨y, _, rfl⟩ := List.mem_map.1 hx
    exact cutR_sz 2 y
  have hs : ∀ x ∈ (l0.take 33).map (cutR 2), Sm x := fun x hx => (hsz x hx).sm (by decide)
  have hlen : ((l0.take 33).map (cutR 2)).length ≤ 33 := by simp; omega
  generalize (l0.take 33).map (cutR 2) = l at *
  have key := lp_up (step := dendronlaw27_RankShares_s5) (fun i => ((l, shareL l l.length, anyNZ (vals l) i, (i : Int), ()), ())) l.length (r := ((l, shareL l l.length, anyNZ (vals l) l.length, ()), ())) (by omega) (by
    intro g i hi
    have d0 : (i : Int) < ((l.length : Nat) : Int) := by omega
    have d1 : (0 : Int) ≤ (i : Int) := by omega
    have hsg := ratio_Sign_ok (hs _ (List.getElem_mem hi))
    rw [← vals_get hi] at hsg
    have hz : decide (rcmp (vals l i) 0 = 0) = decide (vals l i = 0) := by rw [decide_eq_decide]; exact rcmp_zero
    rw [dendronlaw27_RankShares_s5, cnd d0, iadd1 (by omega)]
    cases h : anyNZ (vals l) i with
    | true =>
      have : anyNZ (vals l) (i + 1) = true := by simp [anyNZ, h]
      rw [this]; rfl
    | false =>
      have : anyNZ (vals l) (i + 1) = !decide (vals l i = 0) := by simp [anyNZ, h]
      rw [cond_false, cnd d1, Int.toNat_natCast, List.getElem?_eq_getElem hi, Option.bind_some, hsg, Option.bind_some, hz, this]
      rfl) (by
    intro g
    rw [dendronlaw27_RankShares_s5, cnd' (by omega)])
  have key' : lp dendronlaw27_RankShares_s5 K0 ((l, shareL l l.length, false, 0, ()), ()) = _ := key
  have hall : dendronref10_All (shareL l l.length) (shareL l l.length) = some true := by
    refine All_true (n := 102) (m := 102) (by decide) (by decide) ?_ rfl (by simp; omega) ?_
    · intro x hx
      obtain ⟨i, hi, rfl⟩ := List.mem_map.1 hx
      rw [List.mem_range] at hi
      exact (shareQ_sz hsz hlen hi).szR
    · intro i hi hi'
      rw [shareL_len] at hi
      refine ⟨shareQ l i, shareQ_sz hsz hlen hi, by simp [shareL], by simp [shareL, rv_canQ]⟩
  rw [dendronlaw27_RankShares, hf, Option.bind_some, rank_Share_ok hsz hlen, Option.bind_some, key', Option.bind_some, shares_ok hsz hlen, Option.bind_some, hall, Option.bind_some, cond_true]
  cases h : anyNZ (vals l) l.length with
  | false => rw [Bool.not_false, cond_true, law27_awake_ok]; rfl
  | true =>
    obtain ⟨i, hi, hne⟩ := anyNZ_iff.1 h
    have hS : vsum l ≠ 0 := by
      intro e
      have := rsum_zero (f := vabs l) (n := l.length) (fun i _ => rabs_nonneg _) e i hi
      exact hne (rabs_zero.1 this)
    have hvs : ∀ j, j < l.length → vals (shareL l l.length) j = shareQ l j := fun j hj => vals_shareL hj
    have hsum := ratio_Sum_ok (l := shareL l l.length) (k := 102) (by
      intro x hx
      obtain ⟨i, hi, rfl⟩ := List.mem_map.1 hx
      rw [List.mem_range] at hi
      exact (shareQ_sz hsz hlen hi).sm (by decide)) (by
      intro i hi
      rw [shareL_len] at hi
      rw [hvs i hi]; exact shareQ_sz hsz hlen hi) (by rw [shareL_len]; omega) (by rw [shareL_len]; omega)
    have hone : rsum (vals (shareL l l.length)) (shareL l l.length).length = 1 := by
      rw [shareL_len, rsum_congr hvs]
      have := rsum_div (vabs l) (vsum l) l.length
      rw [show (fun i => vabs l i / vsum l) = shareQ l from rfl] at this
      rw [this]
      show vsum l / vsum l = 1
      rw [Rat.div_def, Rat.mul_inv_cancel _ hS]
    rw [hone] at hsum
    have hsame := ratio_Same_ok (SzQ.one.sm (show 1 < 1099511627776 by decide)) (SzQ.one.sm (show 1 < 1099511627776 by decide))
    rw [decide_eq_true rfl] at hsame
    rw [Bool.not_true, cond_false, hsum, Option.bind_some, ratio_One_ok, Option.bind_some, hsame, Option.bind_some, cond_true, law27_awake_ok]
    rfl
end Go.Proofs.YtdkcgmbdeimonaaDoor.X

/- Lemmas over the printed texts: how many come to a part; RankCovers. -/
namespace Go.Proofs.YtdkcgmbdeimonaaDoor.X
open Go
set_option linter.unusedVariables false
set_option linter.unusedSimpArgs false

/-- The first from so many ahead of the end on that will do; else the end. -/
def cv (P : Nat → Bool) (n : Nat) : Nat → Nat
  | 0 => n
  | d + 1 => if P (n - (d + 1)) then n - (d + 1) else cv P n d

/-- What the first so many come to. -/
def psum (v : Nat → Rat) (o : List Nat) : Nat → Rat := rsum fun i => v ((o[i]?).getD 0)

theorem rank_Cover_ok {l : List RAT} (hsz : ∀ x ∈ l, SzR x 2) (hlen : l.length ≤ 33) {z : RAT} (hz : Sm z) {o : List Nat} (ho : rank_Order (shareL l l.length) = some (ints o)) (hO : Ordered (vals (shareL l l.length)) l.length o) :
    rank_Cover l z = some ((cv (fun k => decide (rv z ≤ psum (shareQ l) o k)) l.length l.length : Nat) : Int) := by
  have hol := hO.len
  have hps : ∀ k, k ≤ l.length → SzQ (psum (shareQ l) o k) 5000 := by
    intro k hk
    refine (rsum_sz (k := 102) (n := k) fun i hi => ?_).mono (by omega)
    have hio : i < o.length := by omega
    rw [List.getElem?_eq_getElem hio, Option.getD_some]
    exact shareQ_sz hsz hlen (hO.lt (List.getElem_mem hio))
  obtain ⟨r, hr, hlp⟩ := lp_wf (step := rank_Cover_s4)
    (fun s => ∃ k : Nat, s = ((l, shareL l l.length, ints o, ((l.length : Nat) : Int), (k : Int), ()), ((z.1.1, z.1.2, z.2, ()), ((canQ (psum (shareQ l) o k)).1.1, (canQ (psum (shareQ l) o k)).1.2, (canQ (psum (shareQ l) o k)).2, ()), ())) ∧ k ≤ l.length ∧ cv (fun k => decide (rv z ≤ psum (shareQ l) o k)) l.length l.length = cv (fun k => decide (rv z ≤ psum (shareQ l) o k)) l.length (l.length - k))
    (fun s => (l.length - s.1.2.2.2.2.1).toNat)
    (fun r => (r = .inl ((l, ()), ()) ∧ cv (fun k => decide (rv z ≤ psum (shareQ l) o k)) l.length l.length = l.length) ∨ r = .inr ((((cv (fun k => decide (rv z ≤ psum (shareQ l) o k)) l.length l.length : Nat) : Int), ()), ()))
    (v := ((l, shareL l l.length, ints o, ((l.length : Nat) : Int), 0, ()), ((z.1.1, z.1.2, z.2, ()), ((canQ 0).1.1, (canQ 0).1.2, (canQ 0).2, ()), ())))
    ⟨0, rfl, by omega, rfl⟩ (by simp; omega) (by
      rintro s ⟨k, rfl, hk, hcv⟩
      by_cases hkl : k < l.length
      · have d0 : (k : Int) < ((l.length : Nat) : Int) := by omega
        have d1 : (0 : Int) ≤ (k : Int) := by omega
        have d2 : (k : Int) < ((ints o).length : Int) := by simp; omega
        have hko : k < o.length := by omega
        have hm : o[k] < l.length := hO.lt (List.getElem_mem hko)
        have hc := ratio_Cmp_ok ((hps k hk).sm (by decide)) hz
        rw [rv_canQ] at hc
        have hc' : ratio_Cmp (((canQ (psum (shareQ l) o k)).1.1, (canQ (psum (shareQ l) o k)).1.2), (canQ (psum (shareQ l) o k)).2) ((z.1.1, z.1.2), z.2) = some (rcmp (psum (shareQ l) o k) (rv z)) := hc
        have e1 : l.length - k = (l.length - k - 1) + 1 := by omega
        have e2 : l.length - (l.length - k - 1 + 1) = k := by omega
        have hun : cv (fun k => decide (rv z ≤ psum (shareQ l) o k)) l.length (l.length - k) = if decide (rv z ≤ psum (shareQ l) o k) = true then k else cv (fun k => decide (rv z ≤ psum (shareQ l) o k)) l.length (l.length - k - 1) := by
          conv => lhs; rw [e1]
          simp only [cv, e2]
        have hge : rcmp (psum (shareQ l) o k) (rv z) ≥ 0 ↔ rv z ≤ psum (shareQ l) o k := by
          rw [← Rat.not_lt, ← rcmp_neg]; omega
        by_cases hP : rv z ≤ psum (shareQ l) o k
        · rw [hun, if_pos (decide_eq_true hP)] at hcv
          refine .inl ⟨_, .inr rfl, fun g => ?_⟩
          rw [rank_Cover_s4, cnd d0, cnd2 d1 d2, Int.toNat_natCast, ints_get hko, Option.bind_some, hc', Option.bind_some, cnd (hge.2 hP), hcv]
        · rw [hun, if_neg (by simpa using hP)] at hcv
          have hadd := ratio_Add_ok ((hps k hk).sm (by decide)) ((shareQ_sz hsz hlen hm).sm (by decide))
          rw [rv_canQ, rv_canQ] at hadd
          have hadd' : ratio_Add (((canQ (psum (shareQ l) o k)).1.1, (canQ (psum (shareQ l) o k)).1.2), (canQ (psum (shareQ l) o k)).2) (canQ (shareQ l o[k])) = some (canQ (psum (shareQ l) o (k + 1))) := by
            have : psum (shareQ l) o (k + 1) = psum (shareQ l) o k + shareQ l o[k] := by
              simp only [psum, rsum, List.getElem?_eq_getElem hko, Option.getD_some]
            rw [this]; exact hadd
          have d3 : (0 : Int) ≤ ((o[k] : Nat) : Int) := by omega
          refine .inr ⟨_, ⟨k + 1, rfl, by omega, by rw [hcv, show l.length - (k + 1) = l.length - k - 1 by omega]⟩, by simp; omega, fun g => ?_⟩
          rw [rank_Cover_s4, cnd d0, cnd2 d1 d2, Int.toNat_natCast, ints_get hko, Option.bind_some, hc', Option.bind_some, cnd' (fun h => hP (hge.1 h)), cnd d3, Int.toNat_natCast, shareL_get hm, Option.bind_some, hadd', Option.bind_some, iadd1 (by omega)]
          rfl
      · have : k = l.length := by omega
        subst this
        rw [Nat.sub_self] at hcv
        refine .inl ⟨_, .inl ⟨rfl, hcv⟩, fun g => ?_⟩
        rw [rank_Cover_s4, cnd' (by omega)])
  rw [rank_Cover, rank_Share_ok hsz hlen, Option.bind_some, ratio_Zero_ok, Option.bind_some, ho, Option.bind_some, ints_len, hol, hlp]
  rcases hr with ⟨rfl, h⟩ | rfl
  · rw [h]; rfl
  · rfl

theorem RankCovers_inner {l : List RAT} (hsz : ∀ x ∈ l, SzR x 2) (hlen : l.length ≤ 33) (z : RAT) {o : List Nat} (hO : Ordered (vals (shareL l l.length)) l.length o) (w : Int) {n : Nat} (hn : n ≤ l.length) :
    lp dendronlaw27_RankCovers_s11 K0 ((l, shareL l l.length, ints o, w, (n : Int), 0, ()), ((z.1.1, z.1.2, z.2, ()), ((canQ 0).1.1, (canQ 0).1.2, (canQ 0).2, ()), ())) =
      some ((l, shareL l l.length, ints o, w, (n : Int), ()), ((z.1.1, z.1.2, z.2, ()), ((canQ (psum (shareQ l) o n)).1.1, (canQ (psum (shareQ l) o n)).1.2, (canQ (psum (shareQ l) o n)).2, ()), ())) := by
  have hol := hO.len
  exact lp_up (step := dendronlaw27_RankCovers_s11) (fun i => ((l, shareL l l.length, ints o, w, (n : Int), (i : Int), ()), ((z.1.1, z.1.2, z.2, ()), ((canQ (psum (shareQ l) o i)).1.1, (canQ (psum (shareQ l) o i)).1.2, (canQ (psum (shareQ l) o i)).2, ()), ()))) n (by omega) (by
    intro g k hk
    have d0 : (k : Int) < (n : Int) := by omega
    have d1 : (0 : Int) ≤ (k : Int) := by omega
    have d2 : (k : Int) < ((ints o).length : Int) := by simp; omega
    have hko : k < o.length := by omega
    have hm : o[k] < l.length := hO.lt (List.getElem_mem hko)
    have hps : SzQ (psum (shareQ l) o k) 5000 := by
      refine (rsum_sz (k := 102) (n := k) fun i hi => ?_).mono (by omega)
      have hio : i < o.length := by omega
      rw [List.getElem?_eq_getElem hio, Option.getD_some]
      exact shareQ_sz hsz hlen (hO.lt (List.getElem_mem hio))
    have hadd := ratio_Add_ok (hps.sm (by decide)) ((shareQ_sz hsz hlen hm).sm (by decide))
    rw [rv_canQ, rv_canQ] at hadd
    have hadd' : ratio_Add (((canQ (psum (shareQ l) o k)).1.1, (canQ (psum (shareQ l) o k)).1.2), (canQ (psum (shareQ l) o k)).2) (canQ (shareQ l o[k])) = some (canQ (psum (shareQ l) o (k + 1))) := by
      have : psum (shareQ l) o (k + 1) = psum (shareQ l) o k + shareQ l o[k] := by
        simp only [psum, rsum, List.getElem?_eq_getElem hko, Option.getD_some]
      rw [this]; exact hadd
    have d3 : (0 : Int) ≤ ((o[k] : Nat) : Int) := by omega
    rw [dendronlaw27_RankCovers_s11, cnd d0, cnd2 d1 d2, Int.toNat_natCast, ints_get hko, Option.bind_some, cnd d3, Int.toNat_natCast, shareL_get hm, Option.bind_some, hadd', Option.bind_some, iadd1 (by omega)]
    rfl) (by
    intro g
    rw [dendronlaw27_RankCovers_s11, cnd' (by omega)])

theorem RankCovers_true (l0 : List RAT) (z0 : RAT) (hl0 : l0.length ≤ 9223372036854775807) : dendronlaw27_RankCovers l0 z0 = some true := by
  have hf := Few19_ok l0 hl0
  have hsz : ∀ x ∈ (l0.take 33).map (cutR 2), SzR x 2 := by
    intro x hx
    obtain ⟨y, _, rfl⟩ := List.mem_map.1 hx
    exact cutR_sz 2 y
  have hlen : ((l0.take 33).map (cutR 2)).length ≤ 33 := by simp; omega
  have hz : Sm (cutR 3 z0) := (cutR_sz 3 z0).sm (by decide)
  have hfz : dendronlaw09_Few [(false, z0)] 1 = some [(false, cutR 3 z0)] := Few09_ok [(false, z0)] 1 (by simp) (by decide)
  generalize (l0.take 33).map (cutR 2) = l at *
  generalize cutR 3 z0 = z at *
  have hsS : ∀ x ∈ shareL l l.length, Sm x := by
    intro x hx
    obtain ⟨i, hi, rfl⟩ := List.mem_map.1 hx
    rw [List.mem_range] at hi
    exact (shareQ_sz hsz hlen hi).sm (by decide)
  obtain ⟨o, ho, hO⟩ := rank_Order_ok hsS (by rw [shareL_len]; omega)
  obtain ⟨o', ho', hO'⟩ := law27_order_ok hsS (by rw [shareL_len]; omega)
  have e := hO'.unique hO
  subst e
  rw [shareL_len] at hO
  have hcov := rank_Cover_ok hsz hlen hz ho hO
  have hps : ∀ k, k ≤ l.length → SzQ (psum (shareQ l) o' k) 5000 := by
    intro k hk
    have hol := hO.len
    refine (rsum_sz (k := 102) (n := k) fun i hi => ?_).mono (by omega)
    have hio : i < o'.length := by omega
    rw [List.getElem?_eq_getElem hio, Option.getD_some]
    exact shareQ_sz hsz hlen (hO.lt (List.getElem_mem hio))
  let P : Nat → Bool := fun k => decide (rv z ≤ psum (shareQ l) o' k)
  have hP : ∀ k, P k = decide (rv z ≤ psum (shareQ l) o' k) := fun _ => rfl
  have key := lp_up (step := dendronlaw27_RankCovers_s7) (fun i => ((l, shareL l l.length, ints o', ((cv P l.length (i - 1) : Nat) : Int), ((l.length : Nat) : Int) - (i : Int), ()), ((z.1.1, z.1.2, z.2, ()), ()))) (l.length + 1)
    (r := ((l, ((cv P l.length l.length : Nat) : Int), ()), ((z.1.1, z.1.2, z.2, ()), ()))) (by omega) (by
    intro g i hi
    have d0 : ((l.length : Nat) : Int) - (i : Int) ≥ 0 := by omega
    have e0 : ((l.length : Nat) : Int) - (i : Int) = ((l.length - i : Nat) : Int) := by omega
    have hin := RankCovers_inner hsz hlen z hO ((cv P l.length (i - 1) : Nat) : Int) (n := l.length - i) (by omega)
    have hc := ratio_Cmp_ok ((hps (l.length - i) (by omega)).sm (by decide)) hz
    rw [rv_canQ] at hc
    have hc' : ratio_Cmp (((canQ (psum (shareQ l) o' (l.length - i))).1.1, (canQ (psum (shareQ l) o' (l.length - i))).1.2), (canQ (psum (shareQ l) o' (l.length - i))).2) ((z.1.1, z.1.2), z.2) = some (rcmp (psum (shareQ l) o' (l.length - i)) (rv z)) := hc
    have hge : rcmp (psum (shareQ l) o' (l.length - i)) (rv z) ≥ 0 ↔ rv z ≤ psum (shareQ l) o' (l.length - i) := by
      rw [← Rat.not_lt, ← rcmp_neg]; omega
    have e1 : isub .i64 ((l.length - i : Nat) : Int) 1 = ((l.length : Nat) : Int) - ((i + 1 : Nat) : Int) := by rw [isub_i] <;> omega
    have hnext : cv P l.length (i + 1 - 1) = if rv z ≤ psum (shareQ l) o' (l.length - i) then l.length - i else cv P l.length (i - 1) := by
      cases i with
      | zero => simp [cv]
      | succ i =>
        simp only [Nat.add_sub_cancel, cv, hP, decide_eq_true_eq]
    rw [dendronlaw27_RankCovers_s7, cnd d0, ratio_Zero_ok, Option.bind_some, e0, hin, Option.bind_some, hc', Option.bind_some, e1]
    by_cases h : rv z ≤ psum (shareQ l) o' (l.length - i)
    · rw [cnd (hge.2 h), hnext, if_pos h]
    · rw [cnd' (fun h' => h (hge.1 h')), hnext, if_neg h]) (by
    intro g
    rw [dendronlaw27_RankCovers_s7, cnd' (by omega), Nat.add_sub_cancel])
  have key' : lp dendronlaw27_RankCovers_s7 K0 ((l, shareL l l.length, ints o', ((l.length : Nat) : Int), ((l.length : Nat) : Int), ()), ((z.1.1, z.1.2, z.2, ()), ())) = some ((l, ((cv P l.length l.length : Nat) : Int), ()), ((z.1.1, z.1.2, z.2, ()), ())) := by
    have h0 : ((l.length : Nat) : Int) - ((0 : Nat) : Int) = ((l.length : Nat) : Int) := by omega
    have := key
    rw [h0] at this
    exact this
  have hcov' : rank_Cover l ((z.1.1, z.1.2), z.2) = some ((cv P l.length l.length : Nat) : Int) := hcov
  rw [dendronlaw27_RankCovers, hf, Option.bind_some, hfz, Option.bind_some, cnd (by simp), List.getElem?_cons_zero, Option.bind_some, shares_ok hsz hlen, Option.bind_some, ho', Option.bind_some, key', Option.bind_some, hcov', Option.bind_some, cnd rfl, law27_awake_ok]
  rfl
end Go.Proofs.YtdkcgmbdeimonaaDoor.X

/- Lemmas over the printed texts: means; RankSpreads. -/
namespace Go.Proofs.YtdkcgmbdeimonaaDoor.X
open Go
set_option linter.unusedVariables false
set_option linter.unusedSimpArgs false

theorem ratio_Mean_ok {l : List RAT} {k : Nat} (hs : ∀ x ∈ l, Sm x) (hk : ∀ i, i < l.length → SzQ (vals l i) k) (hl : 1 + l.length * (k + 1) < 1099511627776) (hlen : l.length < 4294967296) (h0 : l.length ≠ 0) :
    ratio_Mean l = some (canQ (rsum (vals l) l.length / ((l.length : Int) : Rat)), 0) := by
  have c0 : ¬ ((l.length : Nat) : Int) = 0 := by omega
  have hsum := ratio_Sum_ok hs hk hl (by omega)
  have hof := ratio_Of_ok (n := (l.length : Int)) (by omega) (by omega)
  have s1 := rsum_sz hk
  have s2 := SzQ.int (z := (l.length : Int)) (by omega)
  have hne : rv (canQ ((l.length : Int) : Rat)) ≠ 0 := by
    rw [rv_canQ]
    intro e
    have := congrArg Rat.num e
    rw [Rat.num_intCast, Rat.zero_num] at this
    omega
  have hov := ratio_over_ok (s1.sm hl) (s2.sm (by decide)) hne
  rw [rv_canQ, rv_canQ] at hov
  rw [ratio_Mean, cnd' c0, hsum, Option.bind_some, hof, Option.bind_some, hov]
  rfl

theorem RankSpreads_true (l0 : List RAT) (hl0 : l0.length ≤ 9223372036854775807) : dendronlaw27_RankSpreads l0 = some true := by
  have hf := Few19_ok l0 hl0
  have hsz : ∀ x ∈ (l0.take 33).map (cutR 2), SzR x 2 := by
    intro x hx
    obtain ⟨y, _, rfl⟩ := List.mem_map.1 hx
    exact cutR_sz 2 y
  have hs : ∀ x ∈ (l0.take 33).map (cutR 2), Sm x := fun x hx => (hsz x hx).sm (by decide)
  have hlen : ((l0.take 33).map (cutR 2)).length ≤ 33 := by simp; omega
  generalize (l0.take 33).map (cutR 2) = l at *
  rw [dendronlaw27_RankSpreads, hf, Option.bind_some]
  by_cases h0 : l.length = 0
  · have c0 : ((l.length : Nat) : Int) = 0 := by omega
    rw [rank_Spread, ratio_Mean, cnd c0, Option.bind_some, decide_eq_false (by decide), Bool.not_false, cond_true, Option.bind_some, cnd c0, law27_awake_ok]
    rfl
  · have c0 : ¬ ((l.length : Nat) : Int) = 0 := by omega
    have hv : ∀ i, i < l.length → SzQ (vals l i) 2 := fun i hi => vals_sz hsz (by decide) hi
    have hsumsz : SzQ (rsum (vals l) l.length) 100 := (rsum_sz hv).mono (by omega)
    have hnsz := SzQ.int (z := (l.length : Int)) (by omega)
    have hmean := ratio_Mean_ok hs hv (by omega) (by omega) h0
    have hMsz : SzQ (rsum (vals l) l.length / ((l.length : Int) : Rat)) 101 := (hsumsz.div hnsz).mono (by decide)
    have hfrac := ratio_Frac_ok (n := 1) (d := (l.length : Int)) (by decide) (by decide) (by omega) (by omega)
    have hpsz : SzQ (((1 : Int) : Rat) / ((l.length : Int) : Rat)) 2 := (SzQ.int (z := 1) (by decide)).div hnsz
    have hdiv : ∀ x : Rat, x * (((1 : Int) : Rat) / ((l.length : Int) : Rat)) = x / ((l.length : Int) : Rat) := by
      intro x
      rw [Rat.div_def, Rat.div_def]
      have : ((1 : Int) : Rat) = 1 := rfl
      rw [this, Rat.one_mul]
    obtain ⟨M, hM⟩ : ∃ M, M = rsum (vals l) l.length / ((l.length : Int) : Rat) := ⟨_, rfl⟩
    obtain ⟨p, hp⟩ : ∃ p, p = ((1 : Int) : Rat) / ((l.length : Int) : Rat) := ⟨_, rfl⟩
    rw [← hM] at hMsz hmean
    rw [← hp] at hfrac hpsz hdiv
    have hdsz : ∀ i, i < l.length → SzQ (vals l i - M) 104 := fun i hi => ((hv i hi).sub hMsz).mono (by decide)
    have hsqsz : ∀ i, i < l.length → SzQ ((vals l i - M) * (vals l i - M)) 208 := fun i hi => (hdsz i hi).mul (hdsz i hi)
    have hsub : ∀ i (hi : i < l.length), ratio_Sub l[i] (canQ M) = some (canQ (vals l i - M)) := by
      intro i hi
      have := ratio_Sub_ok (hs _ (List.getElem_mem hi)) (hMsz.sm (by decide))
      rwa [rv_canQ, ← vals_get hi] at this
    have hmulsq : ∀ i (hi : i < l.length), ratio_Mul (canQ (vals l i - M)) (canQ (vals l i - M)) = some (canQ ((vals l i - M) * (vals l i - M))) := by
      intro i hi
      have := ratio_Mul_ok ((hdsz i hi).sm (by decide)) ((hdsz i hi).sm (by decide))
      rwa [rv_canQ] at this
    -- what the program finds
    have key := lp_up (step := rank_Spread_s6) (fun i => (((List.range i).map fun j => canQ ((vals l j - M) * (vals l j - M)), l, ((l.length : Nat) : Int), (i : Int), ()), ((false, [], [], ()), (false, [], [], ()), ((canQ M).1.1, (canQ M).1.2, (canQ M).2, ()), ()))) l.length
      (r := (((List.range l.length).map fun j => canQ ((vals l j - M) * (vals l j - M)), ()), ((false, [], [], ()), (false, [], [], ()), ((canQ M).1.1, (canQ M).1.2, (canQ M).2, ()), ()))) (by omega) (by
      intro g i hi
      have d0 : (i : Int) < ((l.length : Nat) : Int) := by omega
      have d1 : (0 : Int) ≤ (i : Int) := by omega
      have d2 : (Nat.ble ((((List.range i).map fun j => canQ ((vals l j - M) * (vals l j - M))).length + 1) * 56) 140737488355328 && !false) = true := blt (by simp; omega)
      have hsub' : ratio_Sub l[i] (((canQ M).1.1, (canQ M).1.2), (canQ M).2) = some (canQ (vals l i - M)) := hsub i hi
      rw [rank_Spread_s6, cnd d0, cnd d1, Int.toNat_natCast, List.getElem?_eq_getElem hi, Option.bind_some, hsub', Option.bind_some, hmulsq i hi, Option.bind_some, d2, cond_true, iadd1 (by omega), List.range_succ, List.map_append]
      rfl) (by
      intro g
      rw [rank_Spread_s6, cnd' (by omega)])
    have key' : lp rank_Spread_s6 K0 (([], l, ((l.length : Nat) : Int), 0, ()), ((false, [], [], ()), (false, [], [], ()), ((canQ M).1.1, (canQ M).1.2, (canQ M).2, ()), ())) = _ := key
    have hall : ∀ i, i < l.length → vals ((List.range l.length).map fun j => canQ ((vals l j - M) * (vals l j - M))) i = (vals l i - M) * (vals l i - M) := by
      intro i hi
      simp [vals, hi, rv_canQ]
    have hlenA : ((List.range l.length).map fun j => canQ ((vals l j - M) * (vals l j - M))).length = l.length := by simp
    have hmean2 := ratio_Mean_ok (l := (List.range l.length).map fun j => canQ ((vals l j - M) * (vals l j - M))) (k := 208) (by
      intro x hx
      obtain ⟨i, hi, rfl⟩ := List.mem_map.1 hx
      rw [List.mem_range] at hi
      exact (hsqsz i hi).sm (by decide)) (by
      intro i hi
      rw [hlenA] at hi
      rw [hall i hi]; exact hsqsz i hi) (by rw [hlenA]; omega) (by rw [hlenA]; omega) (by rw [hlenA]; exact h0)
    rw [hlenA, rsum_congr hall] at hmean2
    have hWsz0 : SzQ (rsum (fun i => (vals l i - M) * (vals l i - M)) l.length) 7000 := (rsum_sz hsqsz).mono (by omega)
    have hWsz : SzQ (rsum (fun i => (vals l i - M) * (vals l i - M)) l.length / ((l.length : Int) : Rat)) 7001 := (hWsz0.div hnsz).mono (by decide)
    obtain ⟨W, hW⟩ : ∃ W, W = rsum (fun i => (vals l i - M) * (vals l i - M)) l.length / ((l.length : Int) : Rat) := ⟨_, rfl⟩
    rw [← hW] at hmean2 hWsz
    have hspread : rank_Spread l = some (canQ M, canQ W, 0) := by
      rw [rank_Spread, hmean, Option.bind_some, decide_eq_true rfl, Bool.not_true, cond_false, key', Option.bind_some, hmean2]
      rfl
    -- what the law finds
    have hm1 : ∀ i, i ≤ l.length → SzQ (rsum (fun j => vals l j * p) i) 200 := fun i hi => (rsum_sz (k := 4) fun j hj => (hv j (by omega)).mul hpsz).mono (by omega)
    have key8 := lp_up (step := dendronlaw27_RankSpreads_s8) (fun i => ((l, (0 : Int), (i : Int), ()), (((canQ M).1.1, (canQ M).1.2, (canQ M).2, ()), ((canQ W).1.1, (canQ W).1.2, (canQ W).2, ()), ((canQ p).1.1, (canQ p).1.2, (canQ p).2, ()), ((canQ (rsum (fun j => vals l j * p) i)).1.1, (canQ (rsum (fun j => vals l j * p) i)).1.2, (canQ (rsum (fun j => vals l j * p) i)).2, ()), ((canQ 0).1.1, (canQ 0).1.2, (canQ 0).2, ()), ()))) l.length
      (r := ((l, (0 : Int), ()), (((canQ M).1.1, (canQ M).1.2, (canQ M).2, ()), ((canQ W).1.1, (canQ W).1.2, (canQ W).2, ()), ((canQ p).1.1, (canQ p).1.2, (canQ p).2, ()), ((canQ (rsum (fun j => vals l j * p) l.length)).1.1, (canQ (rsum (fun j => vals l j * p) l.length)).1.2, (canQ (rsum (fun j => vals l j * p) l.length)).2, ()), ((canQ 0).1.1, (canQ 0).1.2, (canQ 0).2, ()), ()))) (by omega) (by
      intro g i hi
      have d0 : (i : Int) < ((l.length : Nat) : Int) := by omega
      have d1 : (0 : Int) ≤ (i : Int) := by omega
      have q1 := ratio_Mul_ok (hs _ (List.getElem_mem hi)) (hpsz.sm (by decide))
      rw [rv_canQ, ← vals_get hi] at q1
      have q1' : ratio_Mul l[i] (((canQ p).1.1, (canQ p).1.2), (canQ p).2) = some (canQ (vals l i * p)) := q1
      have q2 := ratio_Add_ok ((hm1 i (Nat.le_of_lt hi)).sm (by decide)) (((hv i hi).mul hpsz).sm (by decide))
      rw [rv_canQ, rv_canQ] at q2
      have q2' : ratio_Add (((canQ (rsum (fun j => vals l j * p) i)).1.1, (canQ (rsum (fun j => vals l j * p) i)).1.2), (canQ (rsum (fun j => vals l j * p) i)).2) (canQ (vals l i * p)) = some (canQ (rsum (fun j => vals l j * p) (i + 1))) := q2
      rw [dendronlaw27_RankSpreads_s8, cnd d0, cnd d1, Int.toNat_natCast, List.getElem?_eq_getElem hi, Option.bind_some, q1', Option.bind_some, q2', Option.bind_some, iadd1 (by omega)]
      rfl) (by
      intro g
      rw [dendronlaw27_RankSpreads_s8, cnd' (by omega)])
    have hMM : rsum (fun j => vals l j * p) l.length = M := by rw [rsum_mul, hdiv, hM]
    rw [hMM] at key8
    have key8' : lp dendronlaw27_RankSpreads_s8 K0 ((l, (0 : Int), 0, ()), (((canQ M).1.1, (canQ M).1.2, (canQ M).2, ()), ((canQ W).1.1, (canQ W).1.2, (canQ W).2, ()), ((canQ p).1.1, (canQ p).1.2, (canQ p).2, ()), ((canQ 0).1.1, (canQ 0).1.2, (canQ 0).2, ()), ((canQ 0).1.1, (canQ 0).1.2, (canQ 0).2, ()), ())) = _ := key8
    have hm2 : ∀ i, i ≤ l.length → SzQ (rsum (fun j => (vals l j - M) * (vals l j - M) * p) i) 8000 := fun i hi => (rsum_sz (k := 210) fun j hj => (hsqsz j (by omega)).mul hpsz).mono (by omega)
    have key12 := lp_up (step := dendronlaw27_RankSpreads_s12) (fun i => ((l, (0 : Int), (i : Int), ()), (((canQ M).1.1, (canQ M).1.2, (canQ M).2, ()), ((canQ W).1.1, (canQ W).1.2, (canQ W).2, ()), ((canQ p).1.1, (canQ p).1.2, (canQ p).2, ()), ((canQ M).1.1, (canQ M).1.2, (canQ M).2, ()), ((canQ (rsum (fun j => (vals l j - M) * (vals l j - M) * p) i)).1.1, (canQ (rsum (fun j => (vals l j - M) * (vals l j - M) * p) i)).1.2, (canQ (rsum (fun j => (vals l j - M) * (vals l j - M) * p) i)).2, ()), ()))) l.length
      (r := (((0 : Int), ()), (((canQ M).1.1, (canQ M).1.2, (canQ M).2, ()), ((canQ W).1.1, (canQ W).1.2, (canQ W).2, ()), ((canQ M).1.1, (canQ M).1.2, (canQ M).2, ()), ((canQ (rsum (fun j => (vals l j - M) * (vals l j - M) * p) l.length)).1.1, (canQ (rsum (fun j => (vals l j - M) * (vals l j - M) * p) l.length)).1.2, (canQ (rsum (fun j => (vals l j - M) * (vals l j - M) * p) l.length)).2, ()), ()))) (by omega) (by
      intro g i hi
      have d0 : (i : Int) < ((l.length : Nat) : Int) := by omega
      have d1 : (0 : Int) ≤ (i : Int) := by omega
      have hsub' : ratio_Sub l[i] (((canQ M).1.1, (canQ M).1.2), (canQ M).2) = some (canQ (vals l i - M)) := hsub i hi
      have q1 := ratio_Mul_ok ((hsqsz i hi).sm (by decide)) (hpsz.sm (by decide))
      rw [rv_canQ, rv_canQ] at q1
      have q1' : ratio_Mul (canQ ((vals l i - M) * (vals l i - M))) (((canQ p).1.1, (canQ p).1.2), (canQ p).2) = some (canQ ((vals l i - M) * (vals l i - M) * p)) := q1
      have q2 := ratio_Add_ok ((hm2 i (Nat.le_of_lt hi)).sm (by decide)) (((hsqsz i hi).mul hpsz).sm (by decide))
      rw [rv_canQ, rv_canQ] at q2
      have q2' : ratio_Add (((canQ (rsum (fun j => (vals l j - M) * (vals l j - M) * p) i)).1.1, (canQ (rsum (fun j => (vals l j - M) * (vals l j - M) * p) i)).1.2), (canQ (rsum (fun j => (vals l j - M) * (vals l j - M) * p) i)).2) (canQ ((vals l i - M) * (vals l i - M) * p)) = some (canQ (rsum (fun j => (vals l j - M) * (vals l j - M) * p) (i + 1))) := q2
      rw [dendronlaw27_RankSpreads_s12, cnd d0, cnd d1, Int.toNat_natCast, List.getElem?_eq_getElem hi, Option.bind_some, hsub', Option.bind_some, hmulsq i hi, Option.bind_some, q1', Option.bind_some, q2', Option.bind_some, iadd1 (by omega)]
      rfl) (by
      intro g
      rw [dendronlaw27_RankSpreads_s12, cnd' (by omega)])
    have hWW : rsum (fun j => (vals l j - M) * (vals l j - M) * p) l.length = W := by
      rw [rsum_mul (fun j => (vals l j - M) * (vals l j - M)) p, hdiv, hW]
    rw [hWW] at key12
    have key12' : lp dendronlaw27_RankSpreads_s12 K0 ((l, (0 : Int), 0, ()), (((canQ M).1.1, (canQ M).1.2, (canQ M).2, ()), ((canQ W).1.1, (canQ W).1.2, (canQ W).2, ()), ((canQ p).1.1, (canQ p).1.2, (canQ p).2, ()), ((canQ M).1.1, (canQ M).1.2, (canQ M).2, ()), ((canQ 0).1.1, (canQ 0).1.2, (canQ 0).2, ()), ())) = _ := key12
    have i1 := Is_ok hMsz (by decide) hMsz.szR (by decide)
    rw [rv_canQ, decide_eq_true rfl] at i1
    have i1' : dendronref10_Is (((canQ M).1.1, (canQ M).1.2), (canQ M).2) (((canQ M).1.1, (canQ M).1.2), (canQ M).2) = some true := i1
    have i2 := Is_ok hWsz (by decide) hWsz.szR (by decide)
    rw [rv_canQ, decide_eq_true rfl] at i2
    have i2' : dendronref10_Is (((canQ W).1.1, (canQ W).1.2), (canQ W).2) (((canQ W).1.1, (canQ W).1.2), (canQ W).2) = some true := i2
    rw [hspread, Option.bind_some, cnd' c0, hfrac, Option.bind_some, ratio_Zero_ok, Option.bind_some, Option.bind_some, key8', Option.bind_some, key12', Option.bind_some, cnd rfl, i1', Option.bind_some, cond_true, i2', Option.bind_some, cond_true, law27_awake_ok]
    rfl
end Go.Proofs.YtdkcgmbdeimonaaDoor.X

/- Lemmas over the printed texts: trees: what is asked of one node after the other. -/
namespace Go.Proofs.YtdkcgmbdeimonaaDoor.X
open Go
set_option linter.unusedVariables false
set_option linter.unusedSimpArgs false

theorem lp_all' {V T : Type} {step : (V → Option T) → V → Option T} (f : Nat → V) (n : Nat) (ok : Nat → Prop) (bad : Nat → T) (fin : T)
    (hs : ∀ i, i < n → (ok i ∧ ∀ g, step g (f i) = g (f (i + 1))) ∨ (¬ ok i ∧ ∀ g, step g (f i) = some (bad i))) (he : ∀ g, step g (f n) = some fin) :
    ∀ (d i m : Nat), i + d = n → d < m → (∀ j, j < i → ok j) → ((∀ i, i < n → ok i) ∧ lp step m (f i) = some fin) ∨ ∃ j, j < n ∧ ¬ ok j ∧ lp step m (f i) = some (bad j) := by
  intro d
  induction d with
  | zero =>
    intro i m hi hm hok
    obtain ⟨m, rfl⟩ : ∃ k, m = k + 1 := ⟨m - 1, by omega⟩
    have : i = n := by omega
    subst this
    exact .inl ⟨hok, he _⟩
  | succ d ih =>
    intro i m hi hm hok
    obtain ⟨m, rfl⟩ : ∃ k, m = k + 1 := ⟨m - 1, by omega⟩
    rcases hs i (by omega) with ⟨h1, h2⟩ | ⟨h1, h2⟩
    · have := ih (i + 1) m (by omega) (by omega) (fun j hj => by
        by_cases e : j = i
        · subst e; exact h1
        · exact hok j (by omega))
      have e : lp step (m + 1) (f i) = lp step m (f (i + 1)) := h2 _
      rw [e]; exact this
    · exact .inr ⟨i, by omega, h1, h2 _⟩
/-- A loop that goes on while all is well. -/
theorem lp_all {V T : Type} {step : (V → Option T) → V → Option T} (f : Nat → V) (n : Nat) (ok : Nat → Prop) (bad : Nat → T) (fin : T) (hn : n < 18446744073709551616)
    (hs : ∀ i, i < n → (ok i ∧ ∀ g, step g (f i) = g (f (i + 1))) ∨ (¬ ok i ∧ ∀ g, step g (f i) = some (bad i))) (he : ∀ g, step g (f n) = some fin) :
    ((∀ i, i < n → ok i) ∧ lp step K0 (f 0) = some fin) ∨ ∃ i, i < n ∧ ¬ ok i ∧ lp step K0 (f 0) = some (bad i) :=
  lp_all' f n ok bad fin hs he n 0 K0 (by omega) hn (fun j h => by omega)

/-! Nodes. -/
abbrev nLeaf (n : NODE) : Bool := n.1
abbrev nFeat (n : NODE) : Int := n.2.1
abbrev nCut (n : NODE) : RAT := n.2.2.1
abbrev nL (n : NODE) : Int := n.2.2.2.1
abbrev nR (n : NODE) : Int := n.2.2.2.2.1
abbrev nMiss (n : NODE) : Bool := n.2.2.2.2.2.1
abbrev nVal (n : NODE) : RAT := n.2.2.2.2.2.2.1
abbrev nCov (n : NODE) : RAT := n.2.2.2.2.2.2.2
def NSz (n : NODE) (k : Nat) : Prop := SzR (nCut n) k ∧ SzR (nVal n) k ∧ SzR (nCov n) k
def TSz (t : List NODE) (k : Nat) : Prop := ∀ n ∈ t, NSz n k

def RangesP (t : List NODE) (f : Int) : Prop := ∀ i (h : i < t.length), nLeaf t[i] = false → 0 ≤ nFeat t[i] ∧ nFeat t[i] < f ∧ 1 ≤ nL t[i] ∧ nL t[i] < t.length ∧ 1 ≤ nR t[i] ∧ nR t[i] < t.length
def CoversP (t : List NODE) : Prop := ∀ i (h : i < t.length), 0 < rv (nCov t[i])
def cov (t : List NODE) (i : Nat) : Rat := rv (nCov ((t[i]?).getD (false, 0, ((false, []), []), 0, 0, false, ((false, []), []), ((false, []), []))))
theorem cov_get {t : List NODE} {i : Nat} (h : i < t.length) : cov t i = rv (nCov t[i]) := by simp [cov, h]
def SumsP (t : List NODE) : Prop := ∀ i (h : i < t.length), nLeaf t[i] = false → rv (nCov t[i]) = cov t (nL t[i]).toNat + cov t (nR t[i]).toNat

theorem ranges_ok {t : List NODE} {f : Int} (hl : t.length < 4294967296) : ∃ a e, valid_ranges t f = some (a, e) ∧ (e = 0 ↔ RangesP t f) := by
  rcases lp_all (step := valid_ranges_s2) (fun i => ((t, f, t, ((t.length : Nat) : Int), (i : Int), ()), ())) t.length
    (fun i => ∀ h : i < t.length, nLeaf t[i] = false → 0 ≤ nFeat t[i] ∧ nFeat t[i] < f ∧ 1 ≤ nL t[i] ∧ nL t[i] < t.length ∧ 1 ≤ nR t[i] ∧ nR t[i] < t.length)
    (fun i => .inr (((i : Int), 8, ()), ())) (.inl ((), ())) (by omega) (by
      intro i hi
      have d0 : (i : Int) < ((t.length : Nat) : Int) := by omega
      have d1 : (0 : Int) ≤ (i : Int) := by omega
      have head : ∀ g, valid_ranges_s2 g ((t, f, t, ((t.length : Nat) : Int), (i : Int), ()), ()) = bif nLeaf t[i] then (g ((t, f, t, ((t.length : Nat) : Int), ((i + 1 : Nat) : Int), ()), ())) else (bif (decide (nFeat t[i] < 0)) then (some (.inr (((i : Int), 8, ()), ()))) else (bif (decide (nFeat t[i] ≥ f)) then (some (.inr (((i : Int), 8, ()), ()))) else (bif (decide (nL t[i] < 1)) then (some (.inr (((i : Int), 8, ()), ()))) else (bif (decide (nL t[i] ≥ (t.length : Int))) then (some (.inr (((i : Int), 8, ()), ()))) else (bif (decide (nR t[i] < 1)) then (some (.inr (((i : Int), 8, ()), ()))) else (bif (decide (nR t[i] ≥ (t.length : Int))) then (some (.inr (((i : Int), 8, ()), ()))) else (g ((t, f, t, ((t.length : Nat) : Int), ((i + 1 : Nat) : Int), ()), ())))))))) := by
        intro g
        rw [valid_ranges_s2, cnd d0, cnd d1, Int.toNat_natCast, List.getElem?_eq_getElem hi, Option.bind_some, iadd1 (by omega)]
        rfl
      cases hleaf : nLeaf t[i] with
      | true => exact .inl ⟨fun h h2 => absurd h2 (by rw [hleaf]; decide), fun g => by rw [head, hleaf]; rfl⟩
      | false =>
        by_cases h : 0 ≤ nFeat t[i] ∧ nFeat t[i] < f ∧ 1 ≤ nL t[i] ∧ nL t[i] < t.length ∧ 1 ≤ nR t[i] ∧ nR t[i] < t.length
        · refine .inl ⟨fun _ _ => h, fun g => ?_⟩
          obtain ⟨h1, h2, h3, h4, h5, h6⟩ := h
          rw [head, hleaf, cond_false, cnd' (by omega), cnd' (by omega), cnd' (by omega), cnd' (by omega), cnd' (by omega), cnd' (by omega)]
        · refine .inr ⟨fun h' => h (h' hi hleaf), fun g => ?_⟩
          rw [head, hleaf, cond_false]
          by_cases h1 : nFeat t[i] < 0
          · rw [cnd h1]
          by_cases h2 : nFeat t[i] ≥ f
          · rw [cnd' h1, cnd h2]
          by_cases h3 : nL t[i] < 1
          · rw [cnd' h1, cnd' h2, cnd h3]
          by_cases h4 : nL t[i] ≥ (t.length : Int)
          · rw [cnd' h1, cnd' h2, cnd' h3, cnd h4]
          by_cases h5 : nR t[i] < 1
          · rw [cnd' h1, cnd' h2, cnd' h3, cnd' h4, cnd h5]
          by_cases h6 : nR t[i] ≥ (t.length : Int)
          · rw [cnd' h1, cnd' h2, cnd' h3, cnd' h4, cnd' h5, cnd h6]
          exfalso; apply h; omega) (by
      intro g
      rw [valid_ranges_s2, cnd' (by omega)]) with ⟨h, hlp⟩ | ⟨i, hi, h, hlp⟩
  · have hlp : lp valid_ranges_s2 K0 ((t, f, t, ((t.length : Nat) : Int), 0, ()), ()) = some (.inl ((), ())) := hlp
    refine ⟨0, 0, by rw [valid_ranges, hlp]; rfl, ?_⟩
    exact ⟨fun _ i hi => h i hi hi, fun _ => rfl⟩
  · have hlp : lp valid_ranges_s2 K0 ((t, f, t, ((t.length : Nat) : Int), 0, ()), ()) = some (.inr (((i : Int), 8, ()), ())) := hlp
    refine ⟨(i : Int), 8, by rw [valid_ranges, hlp]; rfl, ?_⟩
    exact ⟨fun e => (by cases e), fun hp => absurd (fun hh => hp i hh) h⟩

theorem covers_ok {t : List NODE} (hl : t.length < 4294967296) {k : Nat} (hs : TSz t k) (hk : k < 1099511627776) : ∃ a e, valid_covers t = some (a, e) ∧ (e = 0 ↔ CoversP t) := by
  rcases lp_all (step := valid_covers_s2) (fun i => ((t, ((t.length : Nat) : Int), (i : Int), ()), ())) t.length (fun i => ∀ h : i < t.length, 0 < rv (nCov t[i]))
    (fun i => .inr (((i : Int), 12, ()), ())) (.inl ((), ())) (by omega) (by
      intro i hi
      have d0 : (i : Int) < ((t.length : Nat) : Int) := by omega
      have d1 : (0 : Int) ≤ (i : Int) := by omega
      have hsg := ratio_Sign_ok ((hs _ (List.getElem_mem hi)).2.2.sm hk)
      have head : ∀ g, valid_covers_s2 g ((t, ((t.length : Nat) : Int), (i : Int), ()), ()) = bif decide (rcmp (rv (nCov t[i])) 0 ≤ 0) then some (.inr (((i : Int), 12, ()), ())) else g ((t, ((t.length : Nat) : Int), ((i + 1 : Nat) : Int), ()), ()) := by
        intro g
        rw [valid_covers_s2, cnd d0, cnd d1, Int.toNat_natCast, List.getElem?_eq_getElem hi, Option.bind_some, hsg, Option.bind_some, iadd1 (by omega)]
        rfl
      by_cases h : 0 < rv (nCov t[i])
      · exact .inl ⟨fun _ => h, fun g => by rw [head, cnd' (fun h' => Rat.not_le.2 h (rcmp_le.1 h'))]⟩
      · exact .inr ⟨fun h' => h (h' hi), fun g => by rw [head, cnd (rcmp_le.2 (Rat.not_lt.1 h))]⟩) (by
      intro g
      rw [valid_covers_s2, cnd' (by omega)]) with ⟨h, hlp⟩ | ⟨i, hi, h, hlp⟩
  · have hlp : lp valid_covers_s2 K0 ((t, ((t.length : Nat) : Int), 0, ()), ()) = some (.inl ((), ())) := hlp
    exact ⟨0, 0, by rw [valid_covers, hlp]; rfl, fun _ i hi => h i hi hi, fun _ => rfl⟩
  · have hlp : lp valid_covers_s2 K0 ((t, ((t.length : Nat) : Int), 0, ()), ()) = some (.inr (((i : Int), 12, ()), ())) := hlp
    exact ⟨(i : Int), 12, by rw [valid_covers, hlp]; rfl, fun e => (by cases e), fun hp => absurd (fun hh => hp i hh) h⟩

theorem sums_ok {t : List NODE} {f : Int} (hl : t.length < 4294967296) {k : Nat} (hs : TSz t k) (hk : k < 500000000000) (hr : RangesP t f) : ∃ a e, valid_sums t = some (a, e) ∧ (e = 0 ↔ SumsP t) := by
  rcases lp_all (step := valid_sums_s2) (fun i => ((t, t, ((t.length : Nat) : Int), (i : Int), ()), ())) t.length (fun i => ∀ h : i < t.length, nLeaf t[i] = false → rv (nCov t[i]) = cov t (nL t[i]).toNat + cov t (nR t[i]).toNat)
    (fun i => .inr (((i : Int), 13, ()), ())) (.inl ((), ())) (by omega) (by
      intro i hi
      have d0 : (i : Int) < ((t.length : Nat) : Int) := by omega
      have d1 : (0 : Int) ≤ (i : Int) := by omega
      cases hleaf : nLeaf t[i] with
      | true =>
        refine .inl ⟨fun h h2 => absurd h2 (by rw [hleaf]; decide), fun g => ?_⟩
        rw [valid_sums_s2, cnd d0, cnd d1, Int.toNat_natCast, List.getElem?_eq_getElem hi, Option.bind_some, show t[i].1 = true from hleaf, iadd1 (by omega)]
        rfl
      | false =>
        obtain ⟨r1, r2, r3, r4, r5, r6⟩ := hr i hi hleaf
        have l1 : (nL t[i]).toNat < t.length := by omega
        have l2 : (nR t[i]).toNat < t.length := by omega
        have c1 : (0 : Int) ≤ nL t[i] := by omega
        have c2 : (0 : Int) ≤ nR t[i] := by omega
        have z1 := (hs _ (List.getElem_mem l1)).2.2
        have z2 := (hs _ (List.getElem_mem l2)).2.2
        have z0 := (hs _ (List.getElem_mem hi)).2.2
        have hadd := ratio_Add_ok (z1.sm (by omega)) (z2.sm (by omega))
        rw [← cov_get l1, ← cov_get l2] at hadd
        have zz : SzQ (cov t (nL t[i]).toNat + cov t (nR t[i]).toNat) (max k 1 + max k 1 + 1) := by
          rw [cov_get l1, cov_get l2]
          have y1 : SzR (nCov t[(nL t[i]).toNat]) (max k 1) := ⟨Nat.le_trans z1.1 (Nat.le_max_left _ _), Nat.le_trans z1.2 (Nat.le_max_left _ _)⟩
          have y2 : SzR (nCov t[(nR t[i]).toNat]) (max k 1) := ⟨Nat.le_trans z2.1 (Nat.le_max_left _ _), Nat.le_trans z2.2 (Nat.le_max_left _ _)⟩
          exact (y1.szQ (by omega)).add (y2.szQ (by omega))
        have hsame := ratio_Same_ok (z0.sm (by omega)) (zz.sm (by omega))
        rw [rv_canQ] at hsame
        have head : ∀ g, valid_sums_s2 g ((t, t, ((t.length : Nat) : Int), (i : Int), ()), ()) = bif (!decide (rv (nCov t[i]) = cov t (nL t[i]).toNat + cov t (nR t[i]).toNat)) then some (.inr (((i : Int), 13, ()), ())) else g ((t, t, ((t.length : Nat) : Int), ((i + 1 : Nat) : Int), ()), ()) := by
          intro g
          rw [valid_sums_s2, cnd d0, cnd d1, Int.toNat_natCast, List.getElem?_eq_getElem hi, Option.bind_some, show t[i].1 = false from hleaf, Bool.not_false, cond_true, cnd c1, List.getElem?_eq_getElem l1, Option.bind_some, cnd c2, List.getElem?_eq_getElem l2, Option.bind_some, hadd, Option.bind_some, hsame, Option.bind_some, iadd1 (by omega)]
          rfl
        by_cases h : rv (nCov t[i]) = cov t (nL t[i]).toNat + cov t (nR t[i]).toNat
        · exact .inl ⟨fun _ _ => h, fun g => by rw [head, decide_eq_true h]; rfl⟩
        · exact .inr ⟨fun h' => h (h' hi hleaf), fun g => by rw [head, decide_eq_false h]; rfl⟩) (by
      intro g
      rw [valid_sums_s2, cnd' (by omega)]) with ⟨h, hlp⟩ | ⟨i, hi, h, hlp⟩
  · have hlp : lp valid_sums_s2 K0 ((t, t, ((t.length : Nat) : Int), 0, ()), ()) = some (.inl ((), ())) := hlp
    exact ⟨0, 0, by rw [valid_sums, hlp]; rfl, fun _ i hi => h i hi hi, fun _ => rfl⟩
  · have hlp : lp valid_sums_s2 K0 ((t, t, ((t.length : Nat) : Int), 0, ()), ()) = some (.inr (((i : Int), 13, ()), ())) := hlp
    exact ⟨(i : Int), 13, by rw [valid_sums, hlp]; rfl, fun e => (by cases e), fun hp => absurd (fun hh => hp i hh) h⟩
end Go.Proofs.YtdkcgmbdeimonaaDoor.X

