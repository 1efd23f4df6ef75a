/- Own work: part of the proof; the first line of each part says what it tells. -/
import Derived.Test.YtaonkcmflkmncaaGreatDoorLa8


namespace Go.Proofs.YtaonkcmflkmncaaGreatDoor.X
open Go
set_option linter.unusedVariables false
set_option linter.unusedSimpArgs false
def whyR (b : Bool) (m : MODEL) (row : List CELL) : Int := if b then (if (row.length : Int) = m.1 then 0 else 14) else 1
def whyV (b : Bool) (m : MODEL) (row : List CELL) (l : List (List CELL)) : Int :=
  if whyR b m row = 0 then (if ∀ r ∈ l, ((r.length : Nat) : Int) = m.1 then (if l.length = 0 then 15 else 0) else 14) else whyR b m row
theorem whyR_ok {b : Bool} {m : MODEL} (h : valid_Ok m = some b) (row : List CELL) : route_Fits m row = some (whyR b m row) ∧ dendronlaw10_Why m row = some (whyR b m row) := by
  have : route_fits m row = some (whyR b m row) := by
    rw [route_fits, h, Option.bind_some, whyR]
    cases b with
    | false => rfl
    | true =>
      rw [Bool.not_true, cond_false, if_pos rfl]
      by_cases e : (row.length : Int) = m.1
      · rw [decide_eq_true e, if_pos e]; rfl
      · rw [decide_eq_false e, if_neg e]; rfl
  exact ⟨by rw [route_Fits, this]; rfl, this⟩
theorem whyV_ok {b : Bool} {m : MODEL} (h : valid_Ok m = some b) (row : List CELL) {l : List (List CELL)} (hl : l.length < 1000000000) :
    versus_fits m row l = some (whyV b m row l) ∧ dendronlaw17_why m row l = some (whyV b m row l) := by
  obtain ⟨r1, r2⟩ := whyR_ok h row
  obtain ⟨mf, mt⟩ := m
  unfold whyV
  by_cases h0 : whyR b (mf, mt) row = 0
  · rw [if_pos h0]
    rw [h0] at r1 r2
    have hb : b = true := by cases b with
      | true => rfl
      | false => exact absurd h0 (by rw [whyR, if_neg (by decide)]; decide)
    subst hb
    have k1 := lp_all (step := versus_fits_s5) (fun i => ((l, l, (l.length : Int), (i : Int), ()), ((mf, mt, ()), ()))) l.length (fun i => ∀ h : i < l.length, ((l[i].length : Nat) : Int) = mf) (fun _ => .inr ((14, ()), ())) (.inl ((l, ()), ())) (by omega) (by
      intro i hi
      have d0 : (i : Int) < (l.length : Int) := by omega
      have d1 : (0 : Int) ≤ (i : Int) := by omega
      have st : ∀ g, versus_fits_s5 g ((l, l, (l.length : Int), (i : Int), ()), ((mf, mt, ()), ())) = bif (!decide (whyR true (mf, mt) l[i] = 0)) then some (.inr ((whyR true (mf, mt) l[i], ()), ())) else g ((l, l, (l.length : Int), ((i + 1 : Nat) : Int), ()), ((mf, mt, ()), ())) := by
        intro g
        rw [versus_fits_s5, cnd d0, cnd d1, Int.toNat_natCast, List.getElem?_eq_getElem hi, Option.bind_some, (whyR_ok h l[i]).1, Option.bind_some, iadd1 (by omega)]
        rfl
      by_cases e : ((l[i].length : Nat) : Int) = mf
      · have : whyR true (mf, mt) l[i] = 0 := by rw [whyR, if_pos rfl, if_pos e]
        exact .inl ⟨fun _ => e, fun g => by rw [st g, this]; rfl⟩
      · have : whyR true (mf, mt) l[i] = 14 := by rw [whyR, if_pos rfl, if_neg e]
        exact .inr ⟨fun hh => e (hh hi), fun g => by rw [st g, this]; rfl⟩) (by
      intro g
      rw [versus_fits_s5, cnd' (by omega)])
    have k2 := lp_all (step := dendronlaw17_why_s4) (fun i => ((l, (i : Int), ()), ((mf, mt, ()), ()))) l.length (fun i => ∀ h : i < l.length, ((l[i].length : Nat) : Int) = mf) (fun _ => .inr ((14, ()), ())) (.inl ((l, ()), ())) (by omega) (by
      intro i hi
      have d0 : (i : Int) < (l.length : Int) := by omega
      have d1 : (0 : Int) ≤ (i : Int) := by omega
      by_cases e : ((l[i].length : Nat) : Int) = mf
      · exact .inl ⟨fun _ => e, fun g => by
          rw [dendronlaw17_why_s4, cnd d0, cnd d1, Int.toNat_natCast, List.getElem?_eq_getElem hi, Option.bind_some, decide_eq_true e, Bool.not_true, cond_false, iadd1 (by omega)]; rfl⟩
      · exact .inr ⟨fun hh => e (hh hi), fun g => by
          rw [dendronlaw17_why_s4, cnd d0, cnd d1, Int.toNat_natCast, List.getElem?_eq_getElem hi, Option.bind_some, decide_eq_false e, Bool.not_false, cond_true]⟩) (by
      intro g
      rw [dendronlaw17_why_s4, cnd' (by omega)])
    have k1 : (_ ∧ lp versus_fits_s5 K0 ((l, l, (l.length : Int), 0, ()), ((mf, mt, ()), ())) = _) ∨ ∃ i, _ ∧ _ ∧ lp versus_fits_s5 K0 ((l, l, (l.length : Int), 0, ()), ((mf, mt, ()), ())) = _ := k1
    have k2 : (_ ∧ lp dendronlaw17_why_s4 K0 ((l, 0, ()), ((mf, mt, ()), ())) = _) ∨ ∃ i, _ ∧ _ ∧ lp dendronlaw17_why_s4 K0 ((l, 0, ()), ((mf, mt, ()), ())) = _ := k2
    rw [versus_fits, r1, Option.bind_some, dendronlaw17_why, r2, Option.bind_some]
    dsimp only
    rw [show (!decide ((0 : Int) = 0)) = false by decide, cond_false, cond_false]
    by_cases ha : ∀ r ∈ l, ((r.length : Nat) : Int) = mf
    · rw [if_pos ha]
      have e1 : lp versus_fits_s5 K0 ((l, l, (l.length : Int), 0, ()), ((mf, mt, ()), ())) = some (.inl ((l, ()), ())) := by
        rcases k1 with ⟨_, e⟩ | ⟨i, hi, hn, _⟩
        · exact e
        · exact absurd (fun _ => ha _ (List.getElem_mem hi)) hn
      have e2 : lp dendronlaw17_why_s4 K0 ((l, 0, ()), ((mf, mt, ()), ())) = some (.inl ((l, ()), ())) := by
        rcases k2 with ⟨_, e⟩ | ⟨i, hi, hn, _⟩
        · exact e
        · exact absurd (fun _ => ha _ (List.getElem_mem hi)) hn
      rw [e1, e2]
      simp only [Option.bind_some]
      by_cases hz : l.length = 0
      · rw [cnd (by omega), if_pos hz]; exact ⟨rfl, rfl⟩
      · rw [cnd' (by omega), if_neg hz]; exact ⟨rfl, rfl⟩
    · rw [if_neg ha]
      have hno : ¬ ∀ i, i < l.length → ∀ h : i < l.length, ((l[i].length : Nat) : Int) = mf := fun hh => ha fun r hr => by
        obtain ⟨i, hi, rfl⟩ := List.mem_iff_getElem.1 hr
        exact hh i hi hi
      rcases k1 with ⟨h1, _⟩ | ⟨_, _, _, e1⟩
      · exact absurd h1 hno
      · rcases k2 with ⟨h1, _⟩ | ⟨_, _, _, e2⟩
        · exact absurd h1 hno
        · rw [e1, e2]; exact ⟨rfl, rfl⟩
  · rw [if_neg h0]
    refine ⟨by rw [versus_fits, r1, Option.bind_some, decide_eq_false h0]; rfl, by rw [dendronlaw17_why, r2, Option.bind_some, decide_eq_false h0]; rfl⟩
theorem One_ok {m : MODEL} {row other : List CELL} (h : Askd m row) (h' : Askd m other) : versus_One m row other = some (flo row.length (oneV m row other), 0) := by
  obtain ⟨b, h1, h2⟩ := Ok_ok (m := m) (by have := h.ml; omega) (fun t ht => by have := h.mt t ht; omega) h.ms (by decide)
  have hb : b = true := h2.2 h.good
  subst hb
  have hw := (whyV_ok h1 row (l := [other]) (by simp)).1
  have e0 : whyV true m row [other] = 0 := by
    rw [whyV, whyR, if_pos rfl, if_pos h.len, if_pos rfl, if_pos (by simpa using h'.len), if_neg (by simp)]
  rw [e0] at hw
  obtain ⟨d, st, sm, f, hn, hT⟩ := New_ok
  obtain ⟨d', st', sm', f', ho, _⟩ := vone_ok h h' hT
  rw [versus_One, hw, Option.bind_some, show (!decide ((0 : Int) = 0)) = false by decide, cond_false, hn, Option.bind_some]
  dsimp only
  rw [ho]; rfl
theorem One_bad {b : Bool} {m : MODEL} {row other : List CELL} (h : valid_Ok m = some b) (hw : whyV b m row [other] ≠ 0) : versus_One m row other = some ([], whyV b m row [other]) := by
  rw [versus_One, (whyV_ok h row (by simp)).1, Option.bind_some, decide_eq_false hw]; rfl
theorem self_zip {w : List AP} : mN (w.zip w) = [] ∧ iN (w.zip w) = [] := by
  induction w with
  | nil => exact ⟨rfl, rfl⟩
  | cons p w ih =>
    obtain ⟨i1, i2⟩ := ih
    have e1 : mN ((p :: w).zip (p :: w)) = mN (w.zip w) := by
      simp only [mN, List.zip_cons_cons, List.filterMap_cons]
      cases p.2.2 <;> rfl
    have e2 : iN ((p :: w).zip (p :: w)) = iN (w.zip w) := by
      simp only [iN, List.zip_cons_cons, List.filterMap_cons]
      cases p.2.2 <;> rfl
    rw [e1, e2]; exact ⟨i1, i2⟩
theorem legAdd_self (x : AL) (f : Nat) : legAdd x x f = 0 := by
  unfold legAdd
  rw [self_zip.1, self_zip.2]
  split
  · rfl
  · simp [Rat.add_zero]
theorem zip_self {α : Type} (l : List α) : ∀ x ∈ l.zip l, x.1 = x.2 := by
  induction l with
  | nil => intro x hx; simp at hx
  | cons a l ih =>
    intro x hx
    simp only [List.zip_cons_cons, List.mem_cons] at hx
    rcases hx with rfl | hx
    · rfl
    · exact ih x hx
theorem lsum_zero {l : List Rat} (h : ∀ x ∈ l, x = 0) : lsum l = 0 := by
  induction l with
  | nil => rfl
  | cons x l ih => rw [lsum, h x List.mem_cons_self, ih fun y hy => h y (List.mem_cons_of_mem _ hy), Rat.add_zero]
theorem rsum_zeros {f : Nat → Rat} {n : Nat} (h : ∀ i, i < n → f i = 0) : rsum f n = 0 := by
  induction n with
  | zero => rfl
  | succ n ih => rw [rsum, ih fun i hi => h i (by omega), h n (by omega), Rat.add_zero]
theorem oneV_self (m : MODEL) (row : List CELL) (f : Nat) : oneV m row row f = 0 := rsum_zeros fun i _ => lsum_zero fun x hx => by
  obtain ⟨p, hp, rfl⟩ := List.mem_map.1 hx
  rw [zip_self _ p hp]; exact legAdd_self _ f
theorem mN_cons (p p' : AP) (z : List PP) : mN ((p, p') :: z) = if p.2.2 && !p'.2.2 then p.1 :: mN z else mN z := by
  simp only [mN, List.filterMap_cons]; cases p.2.2 <;> cases p'.2.2 <;> rfl
theorem iN_cons (p p' : AP) (z : List PP) : iN ((p, p') :: z) = if !p.2.2 && p'.2.2 then p.1 :: iN z else iN z := by
  simp only [iN, List.filterMap_cons]; cases p.2.2 <;> cases p'.2.2 <;> rfl
theorem nN_cons (p p' : AP) (z : List PP) : nN ((p, p') :: z) = ((!p.2.2 && !p'.2.2) || nN z) := by simp only [nN, List.any_cons, bothNo]
theorem swap_zip {w w' : List AP} (h : shp w = shp w') : mN (w.zip w') = iN (w'.zip w) ∧ iN (w.zip w') = mN (w'.zip w) ∧ nN (w.zip w') = nN (w'.zip w) := by
  induction w generalizing w' with
  | nil => cases w' with
    | nil => exact ⟨rfl, rfl, rfl⟩
    | cons p' w' => simp [shp] at h
  | cons p w ih =>
    cases w' with
    | nil => simp [shp] at h
    | cons p' w' =>
      simp only [shp, List.map_cons, List.cons.injEq, Prod.mk.injEq] at h
      have := ih (w' := w') h.2
      obtain ⟨t1, t2, t3⟩ := this
      simp only [List.zip_cons_cons, mN_cons, iN_cons, nN_cons]
      rw [h.1.1, t1, t2, t3]
      cases p.2.2 <;> cases p'.2.2 <;> simp
theorem quo_comm (a b c : Nat) : quo a b c = quo b a c := by unfold quo; rw [Rat.mul_comm]
theorem nin_swap (u v : Nat) : nin u v = -nout v u := by
  unfold nin nout
  split
  · rw [Rat.neg_zero]
  · rw [Rat.neg_neg, quo_comm, Nat.add_comm]
theorem nout_swap (u v : Nat) : nout u v = -nin v u := by rw [nin_swap, Rat.neg_neg]
theorem legAdd_swap {x y : AL} (h : shpA x = shpA y) (f : Nat) : legAdd x y f = -legAdd y x f := by
  obtain ⟨_, h1, h2⟩ := shpA_len h
  obtain ⟨a, b, c⟩ := swap_zip h2
  unfold legAdd
  rw [a, b, c, h1]
  split
  · rw [Rat.neg_zero]
  · obtain ⟨u, eu⟩ : ∃ u, u = (iN (y.2.2.zip x.2.2)).length := ⟨_, rfl⟩
    obtain ⟨v, ev⟩ : ∃ v, v = (mN (y.2.2.zip x.2.2)).length := ⟨_, rfl⟩
    rw [← eu, ← ev, nin_swap u v, nout_swap u v]
    split <;> split <;> grind
theorem zip_swap_sum {A B : List AL} (f : Nat) (h : ∀ x ∈ A.zip B, shpA x.1 = shpA x.2) : zsum (A.zip B) f = -zsum (B.zip A) f := by
  induction A generalizing B with
  | nil => simp [zsum, lsum, Rat.neg_zero]
  | cons a A ih =>
    cases B with
    | nil => simp [zsum, lsum, Rat.neg_zero]
    | cons b B =>
      have h1 := h (a, b) (by simp)
      have h2 := ih (B := B) fun x hx => h x (by simp only [List.zip_cons_cons, List.mem_cons]; exact .inr hx)
      simp only [zsum, List.zip_cons_cons, List.map_cons, lsum] at h2 ⊢
      rw [h2, legAdd_swap h1]; grind
theorem legs_zip_shp {t : List NODE} {row other : List CELL} {T : TR} : ∀ x ∈ (legsT t row T []).zip (legsT t other T []), shpA x.1 = shpA x.2 := by
  intro x hx
  obtain ⟨i, hi, rfl⟩ := List.mem_iff_getElem.1 hx
  have hl : (legsT t row T []).length = (legsT t other T []).length := by rw [legsT_len, legsT_len]
  have hi1 : i < (legsT t row T []).length := by rw [List.length_zip] at hi; omega
  have hs := legs_shp (t := t) (row := row) (other := other) T (w := []) (w' := []) rfl
  have := congrArg (fun l => l[i]?) hs
  simp only [List.getElem?_map, List.getElem?_eq_getElem hi1, List.getElem?_eq_getElem (show i < (legsT t other T []).length by omega), Option.map_some, Option.some.injEq] at this
  simpa using this
theorem oneV_swap (m : MODEL) (row other : List CELL) (f : Nat) : oneV m row other f = -oneV m other row f := by
  unfold oneV
  have key : ∀ n, rsum (fun i => treeAdd (treeAt m i) row other (treeOf (treeAt m i)) f) n = -rsum (fun i => treeAdd (treeAt m i) other row (treeOf (treeAt m i)) f) n := by
    intro n
    induction n with
    | zero => simp [rsum, Rat.neg_zero]
    | succ n ih =>
      rw [rsum, rsum, ih]
      have : treeAdd (treeAt m n) row other (treeOf (treeAt m n)) f = -treeAdd (treeAt m n) other row (treeOf (treeAt m n)) f := zip_swap_sum f legs_zip_shp
      rw [this]; grind
  exact key _
theorem law17_awake_ok : dendronlaw17_awake = some true := by decide +kernel
theorem VersusSelf_true (m0 : MODEL) (row0 other0 : List CELL) (hl : m0.2.length ≤ 9223372036854775807) (ht : ∀ t ∈ m0.2, t.length ≤ 9223372036854775807) (hr : row0.length ≤ 9223372036854775807) (ho : other0.length ≤ 9223372036854775807) :
    dendronlaw17_VersusSelf m0 row0 other0 = some true := by
  obtain ⟨m, row, hs, ms, ml, mt, cs⟩ := Small_ok m0 row0 hl ht hr
  have h9 := Few09_ok other0 70 ho (by decide)
  have h9 : dendronlaw09_Few other0 70 = some ((other0.take 70).map cutCell) := h9
  obtain ⟨other, eo⟩ : ∃ o, o = (other0.take 70).map cutCell := ⟨_, rfl⟩
  have cso : CSz other 9 := eo ▸ cutRow_sz (other0.take 70)
  rw [← eo] at h9
  obtain ⟨b, h1, h2⟩ := Ok_ok (m := m) (by omega) (fun t h => by have := mt t h; omega) ms (by decide)
  obtain ⟨r1, r2⟩ := whyR_ok h1 row
  rw [dendronlaw17_VersusSelf, hs, Option.bind_some, h9, Option.bind_some]
  dsimp only
  rw [r2]
  by_cases h0 : whyR b m row = 0
  · have hb : b = true := by cases b with
      | true => rfl
      | false => exact absurd h0 (by rw [whyR, if_neg (by decide)]; decide)
    subst hb
    have hlen : (row.length : Int) = m.1 := by
      apply Classical.byContradiction
      intro hn
      rw [whyR, if_pos rfl, if_neg hn] at h0
      exact absurd h0 (by decide)
    have ha : Askd m row := ⟨h2.1 rfl, hlen, ms, by omega, mt, cs⟩
    have h64 := ha.good.1.2.1
    have fl := flo_len row.length (oneV m row row)
    have key := lp_up (step := dendronlaw17_VersusSelf_s9) (fun i => ((row, other, flo row.length (oneV m row row), (i : Int), ()), ((m.1, m.2, ()), ()))) row.length (r := .inl ((row, other, ()), ((m.1, m.2, ()), ()))) (by omega) (by
      intro g i hi
      have d0 : (i : Int) < ((flo row.length (oneV m row row)).length : Int) := by omega
      have d1 : (0 : Int) ≤ (i : Int) := by omega
      rw [dendronlaw17_VersusSelf_s9, cnd d0, cnd2 d1 d0, Int.toNat_natCast, flo_get _ hi, Option.bind_some, oneV_self, ratio_Sign_ok (SzQ.zero.sm (by decide)), Option.bind_some, rv_canQ, show rcmp 0 0 = 0 by decide, show (!decide ((0 : Int) = 0)) = false by decide, cond_false, iadd1 (by omega)]
      rfl) (by
      intro g
      rw [dendronlaw17_VersusSelf_s9, cnd' (by omega)])
    have key : lp dendronlaw17_VersusSelf_s9 K0 ((row, other, flo row.length (oneV m row row), 0, ()), ((m.1, m.2, ()), ())) = _ := key
    rw [One_ok ha ha, Option.bind_some, Option.bind_some, h0]
    dsimp only
    rw [show (!decide ((0 : Int) = 0)) = false by decide, cond_false, cond_false, fl, decide_eq_true rfl, Bool.not_true, cond_false, key, Option.bind_some]
    dsimp only
    by_cases hlo : (other.length : Int) = (row.length : Int)
    · have ha' : Askd m other := ⟨h2.1 rfl, by omega, ms, by omega, mt, cso⟩
      have f1 := flo_len row.length (oneV m row other)
      have f2 := flo_len other.length (oneV m other row)
      have hln : other.length = row.length := by omega
      have key2 := lp_up (step := dendronlaw17_VersusSelf_s20) (fun i => ((flo row.length (oneV m row other), flo other.length (oneV m other row), (i : Int), ()), ())) row.length (r := .inl ((), ())) (by omega) (by
        intro g i hi
        have d0 : (i : Int) < ((flo row.length (oneV m row other)).length : Int) := by omega
        have d2 : (i : Int) < ((flo other.length (oneV m other row)).length : Int) := by omega
        have d1 : (0 : Int) ≤ (i : Int) := by omega
        have z1 : SzQ (oneV m row other i) 30000000 := oneV_sz (row := row) (other := other) ha (Nat.le_refl _) i
        have z2 : SzQ (oneV m other row i) 30000000 := oneV_sz (row := other) (other := row) ha' (Nat.le_refl _) i
        rw [dendronlaw17_VersusSelf_s20, cnd d0, cnd2 d1 d0, Int.toNat_natCast, flo_get _ hi, Option.bind_some, cnd2 d1 d2, flo_get _ (by omega), Option.bind_some, ratio_Neg_ok (z2.sm (by decide)), Option.bind_some, rv_canQ, ratio_Same_ok (z1.sm (by decide)) (z2.neg.sm (by decide)), Option.bind_some, rv_canQ, rv_canQ, oneV_swap m row other, decide_eq_true rfl, Bool.not_true, cond_false, iadd1 (by omega)]
        rfl) (by
        intro g
        rw [dendronlaw17_VersusSelf_s20, cnd' (by omega)])
      have key2 : lp dendronlaw17_VersusSelf_s20 K0 ((flo row.length (oneV m row other), flo other.length (oneV m other row), 0, ()), ()) = _ := key2
      rw [One_ok ha ha', Option.bind_some, One_ok ha' ha, Option.bind_some, decide_eq_true hlo]
      dsimp only
      rw [show (!decide ((0 : Int) = 0)) = false by decide, Bool.not_true, cond_false, cond_false, cond_false, f1, f2, decide_eq_true rfl, decide_eq_true hlo, Bool.not_true, cond_false, cond_false, key2, Option.bind_some]
      dsimp only
      rw [law17_awake_ok]; rfl
    · have e1 : whyV true m row [other] = 14 := by
        rw [whyV, if_pos h0, if_neg (by simp; omega)]
      have e2 : whyV true m other [row] = 14 := by
        have : whyR true m other = 14 := by rw [whyR, if_pos rfl, if_neg (by omega)]
        rw [whyV, this, if_neg (by decide)]
      have o1 := One_bad (other := other) (row := row) h1 (by rw [e1]; decide)
      have o2 := One_bad (other := row) (row := other) h1 (by rw [e2]; decide)
      rw [e1] at o1
      rw [e2] at o2
      rw [o1, Option.bind_some, o2, Option.bind_some, decide_eq_false hlo, law17_awake_ok]
      rfl
  · have e1 : whyV b m row [row] = whyR b m row := by rw [whyV, if_neg h0]
    have o1 := One_bad (other := row) (row := row) h1 (by rw [e1]; exact h0)
    rw [e1] at o1
    rw [o1, Option.bind_some, Option.bind_some, decide_eq_false h0, Bool.not_false, cond_true]
    dsimp only
    rw [cnd (by simp), Option.bind_some, cnd rfl, law17_awake_ok]
    rfl
def cutRowsN (n : Nat) (l : List (List CELL)) : List (List CELL) := (l.take n).map fun r => (r.take 70).map cutCell
theorem All09n_ok (n : Nat) (hn : n ≤ 1000) (l : List (List CELL)) (hl : l.length ≤ 9223372036854775807) (hr : ∀ r ∈ l, r.length ≤ 9223372036854775807) : dendronlaw09_All l (n : Int) 70 = some (cutRowsN n l) := by
  have key := lp_up (step := dendronlaw09_All_s3) (fun i => ((l, (n : Int), 70, (l.take i).map (fun r => (r.take 70).map cutCell), (i : Int), ()), ())) (min l.length n) (r := ((cutRowsN n l, ()), ())) (by omega) (by
    intro g i hi
    have hi1 : i < l.length := by omega
    have d0 : (i : Int) < ((l.length : Nat) : Int) := by omega
    have d1 : (0 : Int) ≤ (i : Int) := by omega
    have d2 : (i : Int) < (n : Int) := by omega
    have h9 : dendronlaw09_Few l[i] 70 = some ((l[i].take 70).map cutCell) := Few09_ok l[i] 70 (hr _ (List.getElem_mem hi1)) (by decide)
    have d4 : (((l.take i).map (fun r => (r.take 70).map cutCell)).length + 1) * 24 ≤ 140737488355328 := by simp; omega
    rw [dendronlaw09_All_s3, cnd d0, cnd d2, cnd d1, Int.toNat_natCast, List.getElem?_eq_getElem hi1, Option.bind_some, h9, Option.bind_some, blt d4, cond_true, iadd1 (by omega), map_take_succ _ hi1]
    rfl) (by
    intro g
    by_cases h : l.length ≤ n
    · rw [dendronlaw09_All_s3, cnd' (by omega), Nat.min_eq_left h, List.take_of_length_le (Nat.le_refl _), cutRowsN, List.take_of_length_le h]
    · rw [dendronlaw09_All_s3, cnd (by omega), cnd' (by omega), Nat.min_eq_right (by omega), cutRowsN])
  have key : lp dendronlaw09_All_s3 K0 ((l, (n : Int), 70, [], 0, ()), ()) = _ := key
  rw [dendronlaw09_All, key]; rfl
theorem cutRowsN_sz (n : Nat) (l : List (List CELL)) : ∀ r ∈ cutRowsN n l, CSz r 9 := by
  intro r hr
  obtain ⟨x, _, rfl⟩ := List.mem_map.1 hr
  exact cutRow_sz _
theorem cutRowsN_len (n : Nat) (l : List (List CELL)) : (cutRowsN n l).length ≤ n := by simp [cutRowsN]; omega
def flx (n : Nat) (g : Nat → RAT) : List RAT := (List.range n).map g
theorem flx_len (n : Nat) (g : Nat → RAT) : (flx n g).length = n := by simp [flx]
theorem flx_get {n f : Nat} (g : Nat → RAT) (h : f < n) : (flx n g)[f]? = some (g f) := by simp [flx, h]
theorem flx_set {n i : Nat} {o p : Nat → RAT} {x : RAT} (hx : p i = x) (hp : ∀ f, f ≠ i → p f = o f) : (flx n o).set i x = flx n p := by
  apply List.ext_getElem?
  intro f
  rw [List.getElem?_set]
  by_cases hf : f < n
  · rw [flx_get _ hf, flx_get _ hf, flx_len]
    by_cases e : i = f
    · rw [if_pos e, if_pos (by omega), ← e, hx]
    · rw [if_neg e, hp f (fun h => e h.symm)]
  · have h1 : (flx n o)[f]? = none := List.getElem?_eq_none (by rw [flx_len]; omega)
    have h2 : (flx n p)[f]? = none := List.getElem?_eq_none (by rw [flx_len]; omega)
    rw [h1, h2]
    split
    · rw [if_neg (by rw [flx_len]; omega)]
    · rfl
theorem flx_congr {n : Nat} {o p : Nat → RAT} (h : ∀ f, f < n → o f = p f) : flx n o = flx n p := List.map_congr_left fun f hf => h f (List.mem_range.1 hf)
def rowAt (l : List (List CELL)) (i : Nat) : List CELL := (l[i]?).getD []
theorem rowAt_get {l : List (List CELL)} {i : Nat} (h : i < l.length) : rowAt l i = l[i] := by simp [rowAt, h]
structure AskB (m : MODEL) (row : List CELL) (l : List (List CELL)) : Prop where
  a : Askd m row
  b : ∀ r ∈ l, Askd m r
  ll : l.length ≤ 8
  ne : l.length ≠ 0
theorem AskB.at {m : MODEL} {row : List CELL} {l : List (List CELL)} (h : AskB m row l) {i : Nat} (hi : i < l.length) : Askd m l[i] := h.b _ (List.getElem_mem hi)
def backV (m : MODEL) (row : List CELL) (l : List (List CELL)) (k : Nat) (f : Nat) : Rat := rsum (fun i => oneV m row (rowAt l i) f) k
theorem backV_sz {m : MODEL} {row : List CELL} {l : List (List CELL)} (h : AskB m row l) {k : Nat} (hk : k ≤ l.length) (f : Nat) : SzQ (backV m row l k f) 300000000 := by
  have := rsum_sz (f := fun i => oneV m row (rowAt l i) f) (k := 30000000) (n := k) (fun j hj => oneV_sz (other := rowAt l j) h.a (Nat.le_refl _) f)
  exact this.mono (by have := h.ll
                      have := Nat.mul_le_mul_right 30000001 (show k ≤ 8 by omega); omega)
def part1 (l : List (List CELL)) : Rat := ((1 : Int) : Rat) / ((l.length : Int) : Rat)
theorem part1_sz {l : List (List CELL)} (h : l.length ≤ 8) : SzQ (part1 l) 2 := (SzQ.int (z := 1) (by decide)).div (SzQ.int (by omega))
theorem vadd_loop {n : Nat} {row : List CELL} {l l' : List (List CELL)} {c1 c2 : Int} {mf : Int} {mt : List (List NODE)} {d st sm : Int} {f : List WH} {o p : Nat → Rat} {k j : Nat} (hn : n ≤ 1000)
    (ho : ∀ f, f < n → SzQ (o f) k) (hp : ∀ f, f < n → SzQ (p f) j) (hk : k < 1000000000) (hj : j < 1000000000) :
    lp versus_Values_s10 K0 ((row, l, flo n o, l', c1, c2, flo n p, ((flo n p).length : Int), 0, ()), ((mf, mt, ()), (d, st, sm, f, ()), ())) = some ((row, l, flo n (fun f => o f + p f), l', c1, c2, ()), ((mf, mt, ()), (d, st, sm, f, ()), ())) := by
  have pl := flo_len n p
  have key := lp_up (step := versus_Values_s10) (fun i => ((row, l, flo n (fun f => if f < i then o f + p f else o f), l', c1, c2, flo n p, ((flo n p).length : Int), (i : Int), ()), ((mf, mt, ()), (d, st, sm, f, ()), ()))) n (r := ((row, l, flo n (fun f => o f + p f), l', c1, c2, ()), ((mf, mt, ()), (d, st, sm, f, ()), ()))) (by omega) (by
    intro g i hi
    have ol := flo_len n (fun f => if f < i then o f + p f else o f)
    have d0 : (i : Int) < ((flo n p).length : Int) := by omega
    have d1 : (0 : Int) ≤ (i : Int) := by omega
    have d2 : (i : Int) < ((flo n (fun f => if f < i then o f + p f else o f)).length : Int) := by omega
    have ha := ratio_Add_ok ((ho i hi).sm (by omega)) ((hp i hi).sm (by omega))
    rw [rv_canQ, rv_canQ] at ha
    rw [versus_Values_s10, cnd d0, cnd2 d1 d0, Int.toNat_natCast, flo_get _ hi, Option.bind_some, cnd2 d1 d2, flo_get _ hi, Option.bind_some, if_neg (Nat.lt_irrefl i), ha, Option.bind_some, cnd2 d1 d2, Option.bind_some, iadd1 (by omega)]
    rw [flo_set (p := fun f => if f < i + 1 then o f + p f else o f) (by rw [if_pos (by omega)]) (fun f hf => by
      by_cases h : f < i
      · rw [if_pos (by omega), if_pos h]
      · rw [if_neg (by omega), if_neg h])]
    rfl) (by
    intro g
    rw [versus_Values_s10, cnd' (by omega)]
    rw [flo_congr (o := fun f => if f < n then o f + p f else o f) (p := fun f => o f + p f) (fun f hf => by rw [if_pos hf])])
  have e : flo n (fun f => if f < 0 then o f + p f else o f) = flo n o := flo_congr fun f _ => by rw [if_neg (by omega)]
  rw [e] at key
  exact key
theorem vmul_loop {n : Nat} {l : List (List CELL)} {o : Nat → Rat} {k : Nat} (hn : n ≤ 1000) (hl : l.length ≤ 8) (ho : ∀ f, f < n → SzQ (o f) k) (hk : k < 1000000000) :
    lp versus_Values_s16 K0 ((l, flo n o, ((flo n o).length : Int), 0, ()), ()) = some ((flo n (fun f => o f * part1 l), ()), ()) := by
  have pl := flo_len n o
  have key := lp_up (step := versus_Values_s16) (fun i => ((l, flo n (fun f => if f < i then o f * part1 l else o f), ((flo n o).length : Int), (i : Int), ()), ())) n (r := ((flo n (fun f => o f * part1 l), ()), ())) (by omega) (by
    intro g i hi
    have ol := flo_len n (fun f => if f < i then o f * part1 l else o f)
    have d0 : (i : Int) < ((flo n o).length : Int) := by omega
    have d1 : (0 : Int) ≤ (i : Int) := by omega
    have d2 : (i : Int) < ((flo n (fun f => if f < i then o f * part1 l else o f)).length : Int) := by omega
    have hF : ratio_Frac 1 (l.length : Int) = some (canQ (part1 l)) := ratio_Frac_ok (by decide) (by decide) (by omega) (by omega)
    have ha := ratio_Mul_ok ((ho i hi).sm (by omega)) ((part1_sz hl).sm (by decide))
    rw [rv_canQ, rv_canQ] at ha
    rw [versus_Values_s16, cnd d0, cnd2 d1 d2, Int.toNat_natCast, flo_get _ hi, Option.bind_some, if_neg (Nat.lt_irrefl i), hF, Option.bind_some, ha, Option.bind_some, cnd2 d1 d2, Option.bind_some, iadd1 (by omega)]
    rw [flo_set (p := fun f => if f < i + 1 then o f * part1 l else o f) (by rw [if_pos (by omega)]) (fun f hf => by
      by_cases h : f < i
      · rw [if_pos (by omega), if_pos h]
      · rw [if_neg (by omega), if_neg h])]
    rfl) (by
    intro g
    rw [versus_Values_s16, cnd' (by omega)]
    rw [flo_congr (o := fun f => if f < n then o f * part1 l else o f) (p := fun f => o f * part1 l) (fun f hf => by rw [if_pos hf])])
  have e : flo n (fun f => if f < 0 then o f * part1 l else o f) = flo n o := flo_congr fun f _ => by rw [if_neg (by omega)]
  rw [e] at key
  exact key
theorem AskB.why {m : MODEL} {row : List CELL} {l : List (List CELL)} (h : AskB m row l) : valid_Ok m = some true ∧ whyV true m row l = 0 := by
  obtain ⟨b, h1, h2⟩ := Ok_ok (m := m) (by have := h.a.ml; omega) (fun t ht => by have := h.a.mt t ht; omega) h.a.ms (by decide)
  have hb : b = true := h2.2 h.a.good
  subst hb
  refine ⟨h1, ?_⟩
  rw [whyV, whyR, if_pos rfl, if_pos h.a.len, if_pos rfl, if_pos (fun r hr => (h.b r hr).len), if_neg h.ne]
theorem Values17_ok {m : MODEL} {row : List CELL} {l : List (List CELL)} (h : AskB m row l) : versus_Values m row l = some (flo row.length (fun f => backV m row l l.length f * part1 l), 0) := by
  obtain ⟨h1, h2⟩ := h.why
  have hll := h.ll
  have hw := (whyV_ok h1 row (l := l) (by omega)).1
  rw [h2] at hw
  have hlen := h.a.len
  have h64 := h.a.good.1.2.1
  obtain ⟨d, st, sm, f, hn, hT⟩ := New_ok
  obtain ⟨r, hr, e⟩ := lp_inv (step := versus_Values_s7)
    (fun i v => ∃ d st sm f, v = ((row, l, flo row.length (backV m row l i), l, (l.length : Int), (i : Int), ()), ((m.1, m.2, ()), (d, st, sm, f, ()), ())) ∧ Tab d st sm f)
    (fun r => r = ((l, flo row.length (backV m row l l.length), ()), ())) l.length
    (v := ((row, l, flo row.length (fun _ => 0), l, (l.length : Int), 0, ()), ((m.1, m.2, ()), (d, st, sm, f, ()), ())))
    ⟨d, st, sm, f, rfl, hT⟩ (by omega) (by
    rintro i v hi ⟨d, st, sm, f, rfl, hT⟩
    have d0 : (i : Int) < (l.length : Int) := by omega
    have d1 : (0 : Int) ≤ (i : Int) := by omega
    obtain ⟨d', st', sm', f', ho, hT'⟩ := vone_ok h.a (h.at hi) hT
    have hL := vadd_loop (n := row.length) (row := row) (l := l) (l' := l) (c1 := (l.length : Int)) (c2 := (i : Int)) (mf := m.1) (mt := m.2) (d := d') (st := st') (sm := sm') (f := f') (o := backV m row l i) (p := oneV m row l[i]) (by omega) (fun f _ => backV_sz h (by omega) f) (fun f _ => oneV_sz (other := l[i]) h.a (Nat.le_refl _) f) (by decide) (by decide)
    refine ⟨_, ⟨d', st', sm', f', rfl, hT'⟩, fun g => ?_⟩
    rw [versus_Values_s7, cnd d0, cnd d1, Int.toNat_natCast, List.getElem?_eq_getElem hi, Option.bind_some]
    show (versus_one m row l[i] d st sm f).bind _ = _
    rw [ho, Option.bind_some]
    dsimp only
    rw [hL, Option.bind_some]
    dsimp only
    rw [iadd1 (by omega)]
    have : flo row.length (backV m row l (i + 1)) = flo row.length (fun f => backV m row l i f + oneV m row l[i] f) := flo_congr fun f _ => by
      rw [backV, rsum, rowAt_get hi]; rfl
    rw [this]; rfl) (by
    rintro v ⟨d, st, sm, f, rfl, hT⟩
    refine ⟨_, rfl, fun g => ?_⟩
    rw [versus_Values_s7, cnd' (by omega)])
  have hM := vmul_loop (n := row.length) (l := l) (o := backV m row l l.length) (by omega) hll (fun f _ => backV_sz h (Nat.le_refl _) f) (by decide)
  rw [versus_Values, hw, Option.bind_some, show (!decide ((0 : Int) = 0)) = false by decide, cond_false, hn, Option.bind_some, show versus_zeros m.1 = some (flo row.length fun _ => 0) by rw [show m.1 = ((row.length : Nat) : Int) by omega]; exact vzeros_ok (by omega), Option.bind_some]
  dsimp only
  rw [e, hr, Option.bind_some]
  dsimp only
  rw [hM]; rfl
theorem Values17_bad {b : Bool} {m : MODEL} {row : List CELL} {l : List (List CELL)} (h : valid_Ok m = some b) (hl : l.length < 1000000000) (hw : whyV b m row l ≠ 0) : versus_Values m row l = some ([], whyV b m row l) := by
  rw [versus_Values, (whyV_ok h row hl).1, Option.bind_some, decide_eq_false hw]; rfl
def raw0 : RAT := ((false, []), [])
theorem rv_raw0 : rv raw0 = 0 := by decide +kernel
def accV (m : MODEL) (row : List CELL) (l : List (List CELL)) (j : Nat) (f : Nat) : Rat := rsum (fun i => oneV m row (rowAt l i) f * part1 l) j
theorem accV_sz {m : MODEL} {row : List CELL} {l : List (List CELL)} (h : AskB m row l) {k : Nat} (hk : k ≤ l.length) (f : Nat) : SzQ (accV m row l k f) 300000000 := by
  have := rsum_sz (f := fun i => oneV m row (rowAt l i) f * part1 l) (k := 30000002) (n := k) (fun j hj => ((oneV_sz (other := rowAt l j) h.a (Nat.le_refl _) f).mul (part1_sz h.ll)).mono (by decide))
  exact this.mono (by have := h.ll
                      have := Nat.mul_le_mul_right 30000003 (show k ≤ 8 by omega); omega)
theorem accV_back (m : MODEL) (row : List CELL) (l : List (List CELL)) (j f : Nat) : accV m row l j f = backV m row l j f * part1 l := by
  unfold accV backV
  induction j with
  | zero => simp [rsum, Rat.zero_mul]
  | succ j ih => rw [rsum, rsum, ih, Rat.add_mul]
def accR (m : MODEL) (row : List CELL) (l : List (List CELL)) (j : Nat) (f : Nat) : RAT := if j = 0 then raw0 else canQ (accV m row l j f)
theorem accR_szR {m : MODEL} {row : List CELL} {l : List (List CELL)} (h : AskB m row l) {k : Nat} (hk : k ≤ l.length) (f : Nat) : SzR (accR m row l k f) 300000000 ∧ rv (accR m row l k f) = accV m row l k f := by
  unfold accR
  split
  · rename_i e; subst e
    exact ⟨⟨by decide, by decide⟩, rv_raw0⟩
  · exact ⟨(accV_sz h hk f).szR, rv_canQ _⟩
theorem vmeans_loop {n : Nat} {row : List CELL} {l : List (List CELL)} {x : List RAT} {e c : Int} {mf : Int} {mt : List (List NODE)} {o : Nat → RAT} {p : Nat → Rat} (hn : n ≤ 1000) (hl : l.length ≤ 8)
    (ho : ∀ f, f < n → Sm (o f)) (hp : ∀ f, f < n → SzQ (p f) 30000000) :
    lp dendronlaw17_VersusMeans_s14 K0 ((row, l, x, e, flx n o, c, flo n p, 0, ()), ((mf, mt, ()), ())) = some ((row, l, x, e, flx n (fun f => canQ (rv (o f) + p f * part1 l)), c, ()), ((mf, mt, ()), ())) := by
  have pl := flo_len n p
  have key := lp_up (step := dendronlaw17_VersusMeans_s14) (fun i => ((row, l, x, e, flx n (fun f => if f < i then canQ (rv (o f) + p f * part1 l) else o f), c, flo n p, (i : Int), ()), ((mf, mt, ()), ()))) n (r := ((row, l, x, e, flx n (fun f => canQ (rv (o f) + p f * part1 l)), c, ()), ((mf, mt, ()), ()))) (by omega) (by
    intro g i hi
    have ol := flx_len n (fun f => if f < i then canQ (rv (o f) + p f * part1 l) else o f)
    have d0 : (i : Int) < ((flo n p).length : Int) := by omega
    have d1 : (0 : Int) ≤ (i : Int) := by omega
    have d2 : (i : Int) < ((flx n (fun f => if f < i then canQ (rv (o f) + p f * part1 l) else o f)).length : Int) := by omega
    have hF : ratio_Frac 1 (l.length : Int) = some (canQ (part1 l)) := ratio_Frac_ok (by decide) (by decide) (by omega) (by omega)
    have hm := ratio_Mul_ok ((hp i hi).sm (by decide)) ((part1_sz hl).sm (by decide))
    rw [rv_canQ, rv_canQ] at hm
    have ha := ratio_Add_ok (ho i hi) (((hp i hi).mul (part1_sz hl)).sm (by decide))
    rw [rv_canQ] at ha
    rw [dendronlaw17_VersusMeans_s14, cnd d0, cnd2 d1 d2, Int.toNat_natCast, flx_get _ hi, Option.bind_some, if_neg (Nat.lt_irrefl i), cnd2 d1 d0, flo_get _ hi, Option.bind_some, hF, Option.bind_some, hm, Option.bind_some, ha, Option.bind_some, cnd2 d1 d2, Option.bind_some, iadd1 (by omega)]
    rw [flx_set (p := fun f => if f < i + 1 then canQ (rv (o f) + p f * part1 l) else o f) (by rw [if_pos (by omega)]) (fun f hf => by
      by_cases h : f < i
      · rw [if_pos (by omega), if_pos h]
      · rw [if_neg (by omega), if_neg h])]
    rfl) (by
    intro g
    rw [dendronlaw17_VersusMeans_s14, cnd' (by omega)]
    rw [flx_congr (o := fun f => if f < n then canQ (rv (o f) + p f * part1 l) else o f) (p := fun f => canQ (rv (o f) + p f * part1 l)) (fun f hf => by rw [if_pos hf])])
  have e : flx n (fun f => if f < 0 then canQ (rv (o f) + p f * part1 l) else o f) = flx n o := flx_congr fun f _ => by rw [if_neg (by omega)]
  rw [e] at key
  exact key
theorem askB_of {m : MODEL} {row : List CELL} {l : List (List CELL)} (ms : MSz m 4) (ml : m.2.length ≤ 3) (mt : ∀ t ∈ m.2, t.length ≤ 15) (cs : CSz row 9) (ls : ∀ r ∈ l, CSz r 9) (ll : l.length ≤ 8) :
    ∃ b, valid_Ok m = some b ∧ (whyV b m row l = 0 → AskB m row l) := by
  obtain ⟨b, h1, h2⟩ := Ok_ok (m := m) (by omega) (fun t h => by have := mt t h; omega) ms (by decide)
  refine ⟨b, h1, fun hw => ?_⟩
  rw [whyV] at hw
  split at hw
  · rename_i h0
    have hb : b = true := by cases b with
      | true => rfl
      | false => exact absurd h0 (by rw [whyR, if_neg (by decide)]; decide)
    subst hb
    have hlen : (row.length : Int) = m.1 := by
      apply Classical.byContradiction
      intro hn
      rw [whyR, if_pos rfl, if_neg hn] at h0
      exact absurd h0 (by decide)
    split at hw
    · rename_i ha
      split at hw
      · exact absurd hw (by decide)
      · rename_i hz
        exact ⟨⟨h2.1 rfl, hlen, ms, by omega, mt, cs⟩, fun r hr => ⟨h2.1 rfl, ha r hr, ms, by omega, mt, ls r hr⟩, ll, hz⟩
    · exact absurd hw (by decide)
  · rename_i h0; exact absurd hw h0
theorem VersusMeans_true (m0 : MODEL) (row0 : List CELL) (l0 : List (List CELL)) (hl : m0.2.length ≤ 9223372036854775807) (ht : ∀ t ∈ m0.2, t.length ≤ 9223372036854775807) (hr : row0.length ≤ 9223372036854775807)
    (hl0 : l0.length ≤ 9223372036854775807) (hlr : ∀ r ∈ l0, r.length ≤ 9223372036854775807) :
    dendronlaw17_VersusMeans m0 row0 l0 = some true := by
  obtain ⟨m, row, hs, ms, ml, mt, cs⟩ := Small_ok m0 row0 hl ht hr
  have h9 := All09n_ok 4 (by decide) l0 hl0 hlr
  have h9 : dendronlaw09_All l0 4 70 = some (cutRowsN 4 l0) := h9
  have lsz := cutRowsN_sz 4 l0
  have lll := cutRowsN_len 4 l0
  obtain ⟨l, el⟩ : ∃ l, l = cutRowsN 4 l0 := ⟨_, rfl⟩
  rw [← el] at h9 lsz lll
  obtain ⟨b, h1, h2⟩ := askB_of (row := row) ms ml mt cs lsz (by omega)
  have hW := (whyV_ok h1 row (l := l) (by omega)).2
  rw [dendronlaw17_VersusMeans, hs, Option.bind_some, h9, Option.bind_some]
  dsimp only
  rw [hW]
  by_cases h0 : whyV b m row l = 0
  · have h := h2 h0
    have hlen := h.a.len
    have h64 := h.a.good.1.2.1
    have hz := h.ne
    have c1 : (decide ((row.length : Int) = (row.length : Int)) && decide (0 ≤ (row.length : Int)) && decide (((56 : Nat) : Int) * (row.length : Int) ≤ 281474976710656) && decide ((row.length : Int) ≤ 9223372036854775807)) = true := by
      rw [decide_eq_true rfl, decide_eq_true (by omega), decide_eq_true (by omega), decide_eq_true (by omega)]; rfl
    obtain ⟨x, ex⟩ : ∃ x, x = flo row.length (fun f => backV m row l l.length f * part1 l) := ⟨_, rfl⟩
    have key := lp_up (step := dendronlaw17_VersusMeans_s8) (fun i => ((row, l, x, 0, flx row.length (accR m row l i), (i : Int), ()), ((m.1, m.2, ()), ()))) l.length (r := .inl ((x, 0, flx row.length (accR m row l l.length), ()), ())) (by omega) (by
      intro g i hi
      have d0 : (i : Int) < (l.length : Int) := by omega
      have d1 : (0 : Int) ≤ (i : Int) := by omega
      have hO := One_ok h.a (h.at hi)
      have hL := vmeans_loop (n := row.length) (row := row) (l := l) (x := x) (e := 0) (c := (i : Int)) (mf := m.1) (mt := m.2) (o := accR m row l i) (p := oneV m row l[i]) (by omega) h.ll (fun f _ => (accR_szR h (by omega) f).1.sm (by decide)) (fun f _ => oneV_sz (other := l[i]) h.a (Nat.le_refl _) f)
      rw [dendronlaw17_VersusMeans_s8, cnd d0, cnd d1, Int.toNat_natCast, List.getElem?_eq_getElem hi, Option.bind_some]
      show (versus_One m row l[i]).bind _ = _
      rw [hO, Option.bind_some]
      dsimp only
      rw [show (!decide ((0 : Int) = 0)) = false by decide, cond_false, flo_len, decide_eq_true rfl, Bool.not_true, cond_false, hL, Option.bind_some]
      dsimp only
      rw [iadd1 (by omega)]
      have : flx row.length (accR m row l (i + 1)) = flx row.length (fun f => canQ (rv (accR m row l i f) + oneV m row l[i] f * part1 l)) := flx_congr fun f _ => by
        rw [(accR_szR h (by omega) f).2, accR, if_neg (by omega), accV, rsum, rowAt_get hi]; rfl
      rw [this]; rfl) (by
      intro g
      rw [dendronlaw17_VersusMeans_s8, cnd' (by omega)])
    have e0 : flx row.length (accR m row l 0) = List.replicate row.length raw0 := by
      have : accR m row l 0 = fun _ => raw0 := by funext f; rw [accR, if_pos rfl]
      rw [this, flx, List.map_const', List.length_range]
    rw [e0] at key
    have key : lp dendronlaw17_VersusMeans_s8 K0 ((row, l, x, 0, List.replicate row.length (((false, []), []) : RAT), 0, ()), ((m.1, m.2, ()), ())) = _ := key
    have fin : dendronref10_All x (flx row.length (accR m row l l.length)) = some true := by
      refine All_true (n := 1000000000) (m := 1000000000) (by decide) (by decide) (fun y hy => ?_) (by rw [ex, flo_len, flx_len]) (by rw [ex, flo_len]; omega) (fun i hi hi' => ?_)
      · obtain ⟨f, hf, rfl⟩ := List.mem_map.1 hy
        have := (accR_szR h (Nat.le_refl _) f).1
        exact ⟨Nat.le_trans this.1 (by decide), Nat.le_trans this.2 (by decide)⟩
      · have hi2 : i < row.length := by rw [flx_len] at hi'; exact hi'
        refine ⟨accV m row l l.length i, (accV_sz h (Nat.le_refl _) i).mono (by decide), ?_, ?_⟩
        · subst ex
          have := flo_get (fun f => backV m row l l.length f * part1 l) hi2
          rw [List.getElem?_eq_getElem hi] at this
          rw [Option.some.inj this, accV_back]
        · have := flx_get (accR m row l l.length) hi2
          rw [List.getElem?_eq_getElem hi'] at this
          rw [Option.some.inj this, (accR_szR h (Nat.le_refl _) i).2]
    rw [Values17_ok h, Option.bind_some, ← ex, Option.bind_some, h0]
    dsimp only
    rw [show (!decide ((0 : Int) = 0)) = false by decide, cond_false, c1, cond_true, Int.toNat_natCast, key, Option.bind_some]
    dsimp only
    rw [fin, Option.bind_some, law17_awake_ok]
    rfl
  · rw [Values17_bad h1 (by omega) h0, Option.bind_some, Option.bind_some, decide_eq_false h0, Bool.not_false, cond_true]
    dsimp only
    rw [cnd (by simp), Option.bind_some, cnd rfl, law17_awake_ok]
    rfl
end Go.Proofs.YtaonkcmflkmncaaGreatDoor.X
