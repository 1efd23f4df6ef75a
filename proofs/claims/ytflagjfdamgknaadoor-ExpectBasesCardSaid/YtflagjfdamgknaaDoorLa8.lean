/- Expect: ExpectBases, ExpectAll. -/
import Derived.Test.YtflagjfdamgknaaDoorLa7

namespace Go.Proofs.YtflagjfdamgknaaDoor.X
open Go
set_option linter.unusedVariables false
set_option linter.unusedSimpArgs false

theorem nRight_ok {n : Nat} (hl : (limbs n).length < 4611686018427387904) : nat_Right (limbs n) = some true := by
  have hc := limbs_canon n
  obtain ⟨a, ea⟩ : ∃ a, a = limbs n := ⟨_, rfl⟩
  rw [← ea] at hl hc ⊢
  have key := lp_up (step := nat_Right_s2) (fun i => ((a, a, (a.length : Int), (i : Int), ()), ())) a.length (r := .inl ((a, ()), ())) (by omega) (by
    intro g i hi
    have d0 : (i : Int) < ((a.length : Nat) : Int) := by omega
    have d1 : (0 : Int) ≤ (i : Int) := by omega
    have := hc.1.at hi
    rw [nat_Right_s2, cnd d0, cnd d1, Int.toNat_natCast, List.getElem?_eq_getElem hi, Option.bind_some, cnd' (by omega), iadd1 (by omega)]
    rfl) (by
    intro g
    rw [nat_Right_s2, cnd' (by omega)])
  have key : lp nat_Right_s2 K0 ((a, a, (a.length : Int), 0, ()), ()) = _ := key
  rw [nat_Right, key, Option.bind_some]
  dsimp only
  by_cases h0 : a.length = 0
  · rw [cnd (by omega)]
  · have i1 : isub .i64 (a.length : Int) 1 = ((a.length - 1 : Nat) : Int) := by rw [isub_i] <;> omega
    have hlt : a.length - 1 < a.length := by omega
    rw [cnd' (by omega), i1, cnd (by omega), Int.toNat_natCast, List.getElem?_eq_getElem hlt, Option.bind_some]
    have := hc.2 a[a.length - 1] (by rw [List.getLast?_eq_getElem?]; exact List.getElem?_eq_getElem hlt)
    rw [decide_eq_false this]; rfl
theorem ratio_Right_ok {q : Rat} (h : Sm (canQ q)) : ratio_Right (canQ q) = some true := by
  have h1 : (limbs q.num.natAbs).length < 1099511627776 := h.1
  have h2 : (limbs q.den).length < 1099511627776 := h.2
  have w : whole_Right (canQ q).1 = some true := by
    rw [whole_Right, show (canQ q).1.2 = limbs q.num.natAbs from rfl, nRight_ok (by omega), Option.bind_some, cond_true]
    by_cases h0 : ((limbs q.num.natAbs).length : Int) > 0
    · rw [cnd h0]
    · rw [cnd' h0]
      have hz : limbs q.num.natAbs = [] := by
        apply List.eq_nil_of_length_eq_zero; omega
      have hz := limbs_eq_nil.1 hz
      have : (canQ q).1.1 = false := by
        show decide (q.num < 0) = false
        rw [decide_eq_false]; omega
      rw [this]; rfl
  have hd : (limbs q.den).length ≠ 0 := by
    intro e
    have := limbs_eq_nil.1 (List.eq_nil_of_length_eq_zero e)
    exact q.den_nz this
  have g := Gcd_ok (a := limbs q.num.natAbs) (b := limbs q.den) (by omega) (by omega)
  rw [nn_limbs, nn_limbs, q.reduced] at g
  have o := Of_ok (n := 1) (by decide)
  have o : nat_Of 1 = some (limbs 1) := o
  have l1 : (limbs 1).length = 1 := by rw [limbs_small (by decide) (by decide)]; rfl
  have c := Cmp_ok (a := limbs 1) (b := limbs 1) (by omega) (by omega)
  rw [ratio_Right, w, Option.bind_some, Bool.not_true, cond_false, show (canQ q).2 = limbs q.den from rfl, nRight_ok (by omega), Option.bind_some, Bool.not_true, cond_false, cnd' (by omega), show (canQ q).1.2 = limbs q.num.natAbs from rfl, g, Option.bind_some, o, Option.bind_some, c, Option.bind_some]
  congr 1
  rw [decide_eq_true]
  unfold ncmp
  simp

theorem Askd.cov {m : MODEL} {row : List CELL} (h : Askd m row) {i : Nat} (hi : i < m.2.length) : CoversP m.2[i] := h.good.covers hi
theorem Askd.f64 {m : MODEL} {row : List CELL} (h : Askd m row) : row.length ≤ 64 := by
  have := h.good.1.2.1
  have := h.len
  omega
theorem eValue_ok {m : MODEL} {row : List CELL} (h : Askd m row) {set : Nat} (hset : set < 18446744073709551616) : expect_Value m row (set : Int) = some (canQ (sayM m row set), 0) := by
  obtain ⟨e, _, h1, _, h2⟩ := fits_ok (row := row) (by have := h.ml; omega) (fun t ht => by have := h.mt t ht; omega) h.ms
  have e0 : e = 0 := h2.2 ⟨h.good, h.len⟩
  subst e0
  have ml := h.ml
  obtain ⟨F, eF⟩ : ∃ F : Nat → Rat, F = fun i => expT (treeAt m i) row set (treeOf (treeAt m i)) := ⟨_, rfl⟩
  have hF : ∀ n, n ≤ m.2.length → SzQ (rsum F n) (1 + n * 1048577) := fun n hn => by rw [eF]; exact sayM_sz h.good h.ms h.mt hn
  have key := lp_up (step := expect_Value_s6) (fun i => ((row, (set : Int), m.2, ((m.2.length : Nat) : Int), (i : Int), ()), ((false, [], [], ()), ((canQ (rsum F i)).1.1, (canQ (rsum F i)).1.2, (canQ (rsum F i)).2, ()), ()))) m.2.length (by omega) (by
    intro g i hi
    have d0 : (i : Int) < ((m.2.length : Nat) : Int) := by omega
    have d1 : (0 : Int) ≤ (i : Int) := by omega
    obtain ⟨t1, t2, t3, t4, t5⟩ := h.tree hi
    have hz := TR.size_le t4
    have hv := expect_value_ok t1 h.cs (h.cov hi) hset h.f64 R0 _ t2 (by unfold R0; omega) (by omega)
    rw [t3] at hv
    have hv : expect_value R0 m.2[i] 0 row set = some (canQ (expT m.2[i] row set (treeOf (treeAt m i)))) := hv
    have hq : SzQ (expT m.2[i] row set (treeOf (treeAt m i))) 1048576 := (expT_sz t1 t2).mono (by omega)
    have ha := sum_step (hF i (by omega)) (by omega) (hq.sm (by decide)) (by rw [rv_canQ, eF]; show _ = expT (treeAt m i) row set _; rw [t5])
    rw [expect_Value_s6, cnd d0, cnd d1, Int.toNat_natCast, List.getElem?_eq_getElem hi, Option.bind_some, hv, Option.bind_some, ha, Option.bind_some, iadd1 (by omega)]
    rfl) (by
    intro g
    rw [expect_Value_s6, cnd' (by omega)])
  rw [expect_Value, h1, Option.bind_some, show (!decide ((0 : Int) = 0)) = false by decide, cond_false, ratio_Zero_ok, Option.bind_some]
  have key' : lp expect_Value_s6 K0 ((row, (set : Int), m.2, ((m.2.length : Nat) : Int), 0, ()), ((false, [], [], ()), ((canQ 0).1.1, (canQ 0).1.2, (canQ 0).2, ()), ())) = _ := key
  rw [key']
  rw [sayM, ← eF]
  rfl
theorem eValue_bad {m : MODEL} {row : List CELL} {e set : Int} (h : route_Fits m row = some e) (he : e ≠ 0) : expect_Value m row set = some (zR, e) := by
  rw [expect_Value, h, Option.bind_some, decide_eq_false he]; rfl
theorem Value11_ok {m : MODEL} {row : List CELL} (h : Askd m row) {set : Nat} (hset : set < 18446744073709551616) : dendronlaw11_Value m row (set : Int) = some (canQ (sayM m row set)) := by
  have ml := h.ml
  obtain ⟨F, eF⟩ : ∃ F : Nat → Rat, F = fun i => expT (treeAt m i) row set (treeOf (treeAt m i)) := ⟨_, rfl⟩
  have hF : ∀ n, n ≤ m.2.length → SzQ (rsum F n) (1 + n * 1048577) := fun n hn => by rw [eF]; exact sayM_sz h.good h.ms h.mt hn
  have key := lp_up (step := dendronlaw11_Value_s3) (fun i => ((row, (set : Int), (i : Int), ()), ((m.1, m.2, ()), (false, [], [], ()), ((canQ (rsum F i)).1.1, (canQ (rsum F i)).1.2, (canQ (rsum F i)).2, ()), ()))) m.2.length (by omega) (by
    intro g i hi
    have d0 : (i : Int) < ((m.2.length : Nat) : Int) := by omega
    have d1 : (0 : Int) ≤ (i : Int) := by omega
    obtain ⟨t1, t2, t3, t4, t5⟩ := h.tree hi
    have hz := TR.size_le t4
    obtain ⟨x, hv, vx, zx⟩ := below_ok t1 h.cs (h.cov hi) hset h.f64 R0 _ t2 (by unfold R0; omega) (by omega)
    rw [t3] at hv
    have hv : dendronlaw11_below R0 m.2[i] 0 row set = some x := hv
    have ha := sum_step (hF i (by omega)) (by omega) (zx.sm (by omega)) (by rw [vx, eF]; show _ = expT (treeAt m i) row set _; rw [t5])
    rw [dendronlaw11_Value_s3, cnd d0, cnd d1, Int.toNat_natCast, List.getElem?_eq_getElem hi, Option.bind_some, hv, Option.bind_some, ha, Option.bind_some, iadd1 (by omega)]
    rfl) (by
    intro g
    rw [dendronlaw11_Value_s3, cnd' (by omega)])
  rw [dendronlaw11_Value, ratio_Zero_ok, Option.bind_some]
  have key' : lp dendronlaw11_Value_s3 K0 ((row, (set : Int), 0, ()), ((m.1, m.2, ()), (false, [], [], ()), ((canQ 0).1.1, (canQ 0).1.2, (canQ 0).2, ()), ())) = _ := key
  rw [key']
  rw [sayM, ← eF]
  rfl

/-- Where nothing is known it is the same what the row is. -/
theorem expT_none (t : List NODE) (row row' : List CELL) (T : TR) : expT t row 0 T = expT t row' 0 T := by
  induction T with
  | leaf i => rfl
  | split i l r ihl ihr => simp only [expT, Nat.zero_testBit]; rw [ihl, ihr, if_neg (by decide), if_neg (by decide)]
theorem sayM_none (m : MODEL) (row row' : List CELL) : sayM m row 0 = sayM m row' 0 := rsum_congr fun i hi => expT_none _ _ _ _

theorem Base_ok {m : MODEL} (hg : Good m) (ms : MSz m 4) (ml : m.2.length ≤ 6) (mt : ∀ t ∈ m.2, t.length ≤ 15) (row : List CELL) : expect_Base m = some (canQ (sayM m row 0), 0) := by
  have f0 := hg.1.1
  have f1 := hg.1.2.1
  obtain ⟨b, h1, h2⟩ := Ok_ok (m := m) (k := 4) (by omega) (fun t ht => by have := mt t ht; omega) ms (by decide)
  have hb : b = true := h2.2 hg
  subst hb
  obtain ⟨z, ez⟩ : ∃ z, z = List.replicate m.1.toNat ((false, ((false, []), [])) : CELL) := ⟨_, rfl⟩
  have ha : Askd m z := ⟨hg, by rw [ez]; simp; omega, ms, ml, mt, by
    intro c hc
    rw [ez] at hc
    have := (List.mem_replicate.1 hc).2
    subst this
    exact ⟨Nat.zero_le _, Nat.zero_le _⟩⟩
  have hv := eValue_ok ha (set := 0) (by decide)
  have hv : expect_Value m z 0 = _ := hv
  have c1 : (decide (m.1 = m.1) && decide (0 ≤ m.1) && decide (((64 : Nat) : Int) * m.1 ≤ 281474976710656) && decide (m.1 ≤ 9223372036854775807)) = true := by
    rw [decide_eq_true rfl, decide_eq_true f0, decide_eq_true (by omega), decide_eq_true (by omega)]; rfl
  rw [expect_Base, h1, Option.bind_some, Bool.not_true, cond_false, c1, cond_true, ← ez, hv, Option.bind_some, sayM_none m z row]

theorem Small_ok (m0 : MODEL) (row0 : List CELL) (hl : m0.2.length ≤ 9223372036854775807) (ht : ∀ t ∈ m0.2, t.length ≤ 9223372036854775807) (hr : row0.length ≤ 9223372036854775807) :
    ∃ m row, dendronlaw11_Small m0 row0 = some (m, row) ∧ MSz m 4 ∧ m.2.length ≤ 3 ∧ (∀ t ∈ m.2, t.length ≤ 15) ∧ CSz row 3 := by
  have hf := Few07_ok m0 hl ht
  have ms := cutM_sz m0
  have mt := cutM_tlen m0
  have h9 := Few09_ok row0 70 hr (by decide)
  have h9 : dendronlaw09_Few row0 70 = some ((row0.take 70).map cutCell) := h9
  have cs := cutRow_sz (row0.take 70)
  by_cases h3 : ((cutM m0).2.length : Int) > 3
  · refine ⟨((cutM m0).1, (cutM m0).2.take 3), (row0.take 70).map cutCell, ?_, fun t h => ms t (List.mem_of_mem_take h), by simp; omega, fun t h => mt t (List.mem_of_mem_take h), cs⟩
    rw [dendronlaw11_Small, hf, Option.bind_some, cnd h3, cnd (by omega), h9]; rfl
  · refine ⟨cutM m0, (row0.take 70).map cutCell, ?_, ms, by omega, mt, cs⟩
    rw [dendronlaw11_Small, hf, Option.bind_some, cnd' h3, h9]; rfl
theorem law11_awake_ok : dendronlaw11_awake = some true := by decide +kernel

theorem ExpectAll_true (m0 : MODEL) (row0 : List CELL) (hl : m0.2.length ≤ 9223372036854775807) (ht : ∀ t ∈ m0.2, t.length ≤ 9223372036854775807) (hr : row0.length ≤ 9223372036854775807) : dendronlaw11_ExpectAll m0 row0 = some true := by
  obtain ⟨m, row, hs, ms, ml, mt, cs⟩ := Small_ok m0 row0 hl ht hr
  obtain ⟨e, h1, h2, h3, h4⟩ := fits_ok (row := row) (by omega) (fun t h => by have := mt t h; omega) ms
  rw [dendronlaw11_ExpectAll, hs, Option.bind_some]
  dsimp only
  by_cases he : e = 0
  · subst he
    have ha : Askd m row := ⟨(h4.1 rfl).1, (h4.1 rfl).2, ms, by omega, mt, cs⟩
    have hv := eValue_ok ha (set := 18446744073709551615) (by decide)
    have hv : expect_Value m row 18446744073709551615 = _ := hv
    have hp := Predict_ok ha
    have hall : ∀ j : Nat, (j : Int) < m.1 → (18446744073709551615 : Nat).testBit j = true := by
      intro j hj
      have := ha.good.1.2.1
      have e : (18446744073709551615 : Nat) = 2 ^ 64 - 1 := by decide
      rw [e, Nat.testBit_two_pow_sub_one]
      simp; omega
    have es := sayM_all (row := row) ha.good hall
    have hpz : SzQ (predM m row) (1 + m.2.length * 5) := predM_sz (row := row) ha.good ms (n := m.2.length) (Nat.le_refl _)
    have hsame := ratio_Same_ok (hpz.sm (by omega)) (hpz.sm (by omega))
    rw [hv, Option.bind_some, hp, Option.bind_some, es, cnd rfl]
    dsimp only
    rw [show (!decide ((0 : Int) = 0)) = false by decide, cond_false, hsame, Option.bind_some, decide_eq_true rfl, cond_true, law11_awake_ok]
    rfl
  · have f1 := (fail_Predict h1 he).1
    have f2 := eValue_bad (set := 18446744073709551615) h2 he
    rw [f2, Option.bind_some, f1, Option.bind_some, cnd rfl]
    dsimp only
    rw [decide_eq_false he, Bool.not_false, cond_true, law11_awake_ok]
    rfl

theorem ExpectBases_true (m0 : MODEL) (row0 : List CELL) (hl : m0.2.length ≤ 9223372036854775807) (ht : ∀ t ∈ m0.2, t.length ≤ 9223372036854775807) (hr : row0.length ≤ 9223372036854775807) : dendronlaw11_ExpectBases m0 row0 = some true := by
  obtain ⟨m, row, hs, ms, ml, mt, cs⟩ := Small_ok m0 row0 hl ht hr
  obtain ⟨b, h1, h2⟩ := Ok_ok (m := m) (k := 4) (by omega) (fun t ht => by have := mt t ht; omega) ms (by decide)
  rw [dendronlaw11_ExpectBases, hs, Option.bind_some]
  dsimp only
  cases b with
  | false =>
    have hb : expect_Base m = some (zR, 1) := by rw [expect_Base, h1]; rfl
    rw [hb, Option.bind_some, h1, Option.bind_some, Bool.not_false, cond_true, law11_awake_ok]
    rfl
  | true =>
    have hg := h2.1 rfl
    have hb := Base_ok hg ms (by omega) mt row
    have hz : SzQ (sayM m row 0) (1 + m.2.length * 1048577) := sayM_sz hg ms mt (Nat.le_refl _)
    rw [hb, Option.bind_some, h1, Option.bind_some, Bool.not_true, cond_false, cnd rfl, ratio_Right_ok (hz.sm (by omega)), Option.bind_some, cond_true]
    by_cases he : (row.length : Int) = m.1
    · have ha : Askd m row := ⟨hg, he, ms, by omega, mt, cs⟩
      have hv := Value11_ok ha (set := 0) (by decide)
      have hv : dendronlaw11_Value m row 0 = _ := hv
      rw [decide_eq_true he, Bool.not_true, cond_false, hv, Option.bind_some, ratio_Same_ok (hz.sm (by omega)) (hz.sm (by omega)), Option.bind_some, decide_eq_true rfl, cond_true, law11_awake_ok]
      rfl
    · rw [decide_eq_false he, Bool.not_false, cond_true, law11_awake_ok]
      rfl
end Go.Proofs.YtflagjfdamgknaaDoor.X

