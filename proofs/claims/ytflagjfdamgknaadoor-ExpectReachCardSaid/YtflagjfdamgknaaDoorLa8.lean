/- Expect: ExpectBases, ExpectAll. -/
import Derived.Test.YtflagjfdamgknaaDoorLa7

namespace Go.Proofs.YtflagjfdamgknaaDoor.X
open Go
set_option linter.unusedVariables false
set_option linter.unusedSimpArgs false

theorem nRight_ok {n : Nat} (hl : (limbs n).length < 4611686018427387904) : nat_Right (limbs n) = some true := by
  have hc := limbs_canon n
  obtain ⟨a, ea⟩ : ∃ a, a = limbs n := ⟨_, rfl⟩
  rw [← ea] at hl hc ⊢
  have key := lp_up (step := nat_Right_s2) (fun i => ((a, a, (a.length : Int), (i : Int), ()), ())) a.length (r := .inl ((a, ()), ())) (by omega) (by
    intro g i hi
    have d0 : (i : Int) < ((a.length : Nat) : Int) := by omega
    have d1 : (0 : Int) ≤ (i : Int) := by omega
    have := hc.1.at hi
    rw [nat_Right_s2, cnd d0, cnd d1, Int.toNat_natCast, List.getElem?_eq_getElem hi, Option.bind_some, cnd' (by omega), iadd1 (by omega)]
    rfl) (by
    intro g
    rw [nat_Right_s2, cnd' (by omega)])
  have key : lp nat_Right_s2 K0 ((a, a, (a.length : Int), 0, ()), ()) = _ := key
  rw [nat_Right, key, Option.bind_some]
  dsimp only
  by_cases h0 : a.length = 0
  · rw [cnd (by omega)]
  · have i1 : isub .i64 (a.length : Int) 1 = ((a.length - 1 : Nat) : Int) := by rw [isub_i] <;> omega
    have hlt : a.length - 1 < a.length := by omega
    rw [cnd' (by omega), i1, cnd (by omega), Int.toNat_natCast, List.getElem?_eq_getElem hlt, Option.bind_some]
    have := hc.2 a[a.length - 1] (by rw [List.getLast?_eq_getElem?]; exact List.getElem?_eq_getElem hlt)
    rw [decide_eq_false this]; rfl
theorem ratio_Right_ok {q : Rat} (h : Sm (canQ q)) : ratio_Right (canQ q) = some true := by
  have h1 : (limbs q.num.natAbs).length < 1099511627776 := h.1
  have h2 : (limbs q.den).length < 1099511627776 := h.2
  have w : whole_Right (canQ q).1 = some true := by
    rw [whole_Right, show (canQ q).1.2 = limbs q.num.natAbs from rfl, nRight_ok (by omega), Option.bind_some, cond_true]
    by_cases h0 : ((limbs q.num.natAbs).length : Int) > 0
    · rw [cnd h0]
    · rw [cnd' h0]
      have hz : limbs q.num.natAbs = [] := by
        apply List.eq_nil_of_length_eq_zero; omega
      have hz := limbs_eq_nil.1 hz
      have : (canQ q).1.1 = false := by
        show decide (q.num < 0) = false
        rw [decide_eq_false]; omega
      rw [this]; rfl
  have hd : (limbs q.den).length ≠ 0 := by
    intro e
    have := limbs_eq_nil.1 (List.eq_nil_of_length_eq_zero e)
    exact q.den_nz this
  have g := Gcd_ok (a := limbs q.num.natAbs) (b := limbs q.den) (by omega) (by omega)
  rw [nn_limbs, nn_limbs, q.reduced] at g
  have o := Of_ok (n := 1) (by decide)
  have o : nat_Of 1 = some (limbs 1) := o
  have l1 : (limbs 1).length = 1 := by rw [limbs_small (by decide) (by decide)]; rfl
  have c := Cmp_ok (a := limbs 1) (b := limbs 1) (by omega) (by omega)
  rw [ratio_Right, w, Option.bind_some, Bool.not_true, cond_false, show (canQ q).2 = limbs q.den from rfl, nRight_ok (by omega), Option.bind_some, Bool.not_true, cond_false, cnd' (by omega), show (canQ q).1.2 = limbs q.num.natAbs from rfl, g, Option.bind_some, o, Option.bind_some, c, Option.bind_some]
  congr 1
  rw [decide_eq_true]
  unfold ncmp
  simp

theorem Askd.cov {m : MODEL} {row : List CELL} (h : Askd m row) {i : Nat} (hi : i < m.2.length) : CoversP m.2[i] := h.good.covers hi
theorem Askd.f64 {m : MODEL} {row : List CELL} (h : Askd m row) : row.length ≤ 64 := by
  have := h.good.1.2.1
  have := h.len
  omega
theorem eValue_ok {m : MODEL} {row : List CELL} (h : Askd m row) {set : Nat} (hset : set < 18446744073709551616) : expect_Value m row (set : Int) = some (canQ (sayM m row set), 0) := by
  obtain ⟨e, _, h1, _, h2⟩ := fits_ok (row := row) (by have := h.ml; omega) (fun t ht => by have := h.mt t ht; omega) h.ms
  have e0 : e = 0 := h2.2 ⟨h.good, h.len⟩
  subst e0
  have ml := h.ml
  obtain ⟨F, eF⟩ : ∃ F : Nat → Rat, F = fun i => expT (treeAt m i) row set (treeOf (treeAt m i)) := ⟨_, rfl⟩
  have hF : ∀ n, n ≤ m.2.length → SzQ (rsum F n) (1 + n * 1048577) := fun n hn => by rw [eF]; exact sayM_sz h.good h.ms h.mt hn
  have key := lp_up (step := expect_Value_s6) (fun i => ((row, (set : Int), m.2, ((m.2.length : Nat) : Int), (i : Int), ()), ((false, [], [], ()), ((canQ (rsum F i)).1.1, (canQ (rsum F i)).1.2, (canQ (rsum F i)).2, ()), ()))) m.2.length (by omega) (by
    intro g i hi
    have d0 : (i : Int) < ((m.2.length : Nat) : Int) := by omega
    have d1 : (0 : Int) ≤ (i : Int) := by omega
    obtain ⟨t1, t2, t3, t4, t5⟩ := h.tree hi
    have hz := TR.size_le t4
    have hv := expect_value_ok t1 h.cs (h.cov hi) hset h.f64 R0 _ t2 (by unfold R0; omega) (by omega)
    rw [t3] at hv
    have hv : expect_value R0 m.2[i] 0 row set = some (canQ (expT m.2[i] row set (treeOf (treeAt m i)))) := hv
    have hq : SzQ (expT m.2[i] row set (treeOf (treeAt m i))) 1048576 := (expT_sz t1 t2).mono (by omega)
    have ha := sum_step (hF i (by omega)) (by omega) (hq.sm (by decide)) (by rw [rv_canQ, eF]; show _ = expT (treeAt m i) row set _; rw [t5])
    rw [expect_Value_s6, cnd d0, cnd d1, Int.toNat_natCast, List.getElem?_eq_getElem hi, Option.bind_some, hv, Option.bind_some, ha, Option.bind_some, iadd1 (by omega)]
    rfl) (by
    intro g
    rw [expect_Value_s6, cnd' (by omega)])
  rw [expect_Value, h1, Option.bind_some, show (!decide ((0 : Int) = 0)) = false by decide, cond_false, ratio_Zero_ok, Option.bind_some]
  have key' : lp expect_Value_s6 K0 ((row, (set : Int), m.2, ((m.2.length : Nat) : Int), 0, ()), ((false, [], [], ()), ((canQ 0).1.1, (canQ 0).1.2, (canQ 0).2, ()), ())) = _ := key
  rw [key']
  rw [sayM, ← eF]
  rfl
theorem eValue_bad {m : MODEL} {row : List CELL} {e set : Int} (h : route_Fits m row = some e) (he : e ≠ 0) : expect_Value m row set = some (zR, e) := by
  rw [expect_Value, h, Option.bind_some, decide_eq_false he]; rfl
theorem Value11_ok {m : MODEL} {row : List CELL} (h : Askd m row) {set : Nat} (hset : set < 18446744073709551616) : dendronlaw11_Value m row (set : Int) = some (canQ (sayM m row set)) := by
  have ml := h.ml
  obtain ⟨F, eF⟩ : ∃ F : Nat → Rat, F = fun i => expT (treeAt m i) row set (treeOf (treeAt m i)) := ⟨_, rfl⟩
  have hF : ∀ n, n ≤ m.2.length → SzQ (rsum F n) (1 + n * 1048577) := fun n hn => by rw [eF]; exact sayM_sz h.good h.ms h.mt hn
  have key := lp_up (step := dendronlaw11_Value_s3) (fun i => ((row, (set : Int), (i : Int), ()), ((m.1, m.2, ()), (false, [], [], ()), ((canQ (rsum F i)).1.1, (canQ (rsum F i)).1.2, (canQ (rsum F i)).2, ()), ()))) m.2.length (by omega) (by
    intro g i hi
    have d0 : (i : Int) < ((m.2.length : Nat) : Int) := by omega
    have d1 : (0 : Int) ≤ (i : Int) := by omega
    obtain ⟨t1, t2, t3, t4, t5⟩ := h.tree hi
    have hz := TR.size_le t4
    obtain ⟨x, hv, vx, zx⟩ := below_ok t1 h.cs (h.cov hi) hset h.f64 R0 _ t2 (by unfold R0; omega) (by omega)
    rw [t3] at hv
    have hv : dendronlaw11_below R0 m.2[i] 0 row set = some x := hv
    have ha := sum_step (hF i (by omega)) (by omega) (zx.sm (by omega)) (by rw [vx, eF]; show _ = expT (treeAt m i) row set _; rw [t5])
    rw [dendronlaw11_Value_s3, cnd d0, cnd d1, Int.toNat_natCast, List.getElem?_eq_getElem hi, Option.bind_some, hv, Option.bind_some, ha, Option.bind_some, iadd1 (by omega)]
    rfl) (by
    intro g
    rw [dendronlaw11_Value_s3, cnd' (by omega)])
  rw [dendronlaw11_Value, ratio_Zero_ok, Option.bind_some]
  have key' : lp dendronlaw11_Value_s3 K0 ((row, (set : Int), 0, ()), ((m.1, m.2, ()), (false, [], [], ()), ((canQ 0).1.1, (canQ 0).1.2, (canQ 0).2, ()), ())) = _ := key
  rw [key']
  rw [sayM, ← eF]
  rfl

/-- Where nothing is known it is the same what the row is. -/
theorem expT_none (t : List NODE) (row row' : List CELL) (T : TR) : expT t row 0 T = expT t row' 0 T := by
  induction T with
  | leaf i => rfl
  | split i l r ihl ihr => simp only [expT, Nat.zero_testBit]; rw [ihl, ihr, if_neg (by decide), if_neg (by decide)]
theorem sayM_none (m : MODEL) (row row' : List CELL) : sayM m row 0 = sayM m row' 0 := rsum_congr fun i hi => expT_none _ _ _ _

theorem Base_ok {m : MODEL} (hg : Good m) (ms : MSz m 4) (ml : m.2.length ≤ 6) (mt : ∀ t ∈ m.2, t.length ≤ 15) (row : List CELL) : expect_Base m = some (canQ (sayM m row 0), 0) := by
  have f0 := hg.1.1
  have f1 := hg.1.2.1
  obtain ⟨b, h1, h2⟩ := Ok_ok (m := m) (k := 4) (by omega) (fun t ht => by have := mt t ht; omega) ms (by decide)
  have hb : b = true := h2.2 hg
  subst hb
  obtain ⟨z, ez⟩ : ∃ z, z = List.replicate m.1.toNat ((false, ((false, []), [])) : CELL) := ⟨_, rfl⟩
  have ha : Askd m z := ⟨hg, by rw [ez]; simp; omega, ms, ml, mt, by
    intro c hc
    rw [ez] at hc
    have := (List.mem_replicate.1 hc).2
    subst this
    exact ⟨Nat.zero_le _, Nat.zero_le _⟩⟩
  have hv := eValue_ok ha (set := 0) (by decide)
  have hv : expect_Value m z 0 = _ := hv
  have c1 : (decide (m.1 = m.1) && decide (0 ≤ m.1) && decide (((64 : Nat) : Int) * m.1 ≤ 281474976710656) && decide (m.1 ≤ 9223372036854775807)) = true := by
    rw [decide_eq_true rfl, decide_eq_true f0, decide_eq_true (by omega), decide_eq_true (by omega)]; rfl
  rw [expect_Base, h1, Option.bind_some, Bool.not_true, cond_false, c1, cond_true, ← ez, hv, Option.bind_some, sayM_none m z row]

theorem Small_ok (m0 : MODEL) (row0 : List CELL) (hl : m0.2.length ≤ 9223372036854775807) (ht : ∀ t ∈ m0.2, t.length ≤ 9223372036854775807) (hr : row0.length ≤ 9223372036854775807) :
    ∃ m row, dendronlaw11_Small m0 row0 = some (m, row) ∧ MSz m 4 ∧ m.2.length ≤ 3 ∧ (∀ t ∈ m.2, t.length ≤ 15) ∧ CSz row 9 := by
  have hf := Few07_ok m0 hl ht
  have ms := cutM_sz m0
  have mt := cutM_tlen m0
  have h9 := Few09_ok row0 70 hr (by decide)
  have h9 : dendronlaw09_Few row0 70 = some ((row0.take 70).map cutCell) := h9
  have cs := cutRow_sz (row0.take 70)
  by_cases h3 : ((cutM m0).2.length : Int) > 3
  · refine ⟨((cutM m0).1, (cutM m0).2.take 3), (row0.take 70).map cutCell, ?_, fun t h => ms t (List.mem_of_mem_take h), by simp; omega, fun t h => mt t (List.mem_of_mem_take h), cs⟩
    rw [dendronlaw11_Small, hf, Option.bind_some, cnd h3, cnd (by omega), h9]; rfl
  · refine ⟨cutM m0, (row0.take 70).map cutCell, ?_, ms, by omega, mt, cs⟩
    rw [dendronlaw11_Small, hf, Option.bind_some, cnd' h3, h9]; rfl
theorem law11_awake_ok : dendronlaw11_awake = some true := by decide +kernel

theorem ExpectAll_true (m0 : MODEL) (row0 : List CELL) (hl : m0.2.length ≤ 9223372036854775807) (ht : ∀ t ∈ m0.2, t.length ≤ 9223372036854775807) (hr : row0.length ≤ 9223372036854775807) : dendronlaw11_ExpectAll m0 row0 = some true := by
  obtain ⟨m, row, hs, ms, ml, mt, cs⟩ := Small_ok m0 row0 hl ht hr
  obtain ⟨e, h1, h2, h3, h4⟩ := fits_ok (row := row) (by omega) (fun t h => by have := mt t h; omega) ms
  rw [dendronlaw11_ExpectAll, hs, Option.bind_some]
  dsimp only
  by_cases he : e = 0
  · subst he
    have ha : Askd m row := ⟨(h4.1 rfl).1, (h4.1 rfl).2, ms, by omega, mt, cs⟩
    have hv := eValue_ok ha (set := 18446744073709551615) (by decide)
    have hv : expect_Value m row 18446744073709551615 = _ := hv
    have hp := Predict_ok ha
    have hall : ∀ j : Nat, (j : Int) < m.1 → (18446744073709551615 : Nat).testBit j = true := by
      intro j hj
      have := ha.good.1.2.1
      have e : (18446744073709551615 : Nat) = 2 ^ 64 - 1 := by decide
      rw [e, Nat.testBit_two_pow_sub_one]
      simp; omega
    have es := sayM_all (row := row) ha.good hall
    have hpz : SzQ (predM m row) (1 + m.2.length * 5) := predM_sz (row := row) ha.good ms (n := m.2.length) (Nat.le_refl _)
    have hsame := ratio_Same_ok (hpz.sm (by omega)) (hpz.sm (by omega))
    rw [hv, Option.bind_some, hp, Option.bind_some, es, cnd rfl]
    dsimp only
    rw [show (!decide ((0 : Int) = 0)) = false by decide, cond_false, hsame, Option.bind_some, decide_eq_true rfl, cond_true, law11_awake_ok]
    rfl
  · have f1 := (fail_Predict h1 he).1
    have f2 := eValue_bad (set := 18446744073709551615) h2 he
    rw [f2, Option.bind_some, f1, Option.bind_some, cnd rfl]
    dsimp only
    rw [decide_eq_false he, Bool.not_false, cond_true, law11_awake_ok]
    rfl

theorem ExpectBases_true (m0 : MODEL) (row0 : List CELL) (hl : m0.2.length ≤ 9223372036854775807) (ht : ∀ t ∈ m0.2, t.length ≤ 9223372036854775807) (hr : row0.length ≤ 9223372036854775807) : dendronlaw11_ExpectBases m0 row0 = some true := by
  obtain ⟨m, row, hs, ms, ml, mt, cs⟩ := Small_ok m0 row0 hl ht hr
  obtain ⟨b, h1, h2⟩ := Ok_ok (m := m) (k := 4) (by omega) (fun t ht => by have := mt t ht; omega) ms (by decide)
  rw [dendronlaw11_ExpectBases, hs, Option.bind_some]
  dsimp only
  cases b with
  | false =>
    have hb : expect_Base m = some (zR, 1) := by rw [expect_Base, h1]; rfl
    rw [hb, Option.bind_some, h1, Option.bind_some, Bool.not_false, cond_true, law11_awake_ok]
    rfl
  | true =>
    have hg := h2.1 rfl
    have hb := Base_ok hg ms (by omega) mt row
    have hz : SzQ (sayM m row 0) (1 + m.2.length * 1048577) := sayM_sz hg ms mt (Nat.le_refl _)
    rw [hb, Option.bind_some, h1, Option.bind_some, Bool.not_true, cond_false, cnd rfl, ratio_Right_ok (hz.sm (by omega)), Option.bind_some, cond_true]
    by_cases he : (row.length : Int) = m.1
    · have ha : Askd m row := ⟨hg, he, ms, by omega, mt, cs⟩
      have hv := Value11_ok ha (set := 0) (by decide)
      have hv : dendronlaw11_Value m row 0 = _ := hv
      rw [decide_eq_true he, Bool.not_true, cond_false, hv, Option.bind_some, ratio_Same_ok (hz.sm (by omega)) (hz.sm (by omega)), Option.bind_some, decide_eq_true rfl, cond_true, law11_awake_ok]
      rfl
    · rw [decide_eq_false he, Bool.not_false, cond_true, law11_awake_ok]
      rfl
end Go.Proofs.YtflagjfdamgknaaDoor.X

/- Expect: ExpectReach. -/
namespace Go.Proofs.YtflagjfdamgknaaDoor.X
open Go
set_option linter.unusedVariables false
set_option linter.unusedSimpArgs false

def rprod (f : Nat → Rat) : Nat → Rat
  | 0 => 1
  | n + 1 => rprod f n * f n
theorem rprod_sz {f : Nat → Rat} {k n : Nat} (h : ∀ i, i < n → SzQ (f i) k) : SzQ (rprod f n) (1 + n * k) := by
  induction n with
  | zero => simpa [rprod] using SzQ.one
  | succ n ih =>
    have := (ih fun i hi => h i (by omega)).mul (h n (by omega))
    simp only [rprod]
    exact this.mono (by rw [Nat.add_mul]; omega)
abbrev zPart : PART := (0, zR, false)
def partAt (l : List PART) (i : Nat) : PART := (l[i]?).getD zPart
theorem partAt_get {l : List PART} {i : Nat} (h : i < l.length) : partAt l i = l[i] := by simp [partAt, h]
/-- Whether a set has a part's feature. -/
def hasP (set : Nat) (p : PART) : Bool := decide (0 ≤ p.1) && decide (p.1 < 64) && set.testBit p.1.toNat
def shareP (set : Nat) (l : List PART) (i : Nat) : Rat := if hasP set (partAt l i) then 1 else rv (partAt l i).2.1
def badP (set : Nat) (l : List PART) (i : Nat) : Bool := hasP set (partAt l i) && !(partAt l i).2.2
def reachP (set : Nat) (l : List PART) : Rat := rprod (shareP set l) l.length
def PSz (l : List PART) (k : Nat) : Prop := ∀ p ∈ l, SzR p.2.1 k
theorem shareP_sz {l : List PART} {k : Nat} (h : PSz l k) (hk : 0 < k) (set : Nat) {i : Nat} (hi : i < l.length) : SzQ (shareP set l i) k := by
  unfold shareP
  split
  · exact SzQ.one.mono hk
  · rw [partAt_get hi]; exact (h _ (List.getElem_mem hi)).szQ hk
theorem hasP_cases (set : Nat) (p : PART) : (p.1 < 0 ∧ hasP set p = false) ∨ (¬ p.1 < 0 ∧ p.1 ≥ 64 ∧ hasP set p = false) ∨ (¬ p.1 < 0 ∧ ¬ p.1 ≥ 64 ∧ hasP set p = set.testBit p.1.toNat) := by
  unfold hasP
  by_cases h1 : p.1 < 0
  · exact .inl ⟨h1, by rw [decide_eq_false (by omega)]; rfl⟩
  · by_cases h2 : p.1 ≥ 64
    · exact .inr (.inl ⟨h1, h2, by rw [decide_eq_false (p := p.1 < 64) (by omega)]; simp⟩)
    · exact .inr (.inr ⟨h1, h2, by rw [decide_eq_true (by omega), decide_eq_true (by omega)]; rfl⟩)

theorem prod_step {f : Nat → Rat} {n k : Nat} {q : RAT} (hs : SzQ (rprod f n) k) (hk : k < 1099511627776) (hq : Sm q) (e : rv q = f n) : ratio_Mul (((canQ (rprod f n)).1.1, (canQ (rprod f n)).1.2), (canQ (rprod f n)).2) q = some (canQ (rprod f (n + 1))) := by
  have h1 := ratio_Mul_ok (hs.sm hk) hq
  rw [rv_canQ, e] at h1
  exact h1

theorem Reach_ok {l : LEG} {set : Nat} {k : Nat} (hz : PSz l.2.2 k) (hk : 0 < k) (hset : set < 18446744073709551616) (hlen : l.2.2.length < 1000000) (hsz : 1 + l.2.2.length * k < 1099511627776) :
    expect_Reach l (set : Int) = some (canQ (if ∀ i, i < l.2.2.length → badP set l.2.2 i = false then reachP set l.2.2 else 0)) := by
  obtain ⟨ps, eps⟩ : ∃ ps, ps = l.2.2 := ⟨_, rfl⟩
  rw [← eps] at hz hlen hsz ⊢
  have hF : ∀ n, n ≤ ps.length → SzQ (rprod (shareP set ps) n) (1 + n * k) := fun n hn => rprod_sz fun i hi => shareP_sz hz hk set (by omega)
  have hF' : ∀ n, n ≤ ps.length → 1 + n * k < 1099511627776 := fun n hn => by
    have := Nat.mul_le_mul_right k hn; omega
  rcases lp_all (step := expect_Reach_s3) (fun i => (((set : Int), ps, ((ps.length : Nat) : Int), (i : Int), ()), ((false, [], [], ()), ((canQ (rprod (shareP set ps) i)).1.1, (canQ (rprod (shareP set ps) i)).1.2, (canQ (rprod (shareP set ps) i)).2, ()), ()))) ps.length (fun i => badP set ps i = false)
      (fun i => .inr ((), (((canQ 0).1.1, (canQ 0).1.2, (canQ 0).2, ()), ()))) (.inl ((), ((false, [], [], ()), ((canQ (reachP set ps)).1.1, (canQ (reachP set ps)).1.2, (canQ (reachP set ps)).2, ()), ()))) (by omega) (by
      intro i hi
      have d0 : (i : Int) < ((ps.length : Nat) : Int) := by omega
      have d1 : (0 : Int) ≤ (i : Int) := by omega
      have hp : partAt ps i = ps[i] := partAt_get hi
      have hsm : SzR ps[i].2.1 k := hz _ (List.getElem_mem hi)
      have hklt : k < 1099511627776 := by have := hF' 1 (by omega); omega
      have mul : hasP set ps[i] = false → ratio_Mul (((canQ (rprod (shareP set ps) i)).1.1, (canQ (rprod (shareP set ps) i)).1.2), (canQ (rprod (shareP set ps) i)).2) ps[i].2.1 = some (canQ (rprod (shareP set ps) (i + 1))) := fun h =>
        prod_step (hF i (by omega)) (hF' i (by omega)) (hsm.sm hklt) (by rw [shareP, hp, h]; rfl)
      have bad0 : hasP set ps[i] = false → badP set ps i = false := fun h => by rw [badP, hp, h]; rfl
      rcases hasP_cases set ps[i] with ⟨h1, h2⟩ | ⟨h1, h2, h3⟩ | ⟨h1, h2, h3⟩
      · refine .inl ⟨bad0 h2, fun g => ?_⟩
        rw [expect_Reach_s3, cnd d0, cnd d1, Int.toNat_natCast, List.getElem?_eq_getElem hi, Option.bind_some, cnd h1, mul h2, Option.bind_some, iadd1 (by omega)]
        rfl
      · refine .inl ⟨bad0 h3, fun g => ?_⟩
        rw [expect_Reach_s3, cnd d0, cnd d1, Int.toNat_natCast, List.getElem?_eq_getElem hi, Option.bind_some, cnd' h1, cnd h2, mul h3, Option.bind_some, iadd1 (by omega)]
        rfl
      · have hkn := known_ok (k := ps[i].1.toNat) hset (by omega)
        rw [show ((ps[i].1.toNat : Nat) : Int) = ps[i].1 by omega, ← h3] at hkn
        cases hb : hasP set ps[i] with
        | false =>
          refine .inl ⟨bad0 hb, fun g => ?_⟩
          rw [expect_Reach_s3, cnd d0, cnd d1, Int.toNat_natCast, List.getElem?_eq_getElem hi, Option.bind_some, cnd' h1, cnd' h2, hkn, hb, Option.bind_some, Bool.not_false, cond_true, mul hb, Option.bind_some, iadd1 (by omega)]
          rfl
        | true =>
          cases hok : ps[i].2.2 with
          | true =>
            refine .inl ⟨by rw [badP, hp, hok]; simp, fun g => ?_⟩
            have e : rprod (shareP set ps) (i + 1) = rprod (shareP set ps) i := by rw [rprod, shareP, hp, hb, if_pos rfl, Rat.mul_one]
            rw [expect_Reach_s3, cnd d0, cnd d1, Int.toNat_natCast, List.getElem?_eq_getElem hi, Option.bind_some, cnd' h1, cnd' h2, hkn, hb, Option.bind_some, Bool.not_true, cond_false, hok, Bool.not_true, cond_false, iadd1 (by omega), e]
            rfl
          | false =>
            refine .inr ⟨by rw [badP, hp, hok, hb]; decide, fun g => ?_⟩
            rw [expect_Reach_s3, cnd d0, cnd d1, Int.toNat_natCast, List.getElem?_eq_getElem hi, Option.bind_some, cnd' h1, cnd' h2, hkn, hb, Option.bind_some, Bool.not_true, cond_false, hok, Bool.not_false, cond_true, ratio_Zero_ok, Option.bind_some]) (by
      intro g
      rw [expect_Reach_s3, cnd' (by omega)]
      rfl) with ⟨h, hlp⟩ | ⟨i, hi, h, hlp⟩
  · have hlp : lp expect_Reach_s3 K0 (((set : Int), ps, ((ps.length : Nat) : Int), 0, ()), ((false, [], [], ()), ((canQ 1).1.1, (canQ 1).1.2, (canQ 1).2, ()), ())) = _ := hlp
    rw [expect_Reach, ratio_One_ok, Option.bind_some, ← eps, hlp, Option.bind_some, if_pos h]
  · have hlp : lp expect_Reach_s3 K0 (((set : Int), ps, ((ps.length : Nat) : Int), 0, ()), ((false, [], [], ()), ((canQ 1).1.1, (canQ 1).1.2, (canQ 1).2, ()), ())) = _ := hlp
    rw [expect_Reach, ratio_One_ok, Option.bind_some, ← eps, hlp, Option.bind_some, if_neg (fun hh => h (hh i hi))]

/-- Whether one of the first so many parts is bad. -/
def anyP (f : Nat → Bool) : Nat → Bool
  | 0 => false
  | n + 1 => anyP f n || f n
theorem anyP_false {f : Nat → Bool} {n : Nat} : anyP f n = false ↔ ∀ i, i < n → f i = false := by
  induction n with
  | zero => simp [anyP]
  | succ n ih =>
    simp only [anyP, Bool.or_eq_false_iff, ih]
    constructor
    · rintro ⟨h1, h2⟩ i hi
      by_cases e : i = n
      · subst e; exact h2
      · exact h1 i (by omega)
    · intro h; exact ⟨fun i hi => h i (by omega), h n (by omega)⟩

def cutPart (p : PART) : PART := (p.1, cutR 3 p.2.1, p.2.2)
theorem ExpectReach_true (l : LEG) (set0 : Int) (h0 : 0 ≤ set0) (h1 : set0 < 18446744073709551616) (hl : l.2.2.length ≤ 9223372036854775807) : dendronlaw11_ExpectReach l set0 = some true := by
  obtain ⟨set, rfl⟩ := Int.eq_ofNat_of_zero_le h0
  have hset : set < 18446744073709551616 := by omega
  obtain ⟨n0, q, P⟩ := l
  obtain ⟨⟨s, x⟩, y⟩ := q
  dsimp only at hl
  have key := lp_up (step := dendronlaw11_ExpectReach_s3) (fun i => (((set : Int), (P.take i).map cutPart, (i : Int), ()), ((n0, s, x, y, P, ()), ()))) (min P.length 10) (r := (((set : Int), (P.take 10).map cutPart, ()), ((n0, s, x, y, P, ()), ()))) (by omega) (by
    intro g i hi
    have hi1 : i < P.length := by omega
    have d0 : (i : Int) < ((P.length : Nat) : Int) := by omega
    have d1 : (0 : Int) ≤ (i : Int) := by omega
    have d2 : (i : Int) < 10 := by omega
    have h9 : dendronlaw09_Few [(false, P[i].2.1)] 1 = some [cutCell (false, P[i].2.1)] := Few09_ok [(false, P[i].2.1)] 1 (by simp) (by decide)
    have d4 : (((P.take i).map cutPart).length + 1) * 72 ≤ 140737488355328 := by simp; omega
    rw [dendronlaw11_ExpectReach_s3, cnd d0, cnd d2, cnd d1, Int.toNat_natCast, List.getElem?_eq_getElem hi1, Option.bind_some, h9, Option.bind_some, cnd (by simp), List.getElem?_cons_zero, Option.bind_some, blt d4, cond_true, iadd1 (by omega), map_take_succ _ hi1]
    rfl) (by
    intro g
    by_cases h : P.length ≤ 10
    · rw [dendronlaw11_ExpectReach_s3, cnd' (by omega), Nat.min_eq_left h, List.take_of_length_le (Nat.le_refl _), List.take_of_length_le h]
    · rw [dendronlaw11_ExpectReach_s3, cnd (by omega), cnd' (by omega), Nat.min_eq_right (by omega)])
  have key : lp dendronlaw11_ExpectReach_s3 K0 (((set : Int), [], 0, ()), ((n0, s, x, y, P, ()), ())) = _ := key
  have hz : PSz ((P.take 10).map cutPart) 3 := by
    intro p hp
    obtain ⟨c, _, rfl⟩ := List.mem_map.1 hp
    exact cutR_sz 3 _
  have hn : ((P.take 10).map cutPart).length ≤ 10 := by simp; omega
  obtain ⟨ps, eps⟩ : ∃ ps, ps = (P.take 10).map cutPart := ⟨_, rfl⟩
  rw [← eps] at hz hn key
  have hF : ∀ n, n ≤ ps.length → SzQ (rprod (shareP set ps) n) (1 + n * 3) := fun n hn => rprod_sz fun i hi => shareP_sz hz (by decide) set (by omega)
  have key2 := lp_up (step := dendronlaw11_ExpectReach_s11) (fun i => (((set : Int), ps, anyP (badP set ps) i, (i : Int), ()), ((n0, s, x, y, P, ()), ((canQ (rprod (shareP set ps) i)).1.1, (canQ (rprod (shareP set ps) i)).1.2, (canQ (rprod (shareP set ps) i)).2, ()), ()))) ps.length (r := (((set : Int), ps, anyP (badP set ps) ps.length, ()), ((n0, s, x, y, P, ()), ((canQ (reachP set ps)).1.1, (canQ (reachP set ps)).1.2, (canQ (reachP set ps)).2, ()), ()))) (by omega) (by
    intro g i hi
    have d0 : (i : Int) < ((ps.length : Nat) : Int) := by omega
    have d1 : (0 : Int) ≤ (i : Int) := by omega
    have hp : partAt ps i = ps[i] := partAt_get hi
    have hsm : SzR ps[i].2.1 3 := hz _ (List.getElem_mem hi)
    have mul : hasP set ps[i] = false → ratio_Mul (((canQ (rprod (shareP set ps) i)).1.1, (canQ (rprod (shareP set ps) i)).1.2), (canQ (rprod (shareP set ps) i)).2) ps[i].2.1 = some (canQ (rprod (shareP set ps) (i + 1))) := fun h =>
      prod_step (hF i (by omega)) (by omega) (hsm.sm (by decide)) (by rw [shareP, hp, h]; rfl)
    have bad0 : hasP set ps[i] = false → anyP (badP set ps) (i + 1) = anyP (badP set ps) i := fun h => by rw [anyP, badP, hp, h]; simp
    rcases hasP_cases set ps[i] with ⟨h1, h2⟩ | ⟨h1, h2, h3⟩ | ⟨h1, h2, h3⟩
    · rw [dendronlaw11_ExpectReach_s11, cnd d0, cnd2 d1 d0, Int.toNat_natCast, List.getElem?_eq_getElem hi, Option.bind_some, cnd h1, cnd2 d1 d0, Option.bind_some, mul h2, Option.bind_some, iadd1 (by omega), bad0 h2]
      rfl
    · rw [dendronlaw11_ExpectReach_s11, cnd d0, cnd2 d1 d0, Int.toNat_natCast, List.getElem?_eq_getElem hi, Option.bind_some, cnd' h1, cnd (by omega), cnd2 d1 d0, Option.bind_some, mul h3, Option.bind_some, iadd1 (by omega), bad0 h3]
      rfl
    · have hkn := in_lp (k := ps[i].1.toNat) hset (by omega)
      rw [show ((ps[i].1.toNat : Nat) : Int) = ps[i].1 by omega, ← h3] at hkn
      cases hb : hasP set ps[i] with
      | false =>
        rw [dendronlaw11_ExpectReach_s11, cnd d0, cnd2 d1 d0, Int.toNat_natCast, List.getElem?_eq_getElem hi, Option.bind_some, cnd' h1, cnd' (by omega), hkn, hb, Option.bind_some, Bool.not_false, cond_true, cnd2 d1 d0, Option.bind_some, mul hb, Option.bind_some, iadd1 (by omega), bad0 hb]
        rfl
      | true =>
        have e : rprod (shareP set ps) (i + 1) = rprod (shareP set ps) i := by rw [rprod, shareP, hp, hb, if_pos rfl, Rat.mul_one]
        rw [dendronlaw11_ExpectReach_s11, cnd d0, cnd2 d1 d0, Int.toNat_natCast, List.getElem?_eq_getElem hi, Option.bind_some, cnd' h1, cnd' (by omega), hkn, hb, Option.bind_some, Bool.not_true, cond_false, cnd2 d1 d0, Option.bind_some, iadd1 (by omega), e, anyP, badP, hp, hb]
        cases hok : ps[i].2.2 with
        | true => rw [Bool.not_true, cond_false, Bool.and_false, Bool.or_false]; rfl
        | false => rw [Bool.not_false, cond_true, Bool.and_true, Bool.or_true]; rfl) (by
    intro g
    rw [dendronlaw11_ExpectReach_s11, cnd' (by omega)]
    rfl)
  have key2 : lp dendronlaw11_ExpectReach_s11 K0 (((set : Int), ps, false, 0, ()), ((n0, s, x, y, P, ()), ((canQ 1).1.1, (canQ 1).1.2, (canQ 1).2, ()), ())) = _ := key2
  have hR := Reach_ok (l := (n0, (((false, []), []), ps))) (set := set) hz (by decide) hset (by dsimp only; omega) (by dsimp only; omega)
  dsimp only at hR
  rw [dendronlaw11_ExpectReach]
  dsimp only
  rw [key, Option.bind_some]
  dsimp only
  rw [ratio_One_ok, Option.bind_some, key2, Option.bind_some]
  dsimp only
  have hFz := hF ps.length (Nat.le_refl _)
  cases ha : anyP (badP set ps) ps.length with
  | true =>
    rw [cond_true, ratio_Zero_ok, Option.bind_some, hR, Option.bind_some, if_neg (fun h => by rw [anyP_false.2 h] at ha; cases ha), is_self SzQ.zero (by decide) SzQ.zero (by decide) rfl, Option.bind_some, cond_true, law11_awake_ok]
    rfl
  | false =>
    have hIs : dendronref10_Is (canQ (reachP set ps)) (((canQ (reachP set ps)).1.1, (canQ (reachP set ps)).1.2), (canQ (reachP set ps)).2) = some true := is_self hFz (by omega) hFz (by omega) rfl
    rw [cond_false, hR, Option.bind_some, if_pos (anyP_false.1 ha), hIs, Option.bind_some, cond_true, law11_awake_ok]
    rfl
end Go.Proofs.YtflagjfdamgknaaDoor.X

/- Route: cuts. -/
namespace Go.Proofs.YtflagjfdamgknaaDoor.X
open Go
set_option linter.unusedVariables false
set_option linter.unusedSimpArgs false

def Asc (qs : List Rat) : Prop := qs.Pairwise (· < ·)
def qcan (qs : List Rat) : List RAT := qs.map canQ
@[simp] theorem qcan_len (qs : List Rat) : (qcan qs).length = qs.length := by simp [qcan]
theorem qcan_get {qs : List Rat} {i : Nat} (h : i < qs.length) : (qcan qs)[i]? = some (canQ qs[i]) := by simp [qcan, h]
theorem Asc.le {qs : List Rat} (h : Asc qs) {i j : Nat} (hij : i ≤ j) (hj : j < qs.length) : qs[i] ≤ qs[j] := by
  by_cases e : i = j
  · subst e; exact Rat.le_refl
  · exact Rat.le_of_lt (List.pairwise_iff_getElem.1 h i j (by omega) hj (by omega))
theorem over_set {α : Type} (l : List α) (x : α) {k : Nat} (hk : k ≤ l.length) :
    (over (l ++ [x]) (k + 1) (((l ++ [x]).drop k).take ((l ++ [x]).drop (k + 1)).length)).set k x = l.take k ++ x :: l.drop k := by
  have e1 : ((l ++ [x]).drop k).take ((l ++ [x]).drop (k + 1)).length = l.drop k := by
    rw [List.length_drop, List.length_append, List.length_singleton, List.drop_append_of_le_length hk, List.take_append_of_le_length (by rw [List.length_drop]; omega), List.take_of_length_le (by rw [List.length_drop]; omega)]
  rw [e1, over]
  have e2 : (l ++ [x]).drop (k + 1 + (l.drop k).length) = [] := by
    apply List.drop_of_length_le
    rw [List.length_append, List.length_drop, List.length_singleton]; omega
  rw [e2, List.append_nil]
  have e3 : (l ++ [x]).take (k + 1) = (l ++ [x]).take k ++ [(l ++ [x])[k]'(by simp; omega)] := List.take_succ_eq_append_getElem (by simp; omega)
  rw [e3, List.take_append_of_le_length hk, List.append_assoc, List.set_append, if_neg (by rw [List.length_take]; omega), List.length_take, Nat.min_eq_left hk, Nat.sub_self]
  rfl
theorem insert_asc {qs : List Rat} (h : Asc qs) {q : Rat} {k : Nat} (hk : k ≤ qs.length) (h1 : ∀ i, i < k → (hi : i < qs.length) → qs[i] < q) (h2 : (hk : k < qs.length) → q < qs[k]) : Asc (qs.take k ++ q :: qs.drop k) := by
  unfold Asc
  rw [List.pairwise_append, List.pairwise_cons]
  refine ⟨h.take, ⟨?_, h.drop⟩, ?_⟩
  · intro x hx
    obtain ⟨j, hj, rfl⟩ := List.getElem_of_mem hx
    rw [List.length_drop] at hj
    rw [List.getElem_drop]
    have := h2 (by omega)
    have := h.le (i := k) (j := k + j) (by omega) (by omega)
    grind
  · intro a ha b hb
    obtain ⟨i, hi, rfl⟩ := List.getElem_of_mem ha
    rw [List.length_take] at hi
    rw [List.getElem_take]
    have hlt := h1 i (by omega) (by omega)
    rcases List.mem_cons.1 hb with rfl | hb
    · exact hlt
    · obtain ⟨j, hj, rfl⟩ := List.getElem_of_mem hb
      rw [List.length_drop] at hj
      rw [List.getElem_drop]
      have := h2 (by omega)
      have := h.le (i := k) (j := k + j) (by omega) (by omega)
      grind
theorem insert_mem {qs : List Rat} {q : Rat} {k : Nat} (x : Rat) : x ∈ qs.take k ++ q :: qs.drop k ↔ x = q ∨ x ∈ qs := by
  have : x ∈ qs ↔ x ∈ qs.take k ∨ x ∈ qs.drop k := by
    conv => lhs; rw [← List.take_append_drop k qs]
    exact List.mem_append
  rw [this, List.mem_append, List.mem_cons]
  constructor
  · rintro (h | h | h)
    · exact .inr (.inl h)
    · exact .inl h
    · exact .inr (.inr h)
  · rintro (h | h | h)
    · exact .inr (.inl h)
    · exact .inl h
    · exact .inr (.inr h)

theorem put_ok {qs : List Rat} {q : Rat} (h : Asc qs) (hs : ∀ x ∈ qs, SzQ x 4) (hq : SzQ q 4) (hl : qs.length ≤ 1000000) :
    ∃ qs', route_put (qcan qs) (canQ q) = some (qcan qs') ∧ Asc qs' ∧ (∀ x, x ∈ qs' ↔ x = q ∨ x ∈ qs) ∧ qs'.length ≤ qs.length + 1 := by
  have sm : ∀ {i} (hi : i < qs.length), Sm (canQ qs[i]) := fun hi => (hs _ (List.getElem_mem hi)).sm (by decide)
  have smq : Sm (canQ q) := hq.sm (by decide)
  obtain ⟨r, ⟨k, hk, rfl, h1, h2⟩, hr⟩ := lp_wf (step := route_put_s2) (fun v => ∃ k : Nat, k ≤ qs.length ∧ v = ((qcan qs, (k : Int), ()), (((canQ q).1.1, (canQ q).1.2, (canQ q).2, ()), ())) ∧ ∀ i, i < k → (hi : i < qs.length) → qs[i] < q) (fun v => qs.length - v.1.2.1.toNat)
    (fun r => ∃ k : Nat, k ≤ qs.length ∧ r = ((qcan qs, (k : Int), ()), (((canQ q).1.1, (canQ q).1.2, (canQ q).2, ()), ())) ∧ (∀ i, i < k → (hi : i < qs.length) → qs[i] < q) ∧ ((hk : k < qs.length) → ¬ qs[k] < q)) (v := ((qcan qs, 0, ()), (((canQ q).1.1, (canQ q).1.2, (canQ q).2, ()), ())))
    ⟨0, Nat.zero_le _, rfl, fun i hi => by omega⟩ (by dsimp only; omega) (by
      rintro v ⟨k, hk, rfl, h1⟩
      by_cases hlt : k < qs.length
      · have d0 : (k : Int) < ((qcan qs).length : Int) := by rw [qcan_len]; omega
        have d1 : (0 : Int) ≤ (k : Int) := by omega
        have hc : ratio_Cmp (canQ qs[k]) (((canQ q).1.1, (canQ q).1.2), (canQ q).2) = some (rcmp qs[k] q) := by
          have := ratio_Cmp_ok (sm hlt) smq
          rw [rv_canQ, rv_canQ] at this
          exact this
        by_cases hc2 : qs[k] < q
        · refine .inr ⟨((qcan qs, ((k + 1 : Nat) : Int), ()), (((canQ q).1.1, (canQ q).1.2, (canQ q).2, ()), ())), ⟨k + 1, by omega, rfl, fun i hi hi2 => ?_⟩, by dsimp only; omega, fun g => ?_⟩
          · by_cases e : i = k
            · subst e; exact hc2
            · exact h1 i (by omega) hi2
          · rw [route_put_s2, cnd d0, cnd2 d1 d0, Int.toNat_natCast, qcan_get hlt, Option.bind_some, hc, Option.bind_some, cnd (rcmp_neg.2 hc2), iadd1 (by omega)]
            rfl
        · refine .inl ⟨_, ⟨k, hk, rfl, h1, fun _ => hc2⟩, fun g => ?_⟩
          rw [route_put_s2, cnd d0, cnd2 d1 d0, Int.toNat_natCast, qcan_get hlt, Option.bind_some, hc, Option.bind_some, cnd' (fun e => hc2 (rcmp_neg.1 e))]
      · refine .inl ⟨_, ⟨k, hk, rfl, h1, fun h => absurd h hlt⟩, fun g => ?_⟩
        rw [route_put_s2, cnd' (by rw [qcan_len]; omega)])
  obtain ⟨L, eL⟩ : ∃ L, L = qcan qs ++ [canQ q] := ⟨_, rfl⟩
  have lL : L.length = qs.length + 1 := by rw [eL]; simp
  have tail : ∀ {β : Type} (a b : β), True := fun _ _ => trivial
  have ins : over L (k + 1) ((L.drop k).take (L.drop (k + 1)).length) |>.set k (canQ q) |> fun z => z = qcan (qs.take k ++ q :: qs.drop k) := by
    have := over_set (qcan qs) (canQ q) (k := k) (by rw [qcan_len]; exact hk)
    rw [← eL] at this
    show (over L (k + 1) ((L.drop k).take (L.drop (k + 1)).length)).set k (canQ q) = _
    rw [this]
    simp [qcan]
  have ins : (over L (k + 1) ((L.drop k).take (L.drop (k + 1)).length)).set k (canQ q) = qcan (qs.take k ++ q :: qs.drop k) := ins
  have lo : (over L (k + 1) ((L.drop k).take (L.drop (k + 1)).length)).length = qs.length + 1 := by
    have := congrArg List.length ins
    rw [List.length_set] at this
    rw [this]; simp; omega
  have i1 : iadd .i64 (k : Int) 1 = ((k + 1 : Nat) : Int) := iadd1 (by omega)
  have d1 : (0 : Int) ≤ (k : Int) := by omega
  have b1 : ((qcan qs).length + 1) * 56 ≤ 140737488355328 := by rw [qcan_len]; omega
  have grow : (hne : (hk : k < qs.length) → qs[k] ≠ q) → (bif Nat.ble (((qcan qs).length + 1) * 56) 140737488355328 && !false then bif decide (0 ≤ (iadd .i64 (k : Int) 1)) && decide (((iadd .i64 (k : Int) 1) : Int) ≤ (L.length : Int)) then bif decide (0 ≤ (k : Int)) && decide (((k : Int) : Int) ≤ (L.length : Int)) then bif decide (0 ≤ (k : Int)) && decide ((k : Int) < ((over L ((iadd .i64 (k : Int) 1).toNat) ((L.drop (k : Int).toNat).take (L.drop ((iadd .i64 (k : Int) 1).toNat)).length)).length : Int)) then ((over L ((iadd .i64 (k : Int) 1).toNat) ((L.drop (k : Int).toNat).take (L.drop ((iadd .i64 (k : Int) 1).toNat)).length))[(k : Int).toNat]?).bind fun _ => some ((over L ((iadd .i64 (k : Int) 1).toNat) ((L.drop (k : Int).toNat).take (L.drop ((iadd .i64 (k : Int) 1).toNat)).length)).set (k : Int).toNat (canQ q)) else none else none else none else none) = some (qcan (qs.take k ++ q :: qs.drop k)) := by
    intro _
    rw [blt b1, cond_true, i1, Int.toNat_natCast, Int.toNat_natCast, cnd2 (by omega) (by rw [lL]; omega), cnd2 d1 (by rw [lL]; omega), cnd2 d1 (by rw [lo]; omega), List.getElem?_eq_getElem (by rw [lo]; omega), Option.bind_some, ins]
  have fin : (hne : (hk : k < qs.length) → qs[k] ≠ q) → Asc (qs.take k ++ q :: qs.drop k) ∧ (∀ x, x ∈ qs.take k ++ q :: qs.drop k ↔ x = q ∨ x ∈ qs) ∧ (qs.take k ++ q :: qs.drop k).length ≤ qs.length + 1 := fun hne =>
    ⟨insert_asc h hk h1 (fun hk => by have := h2 hk; have := hne hk; grind), fun x => insert_mem x, by simp; omega⟩
  subst eL
  rw [route_put, hr, Option.bind_some]
  dsimp only
  by_cases hlt : k < qs.length
  · have d0 : (k : Int) < ((qcan qs).length : Int) := by rw [qcan_len]; omega
    have hsame : ratio_Same (canQ qs[k]) (((canQ q).1.1, (canQ q).1.2), (canQ q).2) = some (decide (qs[k] = q)) := by
      have := ratio_Same_ok (sm hlt) smq
      rw [rv_canQ, rv_canQ] at this
      exact this
    by_cases he : qs[k] = q
    · refine ⟨qs, ?_, h, fun x => ⟨.inr, ?_⟩, by omega⟩
      · rw [cnd d0, cnd2 d1 d0, Int.toNat_natCast, qcan_get hlt, Option.bind_some, hsame, decide_eq_true he]; rfl
      · rintro (rfl | hx)
        · rw [← he]; exact List.getElem_mem hlt
        · exact hx
    · obtain ⟨f1, f2, f3⟩ := fin (fun _ => he)
      refine ⟨_, ?_, f1, f2, f3⟩
      rw [cnd d0, cnd2 d1 d0, qcan_get (i := (k : Int).toNat) hlt, Option.bind_some]
      show (ratio_Same (canQ qs[k]) _).bind _ = _
      rw [hsame, decide_eq_false he, Option.bind_some, cond_false]
      exact grow (fun _ => he)
  · obtain ⟨f1, f2, f3⟩ := fin (fun h => absurd h hlt)
    refine ⟨_, ?_, f1, f2, f3⟩
    rw [cnd' (by rw [qcan_len]; omega)]
    exact grow (fun h => absurd h hlt)
end Go.Proofs.YtflagjfdamgknaaDoor.X

/- Route: cuts and steps; RouteStands. -/
namespace Go.Proofs.YtflagjfdamgknaaDoor.X
open Go
set_option linter.unusedVariables false
set_option linter.unusedSimpArgs false

/-- A split asks for a feature at a number. -/
def askN (f : Int) (x : Rat) (n : NODE) : Prop := nLeaf n = false ∧ nFeat n = f ∧ rv (nCut n) = x
def asksM (m : MODEL) (f : Int) (x : Rat) : Prop := ∃ t ∈ m.2, ∃ n ∈ t, askN f x n
structure QL (qs : List Rat) : Prop where
  asc : Asc qs
  sz : ∀ x ∈ qs, SzQ x 4

theorem cuts_inner {t : List NODE} {f : Int} {qs0 : List Rat} (hs : TSz t 4) (ht : t.length ≤ 15) (h0 : QL qs0) (hl : qs0.length ≤ 900000) (a : List (List NODE)) (b c : Int) :
    ∃ qs, lp route_Cuts_s10 K0 ((f, qcan qs0, a, b, c, t, (t.length : Int), 0, ()), ()) = some ((f, qcan qs, a, b, c, ()), ()) ∧ QL qs ∧ qs.length ≤ qs0.length + t.length ∧ ∀ x, x ∈ qs ↔ x ∈ qs0 ∨ ∃ n ∈ t, askN f x n := by
  obtain ⟨r, ⟨qs, rfl, hq⟩, hr⟩ := lp_inv (step := route_Cuts_s10) (fun i v => ∃ qs, v = ((f, qcan qs, a, b, c, t, (t.length : Int), (i : Int), ()), ()) ∧ QL qs ∧ qs.length ≤ qs0.length + i ∧ ∀ x, x ∈ qs ↔ x ∈ qs0 ∨ ∃ n ∈ t.take i, askN f x n)
    (fun r => ∃ qs, r = ((f, qcan qs, a, b, c, ()), ()) ∧ QL qs ∧ qs.length ≤ qs0.length + t.length ∧ ∀ x, x ∈ qs ↔ x ∈ qs0 ∨ ∃ n ∈ t, askN f x n) t.length (v := ((f, qcan qs0, a, b, c, t, (t.length : Int), 0, ()), ()))
    ⟨qs0, rfl, h0, by omega, by simp⟩ (by omega) (by
      rintro i v hi ⟨qs, rfl, hq, hl2, hm⟩
      have d0 : (i : Int) < ((t.length : Nat) : Int) := by omega
      have d1 : (0 : Int) ≤ (i : Int) := by omega
      have hz := hs _ (List.getElem_mem hi)
      have tk : t.take (i + 1) = t.take i ++ [t[i]] := List.take_succ_eq_append_getElem hi
      have ex : ∀ x, (∃ n ∈ t.take (i + 1), askN f x n) ↔ (∃ n ∈ t.take i, askN f x n) ∨ askN f x t[i] := by
        intro x
        rw [tk]
        constructor
        · rintro ⟨n, hn, h⟩
          rcases List.mem_append.1 hn with hn | hn
          · exact .inl ⟨n, hn, h⟩
          · rw [List.mem_singleton] at hn; subst hn; exact .inr h
        · rintro (⟨n, hn, h⟩ | h)
          · exact ⟨n, List.mem_append_left _ hn, h⟩
          · exact ⟨_, List.mem_append_right _ (List.mem_singleton.2 rfl), h⟩
      by_cases hask : nLeaf t[i] = false ∧ nFeat t[i] = f
      · obtain ⟨g1, g2⟩ := hask
        have hcl := ratio_Clean_ok (hz.1.sm (by decide))
        have hqz : SzQ (rv (nCut t[i])) 4 := hz.1.szQ (by decide)
        obtain ⟨qs', p1, p2, p3, p4⟩ := put_ok hq.asc hq.sz hqz (by omega)
        refine ⟨_, ⟨qs', rfl, ⟨p2, fun x hx => ?_⟩, by omega, fun x => ?_⟩, fun g => ?_⟩
        · rcases (p3 x).1 hx with rfl | hx
          · exact hqz
          · exact hq.sz x hx
        · rw [p3, hm, ex]
          constructor
          · rintro (h | h | h)
            · exact .inr (.inr ⟨g1, g2, h.symm⟩)
            · exact .inl h
            · exact .inr (.inl h)
          · rintro (h | h | h)
            · exact .inr (.inl h)
            · exact .inr (.inr h)
            · exact .inl h.2.2.symm
        · rw [route_Cuts_s10, cnd d0, cnd d1, Int.toNat_natCast, List.getElem?_eq_getElem hi, Option.bind_some, show (!t[i].1) = true by rw [show t[i].1 = false from g1]; rfl, cond_true, cnd g2, hcl, Option.bind_some, p1, Option.bind_some, iadd1 (by omega)]
          rfl
      · refine ⟨_, ⟨qs, rfl, hq, by omega, fun x => ?_⟩, fun g => ?_⟩
        · rw [hm, ex]
          constructor
          · rintro (h | h)
            · exact .inl h
            · exact .inr (.inl h)
          · rintro (h | h | h)
            · exact .inl h
            · exact .inr h
            · exact absurd ⟨h.1, h.2.1⟩ hask
        · rw [route_Cuts_s10, cnd d0, cnd d1, Int.toNat_natCast, List.getElem?_eq_getElem hi, Option.bind_some]
          cases hleaf : t[i].1 with
          | true => rw [Bool.not_true, cond_false, iadd1 (by omega)]; rfl
          | false =>
            have hne : ¬ t[i].2.1 = f := fun e => hask ⟨hleaf, e⟩
            rw [Bool.not_false, cond_true, cnd' hne, iadd1 (by omega)]; rfl) (by
      rintro v ⟨qs, rfl, hq, hl2, hm⟩
      rw [List.take_length] at hm
      exact ⟨_, ⟨qs, rfl, hq, hl2, hm⟩, fun g => by rw [route_Cuts_s10, cnd' (by omega)]⟩)
  exact ⟨qs, hr, hq⟩

theorem Cuts_ok {m : MODEL} {f : Int} (hg : Good m) (ms : MSz m 4) (ml : m.2.length ≤ 6) (mt : ∀ t ∈ m.2, t.length ≤ 15) (hv : valid_Ok m = some true) (h0 : 0 ≤ f) (h1 : f < m.1) :
    ∃ qs, route_Cuts m f = some (qcan qs, 0) ∧ QL qs ∧ qs.length ≤ 90 ∧ ∀ x, x ∈ qs ↔ asksM m f x := by
  obtain ⟨r, ⟨qs, rfl, hq⟩, hr⟩ := lp_inv (step := route_Cuts_s7) (fun i v => ∃ qs, v = ((f, qcan qs, m.2, (m.2.length : Int), (i : Int), ()), ()) ∧ QL qs ∧ qs.length ≤ 15 * i ∧ ∀ x, x ∈ qs ↔ ∃ t ∈ m.2.take i, ∃ n ∈ t, askN f x n)
    (fun r => ∃ qs, r = ((qcan qs, ()), ()) ∧ QL qs ∧ qs.length ≤ 90 ∧ ∀ x, x ∈ qs ↔ asksM m f x) m.2.length (v := ((f, [], m.2, (m.2.length : Int), 0, ()), ()))
    ⟨[], rfl, ⟨List.Pairwise.nil, by simp⟩, by simp, by simp⟩ (by omega) (by
      rintro i v hi ⟨qs, rfl, hq, hl2, hm⟩
      have d0 : (i : Int) < ((m.2.length : Nat) : Int) := by omega
      have d1 : (0 : Int) ≤ (i : Int) := by omega
      have ht := mt _ (List.getElem_mem hi)
      obtain ⟨qs', e1, e2, e3, e4⟩ := cuts_inner (f := f) (ms _ (List.getElem_mem hi)) ht hq (by omega) m.2 (m.2.length : Int) (i : Int)
      have tk : m.2.take (i + 1) = m.2.take i ++ [m.2[i]] := List.take_succ_eq_append_getElem hi
      refine ⟨_, ⟨qs', rfl, e2, by omega, fun x => ?_⟩, fun g => ?_⟩
      · rw [e4, hm, tk]
        constructor
        · rintro (⟨t, h, hh⟩ | h)
          · exact ⟨t, List.mem_append_left _ h, hh⟩
          · exact ⟨_, List.mem_append_right _ (List.mem_singleton.2 rfl), h⟩
        · rintro ⟨t, h, hh⟩
          rcases List.mem_append.1 h with h | h
          · exact .inl ⟨t, h, hh⟩
          · rw [List.mem_singleton] at h; subst h; exact .inr hh
      · rw [route_Cuts_s7, cnd d0, cnd d1, Int.toNat_natCast, List.getElem?_eq_getElem hi, Option.bind_some, e1, Option.bind_some, iadd1 (by omega)]
        rfl) (by
      rintro v ⟨qs, rfl, hq, hl2, hm⟩
      rw [List.take_length] at hm
      exact ⟨_, ⟨qs, rfl, hq, by omega, hm⟩, fun g => by rw [route_Cuts_s7, cnd' (by omega)]⟩)
  refine ⟨qs, ?_, hq⟩
  rw [route_Cuts, hv, Option.bind_some, Bool.not_true, cond_false, cnd' (by omega), cnd' (by omega), hr]
  rfl
/-- The steps of cuts. -/
def stepsQ : List Rat → List Rat
  | [] => [0]
  | q :: r => (q - 1) :: q :: r
theorem Steps_ok {m : MODEL} {f : Int} {qs : List Rat} (h : route_Cuts m f = some (qcan qs, 0)) (hq : QL qs) (hl : qs.length ≤ 90) : route_Steps m f = some (qcan (stepsQ qs), 0) := by
  rw [route_Steps, h, Option.bind_some]
  dsimp only
  rw [show (!decide ((0 : Int) = 0)) = false by decide, cond_false]
  cases qs with
  | nil => rw [cnd (by simp), ratio_Zero_ok]; rfl
  | cons q r =>
    have hz : SzQ q 4 := hq.sz q (List.mem_cons_self)
    have hsub := ratio_Sub_ok (hz.sm (by decide)) (SzQ.one.sm (by decide))
    rw [rv_canQ, rv_canQ] at hsub
    rw [cnd' (by simp; omega), cnd (by rw [qcan_len]; simp only [List.length_cons]; omega), show (qcan (q :: r))[0]? = some (canQ q) from rfl, Option.bind_some, ratio_One_ok, Option.bind_some, hsub, Option.bind_some, blt (by simp only [qcan_len, List.length_singleton]; omega), cond_true]
    rfl
theorem stepsQ_sz {qs : List Rat} (hq : QL qs) : ∀ x ∈ stepsQ qs, SzQ x 6 := by
  cases qs with
  | nil => intro x hx; simp only [stepsQ, List.mem_singleton] at hx; subst hx; exact SzQ.zero.mono (by decide)
  | cons q r =>
    intro x hx
    rcases List.mem_cons.1 hx with rfl | hx
    · exact ((hq.sz q List.mem_cons_self).sub SzQ.one).mono (by decide)
    · exact (hq.sz x hx).mono (by decide)
theorem Cuts_bad {m : MODEL} {f : Int} {b : Bool} (hv : valid_Ok m = some b) (h : b = true → ¬ (0 ≤ f ∧ f < m.1)) : ∃ e : Int, e ≠ 0 ∧ route_Cuts m f = some ([], e) ∧ route_Steps m f = some ([], e) ∧ (b = false → e = 1) ∧ (b = true → e = 8) := by
  have key : ∃ e : Int, e ≠ 0 ∧ route_Cuts m f = some ([], e) ∧ (b = false → e = 1) ∧ (b = true → e = 8) := by
    cases b with
    | false => exact ⟨1, by decide, by rw [route_Cuts, hv]; rfl, fun _ => rfl, (fun h => by cases h)⟩
    | true =>
      have hh := h rfl
      by_cases h1 : f < 0
      · exact ⟨8, by decide, by rw [route_Cuts, hv, Option.bind_some, Bool.not_true, cond_false, cnd h1], (fun h => by cases h), fun _ => rfl⟩
      · exact ⟨8, by decide, by rw [route_Cuts, hv, Option.bind_some, Bool.not_true, cond_false, cnd' h1, cnd (by omega)], (fun h => by cases h), fun _ => rfl⟩
  obtain ⟨e, e1, e2, e3⟩ := key
  refine ⟨e, e1, e2, ?_, e3⟩
  rw [route_Steps, e2, Option.bind_some]
  dsimp only
  rw [decide_eq_false e1]; rfl

/-- The step that stands for a number. -/
def stepOf (v : Rat) (d : Rat) : List Rat → Rat
  | [] => d
  | s :: r => stepOf v (if s ≤ v then s else d) r
theorem stepOf_take {v : Rat} (l : List Rat) (d : Rat) (i : Nat) (h : i < l.length) : stepOf v d (l.take (i + 1)) = if l[i] ≤ v then l[i] else stepOf v d (l.take i) := by
  induction l generalizing d i with
  | nil => simp at h
  | cons s r ih =>
    cases i with
    | zero => simp [stepOf]
    | succ i =>
      simp only [List.length_cons, Nat.add_lt_add_iff_right] at h
      simp only [List.take_succ_cons, stepOf, List.getElem_cons_succ]
      exact ih _ i h
theorem stepOf_mem {v d : Rat} (l : List Rat) : stepOf v d l = d ∨ stepOf v d l ∈ l := by
  induction l generalizing d with
  | nil => exact .inl rfl
  | cons s r ih =>
    simp only [stepOf]
    rcases ih (d := if s ≤ v then s else d) with h | h
    · rw [h]
      split
      · exact .inr List.mem_cons_self
      · exact .inl rfl
    · exact .inr (List.mem_cons_of_mem _ h)
/-- In a rising list: the last that is not above. -/
theorem stepOf_asc {v : Rat} : ∀ (l : List Rat) (d : Rat), l.Pairwise (· < ·) → (∀ x ∈ l, d < x) → (∀ x ∈ l, x ≤ v → x ≤ stepOf v d l) ∧ (stepOf v d l = d ∨ stepOf v d l ≤ v) ∧ d ≤ stepOf v d l := by
  intro l
  induction l with
  | nil => intro d _ _; exact ⟨(fun x h => by cases h), .inl rfl, Rat.le_refl⟩
  | cons s r ih =>
    intro d hp hd
    have hp1 := List.pairwise_cons.1 hp
    have hds := hd s List.mem_cons_self
    simp only [stepOf]
    by_cases hs : s ≤ v
    · rw [if_pos hs]
      obtain ⟨i1, i2, i3⟩ := ih s hp1.2 hp1.1
      refine ⟨fun x hx hv => ?_, .inr ?_, by grind⟩
      · rcases List.mem_cons.1 hx with rfl | hx
        · exact i3
        · exact i1 x hx hv
      · rcases i2 with h | h
        · rw [h]; exact hs
        · exact h
    · rw [if_neg hs]
      obtain ⟨i1, i2, i3⟩ := ih d hp1.2 (fun x hx => by have := hp1.1 x hx; grind)
      refine ⟨fun x hx hv => ?_, i2, i3⟩
      rcases List.mem_cons.1 hx with rfl | hx
      · exact absurd hv hs
      · exact i1 x hx hv
/-- The step goes where the number goes. -/
theorem step_goes {qs : List Rat} (h : Asc qs) (v : Rat) {c : Rat} (hc : c ∈ qs) : (stepOf v ((stepsQ qs).headD 0) (stepsQ qs) < c) ↔ v < c := by
  cases qs with
  | nil => cases hc
  | cons q r =>
    have hs : (stepsQ (q :: r)).headD 0 = q - 1 := rfl
    have e : stepOf v (q - 1) (stepsQ (q :: r)) = stepOf v (q - 1) (q :: r) := by
      simp only [stepsQ]
      rw [stepOf]
      split <;> rfl
    have hd : ∀ x ∈ q :: r, q - 1 < x := by
      intro x hx
      rcases List.mem_cons.1 hx with rfl | hx
      · grind
      · have := (List.pairwise_cons.1 h).1 x hx
        grind
    obtain ⟨i1, i2, i3⟩ := stepOf_asc (v := v) (q :: r) (q - 1) h hd
    rw [hs, e]
    constructor
    · intro hlt
      by_cases h : v < c
      · exact h
      · have := i1 c hc (Rat.not_lt.1 h)
        grind
    · intro hlt
      rcases i2 with h | h
      · rw [h]; exact hd c hc
      · grind
theorem goL_step {t : List NODE} {f : Int} {row : List CELL} {T : TR} {p : Nat} {c : CELL} (h : Is t f T) (hp : p < row.length) (hmis : row[p].1 = false) (hc : c.1 = false)
    (hgo : ∀ n ∈ t, nLeaf n = false → nFeat n = (p : Int) → ((rv c.2 < rv (nCut n)) ↔ (rv row[p].2 < rv (nCut n)))) : endT t (row.set p c) T = endT t row T := by
  induction T with
  | leaf i => rfl
  | split i l r ihl ihr =>
    obtain ⟨h1, h2, f0, f1, _, _, h5, h6⟩ := h
    have e : goL t (row.set p c) i = goL t row i := by
      unfold goL
      rw [nodeAt_get h1]
      by_cases hf : (nFeat t[i]).toNat = p
      · have hf' : nFeat t[i] = (p : Int) := by omega
        rw [hf]
        have hlt : p < (row.set p c).length := by simpa using hp
        rw [cellAt_get hlt, cellAt_get hp, List.getElem_set_self]
        unfold goes
        rw [hc, hmis]
        simp only [Bool.false_eq_true, if_false]
        have := hgo _ (List.getElem_mem h1) h2 hf'
        by_cases h : rv c.2 < rv (nCut t[i])
        · rw [decide_eq_true h, decide_eq_true (this.1 h)]
        · rw [decide_eq_false h, decide_eq_false (fun e => h (this.2 e))]
      · congr 1
        unfold cellAt
        rw [List.getElem?_set_ne (fun e => hf e.symm)]
    simp only [endT, e]
    split
    · exact ihl h5
    · exact ihr h6
end Go.Proofs.YtflagjfdamgknaaDoor.X

/- Route: RouteStands. -/
namespace Go.Proofs.YtflagjfdamgknaaDoor.X
open Go
set_option linter.unusedVariables false
set_option linter.unusedSimpArgs false

theorem stepsQ_ne (qs : List Rat) : 0 < (stepsQ qs).length := by cases qs <;> simp [stepsQ]
theorem stepsQ_len (qs : List Rat) : (stepsQ qs).length ≤ qs.length + 1 := by cases qs <;> simp [stepsQ]
theorem RouteStands_true (m0 : MODEL) (row0 : List CELL) (f : Int) (hl : m0.2.length ≤ 9223372036854775807) (ht : ∀ t ∈ m0.2, t.length ≤ 9223372036854775807) (hr : row0.length ≤ 9223372036854775807) : dendronlaw10_RouteStands m0 row0 f = some true := by
  have hf := Few07_ok m0 hl ht
  have ms := cutM_sz m0
  have ml := cutM_len m0
  have mt := cutM_tlen m0
  obtain ⟨m, em⟩ : ∃ m, m = cutM m0 := ⟨_, rfl⟩
  rw [← em] at hf ms ml mt
  have h9 := Few09_ok row0 70 hr (by decide)
  have cs := cutRow_sz (row0.take 70)
  have rl : ((row0.take 70).map cutCell).length ≤ 70 := by simp; omega
  obtain ⟨row, er⟩ : ∃ row, row = (row0.take 70).map cutCell := ⟨_, rfl⟩
  rw [← er] at h9 cs rl
  have h9 : dendronlaw09_Few row0 70 = some row := h9
  obtain ⟨b, hv, hb⟩ := Ok_ok (m := m) (k := 4) (by omega) (fun t h => by have := mt t h; omega) ms (by decide)
  have aw : dendronlaw10_awake.bind (fun r => some r) = some true := by rw [law10_awake_ok]; rfl
  rw [dendronlaw10_RouteStands, hf, Option.bind_some, h9, Option.bind_some]
  by_cases hok : b = true ∧ 0 ≤ f ∧ f < m.1
  · obtain ⟨hbt, f0, f1⟩ := hok
    subst hbt
    have hg := hb.1 rfl
    obtain ⟨qs, hc, hq, hql, hmem⟩ := Cuts_ok hg ms ml mt hv f0 f1
    have hst := Steps_ok hc hq hql
    have hsz := stepsQ_sz hq
    have hne := stepsQ_ne qs
    have hln := stepsQ_len qs
    have z0 : (!decide ((0 : Int) = 0)) = false := by decide
    rw [hst, Option.bind_some]
    dsimp only
    rw [z0, cond_false]
    by_cases hlen : (row.length : Int) = m.1
    · obtain ⟨p, rfl⟩ := Int.eq_ofNat_of_zero_le f0
      have hp : p < row.length := by omega
      have d0 : (p : Int) < (row.length : Int) := by omega
      have d1 : (0 : Int) ≤ (p : Int) := by omega
      rw [decide_eq_true hlen, Bool.not_true, cond_false, cnd' (by omega), cnd' (by omega), cnd2 d1 d0, Int.toNat_natCast, List.getElem?_eq_getElem hp, Option.bind_some]
      cases hmis : row[p].1 with
      | true => rw [cond_true, aw]
      | false =>
        have hcell : SzR row[p].2 9 := cs _ (List.getElem_mem hp)
        obtain ⟨v, ev⟩ : ∃ v, v = rv row[p].2 := ⟨_, rfl⟩
        obtain ⟨S, eS⟩ : ∃ S, S = stepsQ qs := ⟨_, rfl⟩
        rw [← eS] at hsz hne hln ⊢
        obtain ⟨d, ed⟩ : ∃ d, d = S.headD 0 := ⟨_, rfl⟩
        have hS0 : (qcan S)[0]? = some (canQ d) := by
          rw [qcan_get hne, ed]
          cases S with
          | nil => simp at hne
          | cons s r => rfl
        have hdm : d ∈ S := by
          rw [ed]
          cases S with
          | nil => simp at hne
          | cons s r => exact List.mem_cons_self
        have key := lp_up (step := dendronlaw10_RouteStands_s10) (fun i => ((row, (p : Int), qcan S, (i : Int), ()), ((m.1, m.2, ()), ((canQ (stepOf v d (S.take i))).1.1, (canQ (stepOf v d (S.take i))).1.2, (canQ (stepOf v d (S.take i))).2, ()), ()))) S.length (by omega) (by
          intro g i hi
          have e0 : (i : Int) < ((qcan S).length : Int) := by rw [qcan_len]; omega
          have e1 : (0 : Int) ≤ (i : Int) := by omega
          have hcmp := ratio_Cmp_ok (a := canQ S[i]) (b := row[p].2) ((hsz _ (List.getElem_mem hi)).sm (by decide)) (hcell.sm (by decide))
          rw [rv_canQ, ← ev] at hcmp
          rw [dendronlaw10_RouteStands_s10, cnd e0, cnd2 e1 e0, Int.toNat_natCast, qcan_get hi, Option.bind_some, cnd2 d1 d0, Int.toNat_natCast, List.getElem?_eq_getElem hp, Option.bind_some, hcmp, Option.bind_some, stepOf_take S d i hi]
          by_cases hle : S[i] ≤ v
          · rw [cnd (rcmp_le.2 hle), cnd2 e1 e0, Option.bind_some, iadd1 (by omega), if_pos hle]
            rfl
          · rw [cnd' (fun e => hle (rcmp_le.1 e)), iadd1 (by omega), if_neg hle]
            rfl) (by
          intro g
          rw [dendronlaw10_RouteStands_s10, cnd' (by rw [qcan_len]; omega), List.take_length])
        have key : lp dendronlaw10_RouteStands_s10 K0 ((row, (p : Int), qcan S, 0, ()), ((m.1, m.2, ()), ((canQ d).1.1, (canQ d).1.2, (canQ d).2, ()), ())) = _ := key
        obtain ⟨st, est⟩ : ∃ st, st = stepOf v d S := ⟨_, rfl⟩
        rw [← est] at key
        have hstm : st ∈ S := by
          rcases stepOf_mem (v := v) (d := d) S with h | h
          · rw [est, h]; exact hdm
          · rw [est]; exact h
        have hstz := hsz _ hstm
        have ha : Askd m row := ⟨hg, hlen, ms, ml, mt, cs⟩
        have ha2 : Askd m (row.set p (false, canQ st)) := ⟨hg, by rw [List.length_set]; exact hlen, ms, ml, mt, by
          intro c hc
          rcases List.mem_or_eq_of_mem_set hc with hc | hc
          · exact cs c hc
          · subst hc
            exact (hstz.mono (m := 9) (by decide)).szR⟩
        have p1 := Predict_ok ha
        have p2 := Predict_ok ha2
        have same : predM m (row.set p (false, canQ st)) = predM m row := by
          apply rsum_congr
          intro i hi
          obtain ⟨t1, t2, t3, t4, t5⟩ := ha.tree hi
          rw [t5] at t2 ⊢
          unfold predT
          rw [goL_step t2 hp hmis rfl]
          intro n hn g1 g2
          have hcm : rv (nCut n) ∈ qs := (hmem _).2 ⟨_, List.getElem_mem hi, n, hn, g1, g2, rfl⟩
          have := step_goes hq.asc v hcm
          rw [← eS, ← ed, ← est] at this
          show rv (canQ st) < _ ↔ _
          rw [rv_canQ, ← ev]
          exact this
        have hpz : SzQ (predM m row) (1 + m.2.length * 5) := predM_sz (row := row) hg ms (n := m.2.length) (Nat.le_refl _)
        have hsame := ratio_Same_ok (hpz.sm (by omega)) (hpz.sm (by omega))
        rw [cond_false, cnd' (by rw [qcan_len]; omega), cnd (by rw [qcan_len]; omega), hS0, Option.bind_some, key, Option.bind_some]
        dsimp only
        have bb : Nat.ble (((([] : List CELL)).length + row.length) * 64) 140737488355328 = true := by
          rw [Nat.ble_eq]; simp; omega
        rw [bb, Bool.true_and, Bool.not_false, cond_true, List.nil_append, cnd2 d1 d0, Int.toNat_natCast, List.getElem?_eq_getElem hp, Option.bind_some, p1, Option.bind_some]
        have p2' : route_Predict (m.1, m.2) (row.set p (false, ((canQ st).1.1, (canQ st).1.2), (canQ st).2)) = some (canQ (predM m row), 0) := by rw [← same]; exact p2
        rw [p2', Option.bind_some, cnd rfl, cnd rfl, hsame, Option.bind_some, decide_eq_true rfl, cond_true, aw]
    · rw [decide_eq_false hlen, Bool.not_false, cond_true, aw]
  · obtain ⟨e, e1, _, e2, _⟩ := Cuts_bad (m := m) (f := f) hv (fun h hh => hok ⟨h, hh⟩)
    rw [e2, Option.bind_some]
    dsimp only
    rw [decide_eq_false e1, Bool.not_false, cond_true, aw]
end Go.Proofs.YtflagjfdamgknaaDoor.X

/- Route: RouteCuts. -/
namespace Go.Proofs.YtflagjfdamgknaaDoor.X
open Go
set_option linter.unusedVariables false
set_option linter.unusedSimpArgs false

theorem has_ok {qs : List Rat} {x : RAT} (hs : ∀ y ∈ qs, SzQ y 4) (hx : Sm x) (hm : rv x ∈ qs) (hl : qs.length ≤ 1000000) : dendronlaw10_has (qcan qs) x = some true := by
  obtain ⟨j, hj, ej⟩ := List.getElem_of_mem hm
  have hc : ∀ i, (hi : i < qs.length) → ratio_Same (canQ qs[i]) ((x.1.1, x.1.2), x.2) = some (decide (qs[i] = rv x)) := fun i hi => by
    have := ratio_Same_ok (a := canQ qs[i]) (b := x) ((hs _ (List.getElem_mem hi)).sm (by decide)) hx
    rw [rv_canQ] at this
    exact this
  rcases lp_all (step := dendronlaw10_has_s2) (fun i => ((qcan qs, (i : Int), ()), ((x.1.1, x.1.2, x.2, ()), ()))) qs.length (fun i => (hi : i < qs.length) → qs[i] ≠ rv x) (fun _ => .inr ((true, ()), ())) (.inl ((), ())) (by omega) (by
      intro i hi
      have d0 : (i : Int) < ((qcan qs).length : Int) := by rw [qcan_len]; omega
      have d1 : (0 : Int) ≤ (i : Int) := by omega
      by_cases h : qs[i] = rv x
      · refine .inr ⟨fun hh => hh hi h, fun g => ?_⟩
        rw [dendronlaw10_has_s2, cnd d0, cnd d1, Int.toNat_natCast, qcan_get hi, Option.bind_some, hc i hi, Option.bind_some, decide_eq_true h, cond_true]
      · refine .inl ⟨fun _ => h, fun g => ?_⟩
        rw [dendronlaw10_has_s2, cnd d0, cnd d1, Int.toNat_natCast, qcan_get hi, Option.bind_some, hc i hi, Option.bind_some, decide_eq_false h, cond_false, iadd1 (by omega)]
        rfl) (by
      intro g
      rw [dendronlaw10_has_s2, cnd' (by rw [qcan_len]; omega)]) with ⟨h, hlp⟩ | ⟨i, hi, h, hlp⟩
  · exact absurd ej (h j hj hj)
  · have hlp : lp dendronlaw10_has_s2 K0 ((qcan qs, 0, ()), ((x.1.1, x.1.2, x.2, ()), ())) = _ := hlp
    rw [dendronlaw10_has, hlp]; rfl

theorem asked_inner {m : MODEL} {f : Int} {x : RAT} {i : Nat} (hi : i < m.2.length) (hs : TSz m.2[i] 4) (ht : m.2[i].length ≤ 15) (hx : Sm x) :
    ((∀ n ∈ m.2[i], ¬ askN f (rv x) n) ∧ lp dendronlaw10_asked_s5 K0 ((f, (i : Int), 0, ()), ((m.1, m.2, ()), (x.1.1, x.1.2, x.2, ()), ())) = some (.inl ((f, (i : Int), ()), ((m.1, m.2, ()), (x.1.1, x.1.2, x.2, ()), ())))) ∨
    ((¬ ∀ n ∈ m.2[i], ¬ askN f (rv x) n) ∧ lp dendronlaw10_asked_s5 K0 ((f, (i : Int), 0, ()), ((m.1, m.2, ()), (x.1.1, x.1.2, x.2, ()), ())) = some (.inr ((true, ()), ()))) := by
  have d0 : (0 : Int) ≤ (i : Int) := by omega
  rcases lp_all (step := dendronlaw10_asked_s5) (fun k => ((f, (i : Int), (k : Int), ()), ((m.1, m.2, ()), (x.1.1, x.1.2, x.2, ()), ()))) m.2[i].length (fun k => (hk : k < m.2[i].length) → ¬ askN f (rv x) m.2[i][k]) (fun _ => .inr ((true, ()), ())) (.inl ((f, (i : Int), ()), ((m.1, m.2, ()), (x.1.1, x.1.2, x.2, ()), ()))) (by omega) (by
      intro k hk
      have d1 : (k : Int) < ((m.2[i].length : Nat) : Int) := by omega
      have d2 : (0 : Int) ≤ (k : Int) := by omega
      have hz := hs _ (List.getElem_mem hk)
      have hc : ratio_Same (nCut m.2[i][k]) ((x.1.1, x.1.2), x.2) = some (decide (rv (nCut m.2[i][k]) = rv x)) := ratio_Same_ok (hz.1.sm (by decide)) hx
      have head : ∀ g, dendronlaw10_asked_s5 g ((f, (i : Int), (k : Int), ()), ((m.1, m.2, ()), (x.1.1, x.1.2, x.2, ()), ())) = bif (!nLeaf m.2[i][k]) then (bif (decide (nFeat m.2[i][k] = f)) then ((ratio_Same (nCut m.2[i][k]) ((x.1.1, x.1.2), x.2)).bind fun r4 => bif r4 then (some (.inr ((true, ()), ()))) else (g ((f, (i : Int), ((k + 1 : Nat) : Int), ()), ((m.1, m.2, ()), (x.1.1, x.1.2, x.2, ()), ())))) else (g ((f, (i : Int), ((k + 1 : Nat) : Int), ()), ((m.1, m.2, ()), (x.1.1, x.1.2, x.2, ()), ())))) else (g ((f, (i : Int), ((k + 1 : Nat) : Int), ()), ((m.1, m.2, ()), (x.1.1, x.1.2, x.2, ()), ()))) := by
        intro g
        rw [dendronlaw10_asked_s5, cnd d0, Int.toNat_natCast, List.getElem?_eq_getElem hi, Option.bind_some, cnd d1, cnd d0, Option.bind_some, cnd d2, Int.toNat_natCast, List.getElem?_eq_getElem hk, Option.bind_some, iadd1 (by omega)]
        rfl
      by_cases h1 : nLeaf m.2[i][k] = false
      · by_cases h2 : nFeat m.2[i][k] = f
        · by_cases h3 : rv (nCut m.2[i][k]) = rv x
          · exact .inr ⟨fun h => h hk ⟨h1, h2, h3⟩, fun g => by rw [head, h1, Bool.not_false, cond_true, cnd h2, hc, Option.bind_some, decide_eq_true h3, cond_true]⟩
          · exact .inl ⟨fun _ h => h3 h.2.2, fun g => by rw [head, h1, Bool.not_false, cond_true, cnd h2, hc, Option.bind_some, decide_eq_false h3, cond_false]⟩
        · exact .inl ⟨fun _ h => h2 h.2.1, fun g => by rw [head, h1, Bool.not_false, cond_true, cnd' h2]⟩
      · have h1' : nLeaf m.2[i][k] = true := by simpa using h1
        exact .inl ⟨fun _ h => h1 h.1, fun g => by rw [head, h1', Bool.not_true, cond_false]⟩) (by
      intro g
      rw [dendronlaw10_asked_s5, cnd d0, Int.toNat_natCast, List.getElem?_eq_getElem hi, Option.bind_some, cnd' (by omega)]) with ⟨h, hlp⟩ | ⟨k, hk, h, hlp⟩
  · refine .inl ⟨fun n hn => ?_, hlp⟩
    obtain ⟨k, hk, rfl⟩ := List.getElem_of_mem hn
    exact h k hk hk
  · exact .inr ⟨fun hh => h (fun hk => hh _ (List.getElem_mem hk)), hlp⟩
theorem asked_ok {m : MODEL} {f : Int} {x : RAT} (ms : MSz m 4) (ml : m.2.length ≤ 6) (mt : ∀ t ∈ m.2, t.length ≤ 15) (hx : Sm x) (ha : asksM m f (rv x)) : dendronlaw10_asked m f x = some true := by
  obtain ⟨t, ht, n, hn, hask⟩ := ha
  obtain ⟨j, hj, rfl⟩ := List.getElem_of_mem ht
  rcases lp_all (step := dendronlaw10_asked_s2) (fun i => ((f, (i : Int), ()), ((m.1, m.2, ()), (x.1.1, x.1.2, x.2, ()), ()))) m.2.length (fun i => (hi : i < m.2.length) → ∀ n ∈ m.2[i], ¬ askN f (rv x) n) (fun _ => .inr ((true, ()), ())) (.inl ((), ())) (by omega) (by
      intro i hi
      have d0 : (i : Int) < ((m.2.length : Nat) : Int) := by omega
      rcases asked_inner (f := f) hi (ms _ (List.getElem_mem hi)) (mt _ (List.getElem_mem hi)) hx with ⟨h1, h2⟩ | ⟨h1, h2⟩
      · refine .inl ⟨fun _ => h1, fun g => ?_⟩
        rw [dendronlaw10_asked_s2, cnd d0, h2, Option.bind_some]
        dsimp only
        rw [iadd1 (by omega)]
        rfl
      · refine .inr ⟨fun h => h1 (h hi), fun g => ?_⟩
        rw [dendronlaw10_asked_s2, cnd d0, h2, Option.bind_some]) (by
      intro g
      rw [dendronlaw10_asked_s2, cnd' (by omega)]) with ⟨h, hlp⟩ | ⟨i, hi, h, hlp⟩
  · exact absurd hask (h j hj hj n hn)
  · have hlp : lp dendronlaw10_asked_s2 K0 ((f, 0, ()), ((m.1, m.2, ()), (x.1.1, x.1.2, x.2, ()), ())) = _ := hlp
    rw [dendronlaw10_asked, hlp]; rfl

theorem cuts22_ok {m : MODEL} {f : Int} {qs : List Rat} {w : List RAT} {i : Nat} (hi : i < m.2.length) (ms : MSz m 4) (mt : ∀ t ∈ m.2, t.length ≤ 15) (hs : ∀ y ∈ qs, SzQ y 4) (hl : qs.length ≤ 1000000) (hm : ∀ x, asksM m f x → x ∈ qs) (hi2 : i < 1000000) :
    lp dendronlaw10_RouteCuts_s22 K0 ((f, qcan qs, w, (i : Int), 0, ()), ((m.1, m.2, ()), ())) = some (.inl ((f, qcan qs, w, (i : Int), ()), ((m.1, m.2, ()), ()))) := by
  have d0 : (0 : Int) ≤ (i : Int) := by omega
  have ht := mt _ (List.getElem_mem hi)
  exact lp_up (step := dendronlaw10_RouteCuts_s22) (fun k => ((f, qcan qs, w, (i : Int), (k : Int), ()), ((m.1, m.2, ()), ()))) m.2[i].length (by omega) (by
    intro g k hk
    have d1 : (k : Int) < ((m.2[i].length : Nat) : Int) := by omega
    have d2 : (0 : Int) ≤ (k : Int) := by omega
    have hz := ms _ (List.getElem_mem hi) _ (List.getElem_mem hk)
    rw [dendronlaw10_RouteCuts_s22, cnd d0, Int.toNat_natCast, List.getElem?_eq_getElem hi, Option.bind_some, cnd d1, cnd d0, Option.bind_some, cnd d2, Int.toNat_natCast, List.getElem?_eq_getElem hk, Option.bind_some, iadd1 (by omega)]
    cases h1 : m.2[i][k].1 with
    | true => rw [Bool.not_true, cond_false]; rfl
    | false =>
      rw [Bool.not_false, cond_true]
      by_cases h2 : m.2[i][k].2.1 = f
      · have hh := has_ok (x := m.2[i][k].2.2.1) hs (hz.1.sm (by decide)) (hm _ ⟨_, List.getElem_mem hi, _, List.getElem_mem hk, h1, h2, rfl⟩) hl
        rw [cnd h2, hh, Option.bind_some, Bool.not_true, cond_false]; rfl
      · rw [cnd' h2]; rfl) (by
    intro g
    rw [dendronlaw10_RouteCuts_s22, cnd d0, Int.toNat_natCast, List.getElem?_eq_getElem hi, Option.bind_some, cnd' (by omega)])

theorem RouteCuts_true (m0 : MODEL) (f : Int) (hl : m0.2.length ≤ 9223372036854775807) (ht : ∀ t ∈ m0.2, t.length ≤ 9223372036854775807) : dendronlaw10_RouteCuts m0 f = some true := by
  have hf := Few07_ok m0 hl ht
  have ms := cutM_sz m0
  have ml := cutM_len m0
  have mt := cutM_tlen m0
  obtain ⟨m, em⟩ : ∃ m, m = cutM m0 := ⟨_, rfl⟩
  rw [← em] at hf ms ml mt
  obtain ⟨b, hv, hb⟩ := Ok_ok (m := m) (k := 4) (by omega) (fun t h => by have := mt t h; omega) ms (by decide)
  have aw : dendronlaw10_awake.bind (fun r => some r) = some true := by rw [law10_awake_ok]; rfl
  have z0 : (!decide ((0 : Int) = 0)) = false := by decide
  rw [dendronlaw10_RouteCuts, hf, Option.bind_some]
  by_cases hok : b = true ∧ 0 ≤ f ∧ f < m.1
  · obtain ⟨hbt, f0, f1⟩ := hok
    subst hbt
    have hg := hb.1 rfl
    obtain ⟨qs, hc, hq, hql, hmem⟩ := Cuts_ok hg ms ml mt hv f0 f1
    have hst := Steps_ok hc hq hql
    have hsz := stepsQ_sz hq
    obtain ⟨W, eW⟩ : ∃ W, W = qcan (stepsQ qs) := ⟨_, rfl⟩
    rw [← eW] at hst
    have key14 := lp_up (step := dendronlaw10_RouteCuts_s14) (fun i => ((f, qcan qs, W, (i : Int), ()), ((m.1, m.2, ()), ()))) qs.length (r := .inl ((f, qcan qs, W, ()), ((m.1, m.2, ()), ()))) (by omega) (by
      intro g i hi
      have d0 : (i : Int) < ((qcan qs).length : Int) := by rw [qcan_len]; omega
      have d1 : (0 : Int) ≤ (i : Int) := by omega
      have hz := hq.sz _ (List.getElem_mem hi)
      have hR := ratio_Right_ok (hz.sm (by decide))
      have hA := asked_ok (f := f) (x := canQ qs[i]) ms ml mt (hz.sm (by decide)) (by rw [rv_canQ]; exact (hmem _).1 (List.getElem_mem hi))
      have hA : dendronlaw10_asked (m.1, m.2) f (canQ qs[i]) = some true := hA
      rw [dendronlaw10_RouteCuts_s14, cnd d0, cnd2 d1 d0, Int.toNat_natCast, qcan_get hi, Option.bind_some, hR, Option.bind_some, Bool.not_true, cond_false]
      by_cases h0 : (i : Int) > 0
      · have hi' : i - 1 < qs.length := by omega
        have i1 : isub .i64 (i : Int) 1 = ((i - 1 : Nat) : Int) := by rw [isub_i] <;> omega
        have hz' := hq.sz _ (List.getElem_mem hi')
        have hcmp := ratio_Cmp_ok (a := canQ qs[i - 1]) (b := canQ qs[i]) (hz'.sm (by decide)) (hz.sm (by decide))
        rw [rv_canQ, rv_canQ] at hcmp
        have hlt : qs[i - 1] < qs[i] := List.pairwise_iff_getElem.1 hq.asc (i - 1) i hi' hi (by omega)
        have hneg := rcmp_neg.2 hlt
        rw [cnd h0, i1, cnd2 (by omega) (by rw [qcan_len]; omega), Int.toNat_natCast, qcan_get hi', Option.bind_some, cnd2 d1 d0, Option.bind_some, hcmp, Option.bind_some, cnd' (by omega), cnd2 d1 d0, Option.bind_some, hA, Option.bind_some, Bool.not_true, cond_false, iadd1 (by omega)]
        rfl
      · rw [cnd' h0, cnd2 d1 d0, Option.bind_some, hA, Option.bind_some, Bool.not_true, cond_false, iadd1 (by omega)]
        rfl) (by
      intro g
      rw [dendronlaw10_RouteCuts_s14, cnd' (by rw [qcan_len]; omega)])
    have key14 : lp dendronlaw10_RouteCuts_s14 K0 ((f, qcan qs, W, 0, ()), ((m.1, m.2, ()), ())) = _ := key14
    have key19 := lp_up (step := dendronlaw10_RouteCuts_s19) (fun i => ((f, qcan qs, W, (i : Int), ()), ((m.1, m.2, ()), ()))) m.2.length (r := .inl ((qcan qs, W, ()), ())) (by omega) (by
      intro g i hi
      have d0 : (i : Int) < ((m.2.length : Nat) : Int) := by omega
      rw [dendronlaw10_RouteCuts_s19, cnd d0, cuts22_ok hi ms mt hq.sz (by omega) (fun x hx => (hmem x).2 hx) (by omega), Option.bind_some]
      dsimp only
      rw [iadd1 (by omega)]
      rfl) (by
      intro g
      rw [dendronlaw10_RouteCuts_s19, cnd' (by omega)])
    have key19 : lp dendronlaw10_RouteCuts_s19 K0 ((f, qcan qs, W, 0, ()), ((m.1, m.2, ()), ())) = _ := key19
    rw [hc, Option.bind_some, hst, Option.bind_some, hv, Option.bind_some, Bool.not_true, cond_false, cnd' (by omega), cnd' (by omega), z0, cond_false]
    dsimp only
    rw [cond_false, cond_false, key14, Option.bind_some]
    dsimp only
    rw [key19, Option.bind_some]
    dsimp only
    cases qs with
    | nil =>
      subst eW
      rw [cnd (by rfl), cnd (by rfl), cnd (by decide), show (qcan (stepsQ []))[0]? = some (canQ 0) from rfl, Option.bind_some, ratio_Zero_ok, Option.bind_some, is_self SzQ.zero (by decide) SzQ.zero (by decide) rfl, Option.bind_some, cond_true, aw]
    | cons q r =>
      have hz : SzQ q 4 := hq.sz q List.mem_cons_self
      have hz1 : SzQ (q - 1) 6 := (hz.sub SzQ.one).mono (by decide)
      have hsub := ratio_Sub_ok (hz.sm (by decide)) (SzQ.one.sm (by decide))
      rw [rv_canQ, rv_canQ] at hsub
      have lW : W.length = (qcan (q :: r)).length + 1 := by rw [eW]; simp [stepsQ]
      have lq : (qcan (q :: r)).length = r.length + 1 := by simp
      have lr : r.length + 1 ≤ 90 := hql
      have hW : ∀ i, (hi : i < (q :: r).length) → W[i + 1]? = some (canQ (q :: r)[i]) := by
        intro i hi
        rw [eW]
        show (canQ (q - 1) :: qcan (q :: r))[i + 1]? = _
        rw [List.getElem?_cons_succ]
        exact qcan_get hi
      have key32 := lp_up (step := dendronlaw10_RouteCuts_s32) (fun i => ((qcan (q :: r), W, (i : Int), ()), ())) (q :: r).length (r := .inl ((), ())) (by simp only [List.length_cons]; omega) (by
        intro g i hi
        have hi2 : i < r.length + 1 := hi
        have d0 : (i : Int) < ((qcan (q :: r)).length : Int) := by omega
        have d1 : (0 : Int) ≤ (i : Int) := by omega
        have i1 : iadd .i64 (i : Int) 1 = ((i + 1 : Nat) : Int) := iadd1 (by omega)
        have hz := hq.sz _ (List.getElem_mem hi)
        rw [dendronlaw10_RouteCuts_s32, cnd d0, i1, cnd2 (by omega) (by omega), Int.toNat_natCast, hW i hi, Option.bind_some, cnd d1, Int.toNat_natCast, qcan_get hi, Option.bind_some, is_self hz (by decide) hz (by decide) rfl, Option.bind_some, Bool.not_true, cond_false]) (by
        intro g
        rw [dendronlaw10_RouteCuts_s32, cnd' (by rw [qcan_len]; omega)])
      have key32 : lp dendronlaw10_RouteCuts_s32 K0 ((qcan (q :: r), W, 0, ()), ()) = _ := key32
      have i2 : iadd .i64 ((qcan (q :: r)).length : Int) 1 = ((qcan (q :: r)).length : Int) + 1 := by rw [iadd_i] <;> omega
      have hW0 : W[0]? = some (canQ (q - 1)) := by rw [eW]; rfl
      rw [cnd' (by omega), i2, decide_eq_true (by omega), Bool.not_true, cond_false, cnd (by omega), hW0, Option.bind_some, show (qcan (q :: r))[0]? = some (canQ q) from rfl, Option.bind_some, ratio_One_ok, Option.bind_some, hsub, Option.bind_some, is_self hz1 (by decide) hz1 (by decide) rfl, Option.bind_some, Bool.not_true, cond_false, key32, Option.bind_some]
      exact aw
  · obtain ⟨e, e1, e2, e3, e4, e5⟩ := Cuts_bad (m := m) (f := f) hv (fun h hh => hok ⟨h, hh⟩)
    rw [e2, Option.bind_some, e3, Option.bind_some, hv, Option.bind_some]
    dsimp only
    have z1 : decide (iadd .i64 ((([] : List RAT).length : Nat) : Int) ((([] : List RAT).length : Nat) : Int) = 0) = true := by decide
    cases b with
    | false =>
      have := e4 rfl
      subst this
      rw [Bool.not_false, cond_true, show (!decide ((1 : Int) = 0)) = true by decide, cond_true, z1, cond_true, cnd rfl, cnd rfl, aw]
    | true =>
      have := e5 rfl
      subst this
      have z8 : (!decide ((8 : Int) = 0)) = true := by decide
      rw [Bool.not_true, cond_false]
      by_cases hneg : f < 0
      · rw [cnd hneg, z8, cond_true, z1, cond_true, cnd rfl, cnd rfl, aw]
      · have hge : f ≥ m.1 := by
          rcases Int.lt_or_le f m.1 with h | h
          · exact absurd ⟨rfl, by omega, h⟩ hok
          · exact h
        rw [cnd' hneg, cnd hge, z8, cond_true, z1, cond_true, cnd rfl, cnd rfl, aw]
end Go.Proofs.YtflagjfdamgknaaDoor.X

