/- Own work: part of the proof; the first line of each part says what it tells. -/
import Derived.Test.YtjjgbpeapgmhoaaGreatDoorLa7


namespace Go.Proofs.YtjjgbpeapgmhoaaGreatDoor.X
open Go
set_option linter.unusedVariables false
set_option linter.unusedSimpArgs false
theorem rMinus_ok {a b : List Int} (ha : Dig a) (hb : Dig b) (hl : a.length < 4398046511104) (hle : dd b ≤ dd a) : dendronref01_Minus a b = some (digs (dd a - dd b)) := by
 obtain ⟨r, ⟨p, rfl, hp, hpl, hpn⟩, hlp⟩ := lp_inv (step := dendronref01_Minus_s4) (fun i v => ∃ (p : List Int) (d : Nat), v = ((a, b, p, (d : Int), (i : Int), ()), ()) ∧ p.length = i ∧ Dig p ∧ d ≤ 1 ∧ dd p + dd (b.take i) = dd (a.take i) + 10000 ^ i * d)
  (fun r => ∃ p, r = ((p, ()), ()) ∧ p.length = a.length ∧ Dig p ∧ dd p = dd a - dd b) a.length (v := ((a, b, [], 0, 0, ()), ()))
  ⟨[], 0, rfl, rfl, Dig.nil, by omega, by simp⟩ (by omega) (by
   rintro i v hi ⟨p, d, rfl, hp, hpl, hd, hs⟩
   have b1 := ha.at hi
   have b2 := lget_dig hb i
   have q1 : isub .i64 (isub .i64 a[i] (lget b i)) (d : Int) = a[i] - lget b i - d := by
     have : isub .i64 a[i] (lget b i) = a[i] - lget b i := by rw [isub_i] <;> omega
     rw [this, isub_i] <;> omega
   have c0 : (i : Int) < ((a.length : Nat) : Int) := by omega
   have c1 : (0 : Int) ≤ (i : Int) := by omega
   by_cases hneg : a[i] - lget b i - d < 0
   · have q2 : iadd .i64 (a[i] - lget b i - d) 10000 = a[i] - lget b i - d + 10000 := by rw [iadd_i] <;> omega
     refine ⟨((a, b, p ++ [a[i] - lget b i - d + 10000], ((1 : Nat) : Int), ((i + 1 : Nat) : Int), ()), ()), ⟨_, 1, rfl, by simp [hp], Dig.append hpl (Dig.cons (by omega) Dig.nil), by omega, ?_⟩, fun g => ?_⟩
     · rw [dd_append, hp, dd_take_lget, dnnt hi, dd_one _ (by omega), Nat.pow_succ]
       have k1 : (a[i] - lget b i - d + 10000).toNat + (lget b i % 10000).toNat + d = (a[i] % 10000).toNat + 10000 * 1 := by omega
       have k2 : 10000 ^ i * ((a[i] - lget b i - d + 10000).toNat + (lget b i % 10000).toNat + d) = 10000 ^ i * ((a[i] % 10000).toNat + 10000 * 1) := by rw [k1]
       grind
     · rw [dendronref01_Minus_s4, cnd c0, cnd c1, Int.toNat_natCast, List.getElem?_eq_getElem hi, Option.bind_some, rdigit_ok, Option.bind_some, q1, cnd hneg, blt (by omega), cond_true, q2, iadd1 (by omega)]
       rfl
   · refine ⟨((a, b, p ++ [a[i] - lget b i - d], ((0 : Nat) : Int), ((i + 1 : Nat) : Int), ()), ()), ⟨_, 0, rfl, by simp [hp], Dig.append hpl (Dig.cons (by omega) Dig.nil), by omega, ?_⟩, fun g => ?_⟩
     · rw [dd_append, hp, dd_take_lget, dnnt hi, dd_one _ (by omega), Nat.pow_succ]
       have k1 : (a[i] - lget b i - d).toNat + (lget b i % 10000).toNat + d = (a[i] % 10000).toNat := by omega
       have k2 : 10000 ^ i * ((a[i] - lget b i - d).toNat + (lget b i % 10000).toNat + d) = 10000 ^ i * ((a[i] % 10000).toNat) := by rw [k1]
       grind
     · rw [dendronref01_Minus_s4, cnd c0, cnd c1, Int.toNat_natCast, List.getElem?_eq_getElem hi, Option.bind_some, rdigit_ok, Option.bind_some, q1, cnd' hneg, blt (by omega), cond_true, iadd1 (by omega)]
       rfl) (by
   rintro v ⟨p, d, rfl, hp, hpl, hd, hs⟩
   refine ⟨((p, ()), ()), ⟨p, rfl, hp, hpl, ?_⟩, fun g => by simp [dendronref01_Minus_s4]⟩
   rw [dd_take_of_lt (Nat.lt_of_le_of_lt hle (dd_lt a)), List.take_length] at hs
   have k1 := dd_lt p
   rw [hp] at k1
   have : d = 0 := by
     rcases Nat.eq_zero_or_pos d with h | h
     · exact h
     · have : d = 1 := by omega
       subst this
       omega
   subst this
   omega)
 rw [dendronref01_Minus, hlp, Option.bind_some, rTrim_ok hpl (by omega), hpn]
 rfl
theorem dmul_lt_sq {x y c u : Int} (hx : 0 ≤ x ∧ x < 10000) (hy : 0 ≤ y ∧ y < 10000) (hc : 0 ≤ c ∧ c < 10000) (hu : 0 ≤ u ∧ u < 10000) :
  0 ≤ x * y ∧ x * y < 100000000 ∧ u + x * y < 100000000 ∧ c + u + x * y < 100000000 := by
 have h0 : 0 ≤ x * y := Int.mul_nonneg hx.1 hy.1
 have h1 : x * y ≤ 9999 * 9999 := Int.mul_le_mul (by omega) (by omega) hy.1 (by decide)
 omega
theorem rTimes_inner {b a : List Int} {i : Nat} {u : List Int} {Z : Nat} (hb : Dig b) (ha : Dig a) (hi : i < a.length) (hu : Dig u) (hul : u.length = i + b.length) (hsz : i + b.length < 4611686018427387904) :
  ∃ (w : List Int) (c : Nat), lp dendronref01_Times_s7 K0 ((a, b, u ++ List.replicate Z 0, (i : Int), 0, 0, ()), ()) = some ((a, b, w ++ List.replicate Z 0, (i : Int), (c : Int), ()), ()) ∧
   w.length = i + b.length ∧ Dig w ∧ c < 10000 ∧ dd w + 10000 ^ (i + b.length) * c = dd u + 10000 ^ i * (a[i].toNat * dd b) := by
 have hx := ha.at hi
 generalize hxx : a[i] = x at *
 obtain ⟨r, ⟨w, c, rfl, h1, h2, h3, h4⟩, hlp⟩ := lp_inv (step := dendronref01_Times_s7)
  (fun k v => ∃ (w : List Int) (c : Nat), v = ((a, b, w ++ List.replicate Z 0, (i : Int), (c : Int), (k : Int), ()), ()) ∧ w.length = i + b.length ∧ Dig w ∧ c < 10000 ∧ dd w + 10000 ^ (i + k) * c = dd u + 10000 ^ i * (x.toNat * dd (b.take k)))
  (fun r => ∃ (w : List Int) (c : Nat), r = ((a, b, w ++ List.replicate Z 0, (i : Int), (c : Int), ()), ()) ∧ w.length = i + b.length ∧ Dig w ∧ c < 10000 ∧ dd w + 10000 ^ (i + b.length) * c = dd u + 10000 ^ i * (x.toNat * dd b))
  b.length (v := ((a, b, u ++ List.replicate Z 0, (i : Int), 0, 0, ()), ())) ⟨u, 0, rfl, hul, hu, by omega, by simp⟩ (by omega) (by
   rintro k v hk ⟨w, c, rfl, hw, hwl, hc, hs⟩
   have b1 := hb.at hk
   have hik : i + k < w.length := by omega
   have b2 := hwl.at hik
   have b3 : (0 : Int) ≤ c ∧ (c : Int) < 10000 := by omega
   obtain ⟨m0, m1, m2, m3⟩ := dmul_lt_sq hx b1 b3 b2
   have q1 : imul .i64 x b[k] = x * b[k] := by rw [imul_i] <;> omega
   have q2 : iadd .i64 (c : Int) w[i + k] = c + w[i + k] := by rw [iadd_i] <;> omega
   have q3 : iadd .i64 ((c : Int) + w[i + k]) (x * b[k]) = (c : Int) + w[i + k] + x * b[k] := by rw [iadd_i] <;> omega
   have q4 : iadd .i64 (i : Int) (k : Int) = ((i + k : Nat) : Int) := by rw [iadd_i] <;> omega
   have q5 : irem ((c : Int) + w[i + k] + x * b[k]) 10000 = ((c : Int) + w[i + k] + x * b[k]) % 10000 := irem_n (by omega)
   have q6 : iquo .i64 ((c : Int) + w[i + k] + x * b[k]) 10000 = (((((c : Int) + w[i + k] + x * b[k]) / 10000).toNat : Nat) : Int) := by rw [iquo_i (by omega) (by omega) (by omega)]; omega
   refine ⟨((a, b, w.set (i + k) (((c : Int) + w[i + k] + x * b[k]) % 10000) ++ List.replicate Z 0, (i : Int), (((((c : Int) + w[i + k] + x * b[k]) / 10000).toNat : Nat) : Int), ((k + 1 : Nat) : Int), ()), ()), ⟨_, _, rfl, by simpa using hw, hwl.set (by omega), by omega, ?_⟩, fun g => ?_⟩
   · have hset := dd_set hwl hik (y := ((c : Int) + w[i + k] + x * b[k]) % 10000) (by omega)
     rw [dnnt hk, show i + (k + 1) = i + k + 1 from rfl, Nat.pow_succ]
     have k1 : (((c : Int) + w[i + k] + x * b[k]) % 10000).toNat + 10000 * (((c : Int) + w[i + k] + x * b[k]) / 10000).toNat = c + (w[i + k].toNat + (x * b[k]).toNat) := by omega
     have k2 : 10000 ^ (i + k) * ((((c : Int) + w[i + k] + x * b[k]) % 10000).toNat + 10000 * (((c : Int) + w[i + k] + x * b[k]) / 10000).toNat) = 10000 ^ (i + k) * (c + (w[i + k].toNat + (x * b[k]).toNat)) := by rw [k1]
     have k3 : (x * b[k]).toNat = x.toNat * (b[k] % 10000).toNat := by
      rw [Int.toNat_mul hx.1 b1.1]; congr 2; omega
     rw [k3] at k2
     have k4 : 10000 ^ (i + k) = 10000 ^ i * 10000 ^ k := Nat.pow_add ..
     grind
   · have e5 : (w ++ List.replicate Z (0 : Int))[i + k]? = some w[i + k] := by rw [List.getElem?_append_left hik]; exact List.getElem?_eq_getElem hik
     have c0 : (k : Int) < ((b.length : Nat) : Int) := by omega
     have c2 : (0 : Int) ≤ (k : Int) := by omega
     have c3 : (0 : Int) ≤ (i : Int) := by omega
     have e6 : ((i + k : Nat) : Int) < (((w ++ List.replicate Z (0 : Int)).length : Nat) : Int) := by rw [List.length_append]; omega
     have e7 : (0 : Int) ≤ ((i + k : Nat) : Int) := by omega
     rw [dendronref01_Times_s7, cnd c0, q4, cnd2 e7 e6, Int.toNat_natCast, e5, Option.bind_some, cnd c3, Int.toNat_natCast, List.getElem?_eq_getElem hi, Option.bind_some, hxx, cnd c2, Int.toNat_natCast, List.getElem?_eq_getElem hk, Option.bind_some, cnd2 e7 e6, Option.bind_some, q1, q2, q3, q5, q6, List.set_append_left _ _ hik, iadd1 (by omega)]
     rfl) (by
   rintro v ⟨w, c, rfl, hw, hwl, hc, hs⟩
   rw [List.take_length] at hs
   exact ⟨((a, b, w ++ List.replicate Z 0, (i : Int), (c : Int), ()), ()), ⟨w, c, rfl, hw, hwl, hc, hs⟩, fun g => by simp [dendronref01_Times_s7]⟩)
 exact ⟨w, c, hlp, h1, h2, h3, h4⟩
theorem rTimes_ok {x y : List Int} (l1 : Dig x) (l2 : Dig y) (ha : x.length < 4398046511104) (hb : y.length < 4398046511104) : dendronref01_Times x y = some (digs (dd x * dd y)) := by
 have hN : iadd .i64 (x.length : Int) (y.length : Int) = ((x.length + y.length : Nat) : Int) := by rw [iadd_i] <;> omega
 rw [dendronref01_Times, hN]
 obtain ⟨r, ⟨p, rfl, hp, hpl, hpn⟩, hlp⟩ := lp_inv (step := dendronref01_Times_s3) (fun i v => ∃ p : List Int, v = ((x, y, p ++ List.replicate (x.length - i) 0, (i : Int), ()), ()) ∧ p.length = i + y.length ∧ Dig p ∧ dd p = dd (x.take i) * dd y)
  (fun r => ∃ p, r = ((p, ()), ()) ∧ p.length = x.length + y.length ∧ Dig p ∧ dd p = dd x * dd y) x.length (v := ((x, y, List.replicate (x.length + y.length) 0, 0, ()), ()))
  ⟨List.replicate y.length 0, by rw [List.replicate_append_replicate, Nat.sub_zero, Nat.add_comm]; rfl, by simp, Dig.zeros _, by simp [dd_zeros]⟩ (by omega) (by
   rintro i v hi ⟨p, rfl, hp, hpl, hs⟩
   obtain ⟨w, c, hin, hw, hwl, hc, hwn⟩ := rTimes_inner (Z := x.length - i) l2 l1 hi hpl hp (by omega)
   have b1 := l1.at hi
   refine ⟨((x, y, (w ++ [(c : Int)]) ++ List.replicate (x.length - (i + 1)) 0, ((i + 1 : Nat) : Int), ()), ()), ⟨_, rfl, by simp [hw]; omega, Dig.append hwl (Dig.cons (by omega) Dig.nil), ?_⟩, fun g => ?_⟩
   · rw [dd_append, hw, dd_one _ (by omega), dnnt hi, Int.toNat_natCast, hwn, hs]
     have : (x[i] % 10000).toNat = x[i].toNat := by omega
     rw [this]
     grind
   · have q4 : iadd .i64 (i : Int) (y.length : Int) = ((i + y.length : Nat) : Int) := by rw [iadd_i] <;> omega
     have c0 : (i : Int) < ((x.length : Nat) : Int) := by omega
     have e6 : ((i + y.length : Nat) : Int) < (((w ++ List.replicate (x.length - i) (0 : Int)).length : Nat) : Int) := by rw [List.length_append, List.length_replicate]; omega
     have e7 : (0 : Int) ≤ ((i + y.length : Nat) : Int) := by omega
     have e8 : i + y.length < (w ++ List.replicate (x.length - i) (0 : Int)).length := by omega
     have e9 : (w ++ List.replicate (x.length - i) (0 : Int)).set (i + y.length) (c : Int) = (w ++ [(c : Int)]) ++ List.replicate (x.length - (i + 1)) 0 := by
      have := set_mid (p := w) (i := i + y.length) (n := x.length + y.length) (z := 0) (c : Int) hw (by omega)
      rw [show x.length + y.length - (i + y.length) = x.length - i by omega, show x.length + y.length - (i + y.length + 1) = x.length - (i + 1) by omega] at this
      exact this
     rw [dendronref01_Times_s3, cnd c0, hin, Option.bind_some, q4, cnd2 e7 e6, Int.toNat_natCast, List.getElem?_eq_getElem e8, Option.bind_some, e9, iadd1 (by omega)]
     rfl) (by
   rintro v ⟨p, rfl, hp, hpl, hs⟩
   rw [List.take_length] at hs
   exact ⟨((p, ()), ()), ⟨p, rfl, hp, hpl, hs⟩, fun g => by simp [dendronref01_Times_s3]⟩)
 have g2 : ((x.length + y.length : Nat) : Int) ≤ 9223372036854775807 := by omega
 have g3 : (0 : Int) ≤ ((x.length + y.length : Nat) : Int) := by omega
 have g4 : ((8 : Nat) : Int) * ((x.length + y.length : Nat) : Int) ≤ 281474976710656 := by omega
 rw [decide_eq_true g2, decide_eq_true g3, decide_eq_true g4, decide_eq_true rfl, Int.toNat_natCast, hlp, Option.bind_some, rTrim_ok hpl (by omega), hpn]
 rfl
theorem rOver_inner {a q : List Int} {i : Int} {y R : Nat} (hy : (digs y).length < 1099511627776) (hR : (digs R).length < 1099511627776) (hRy : R < y * 10000) :
  lp dendronref01_Over_s12 K0 ((a, digs y, q, digs R, i, 0, 10000, ()), ()) = some ((a, digs y, q, digs R, i, ((R / y : Nat) : Int), ()), ()) := by
 have hy0 : 0 < y := by
  rcases Nat.eq_zero_or_pos y with h | h
  · subst h; omega
  · exact h
 obtain ⟨r, rfl, hlp⟩ := lp_wf (step := dendronref01_Over_s12) (fun s => ∃ lo hi : Nat, s = ((a, digs y, q, digs R, i, (lo : Int), (hi : Int), ()), ()) ∧ lo < hi ∧ hi ≤ 10000 ∧ y * lo ≤ R ∧ R < y * hi) (fun s => (s.1.2.2.2.2.2.2.1 - s.1.2.2.2.2.2.1).toNat)
  (fun r => r = ((a, digs y, q, digs R, i, ((R / y : Nat) : Int), ()), ())) (v := ((a, digs y, q, digs R, i, 0, 10000, ()), ())) ⟨0, 10000, rfl, by omega, by omega, by simp, hRy⟩ (by simp) (by
    rintro s ⟨lo, hi, rfl, hlt, hh, h1, h2⟩
    have e1 : isub .i64 (hi : Int) (lo : Int) = (hi : Int) - lo := by rw [isub_i] <;> omega
    by_cases hd : hi - lo ≤ 1
    · have : hi = lo + 1 := by omega
      subst this
      have hq : R / y = lo := by
        rw [Nat.div_eq_iff hy0]
        rw [Nat.mul_add, Nat.mul_one] at h2
        rw [Nat.mul_comm]; omega
      refine .inl ⟨_, rfl, fun g => ?_⟩
      rw [dendronref01_Over_s12, e1, cnd' (by omega), hq]
    · have e2 : iquo .i64 (iadd .i64 (lo : Int) (hi : Int)) 2 = (((lo + hi) / 2 : Nat) : Int) := by
        have : iadd .i64 (lo : Int) (hi : Int) = ((lo + hi : Nat) : Int) := by rw [iadd_i] <;> omega
        rw [this, iquo_i (by omega) (by omega) (by omega)]; omega
      have hmid : (lo + hi) / 2 < 10000 := by omega
      have hs := rSmall_ok (n := (lo + hi) / 2) (by omega)
      have hdl : (digs ((lo + hi) / 2)).length ≤ 1 := digs_len_le (by omega)
      have ht := rTimes_ok (digs_dig y) (digs_dig ((lo + hi) / 2)) (by omega) (by omega)
      rw [dd_digs, dd_digs] at ht
      have hml := digs_mul_len y ((lo + hi) / 2)
      have ho := rOrder_ok (n := y * ((lo + hi) / 2)) (m := R) (by omega)
      have hmlo : lo < (lo + hi) / 2 := by omega
      have hmhi : (lo + hi) / 2 < hi := by omega
      generalize (lo + hi) / 2 = mid at *
      have step : ∀ g, dendronref01_Over_s12 g ((a, digs y, q, digs R, i, (lo : Int), (hi : Int), ()), ()) = bif decide (ncmp (y * mid) R ≤ 0) then g ((a, digs y, q, digs R, i, (mid : Int), (hi : Int), ()), ()) else g ((a, digs y, q, digs R, i, (lo : Int), (mid : Int), ()), ()) := by
        intro g
        rw [dendronref01_Over_s12, e1, cnd (by omega), e2, hs, Option.bind_some, ht, Option.bind_some, ho, Option.bind_some]
      by_cases hc : y * mid ≤ R
      · have c : ncmp (y * mid) R ≤ 0 := by unfold ncmp; split <;> (try split) <;> omega
        exact .inr ⟨_, ⟨mid, hi, rfl, hmhi, hh, hc, h2⟩, by show ((hi : Int) - (mid : Int)).toNat < ((hi : Int) - (lo : Int)).toNat; omega, fun g => by rw [step, cnd c]⟩
      · have c : ¬ ncmp (y * mid) R ≤ 0 := by unfold ncmp; rw [if_neg (by omega), if_pos (by omega)]; decide
        exact .inr ⟨_, ⟨lo, mid, rfl, hmlo, by omega, h1, by omega⟩, by show ((mid : Int) - (lo : Int)).toNat < ((hi : Int) - (lo : Int)).toNat; omega, fun g => by rw [step, cnd' c]⟩)
 exact hlp
theorem pow_help {R y k : Nat} (h : R < y * 10000) (hy : y < 10000 ^ k) : R < 10000 ^ (k + 1) := by
 rw [Nat.pow_succ]
 exact Nat.lt_of_lt_of_le h (Nat.mul_le_mul_right _ (Nat.le_of_lt hy))
theorem rOver_ok {a : List Int} {y : Nat} (ha : Dig a) (hl : a.length < 1099511627776) (hy : (digs y).length < 1099511627775) (hy0 : 0 < y) : dendronref01_Over a (digs y) = some (digs (dd a / y), digs (dd a % y)) := by
 obtain ⟨r, ⟨s, c, rfl, hs, hsl, hc, hsn⟩, hlp⟩ := lp_wf (step := dendronref01_Over_s4)
  (fun v => ∃ (j : Nat) (s : List Int) (c : Nat), j ≤ a.length ∧ v = ((a, digs y, List.replicate j 0 ++ s, digs c, (j : Int) - 1, ()), ()) ∧ j + s.length = a.length ∧ Dig s ∧ c < y ∧ dd (a.drop j) = y * dd s + c)
  (fun v => (v.1.2.2.2.2.1 + 1).toNat)
  (fun r => ∃ (s : List Int) (c : Nat), r = ((s, digs c, ()), ()) ∧ s.length = a.length ∧ Dig s ∧ c < y ∧ dd a = y * dd s + c) (v := ((a, digs y, List.replicate a.length 0, [], (a.length : Int) - 1, ()), ()))
  ⟨a.length, [], 0, Nat.le_refl _, by simp [digs_zero], by simp, Dig.nil, hy0, by simp⟩ (by simp; omega) (by
   rintro v ⟨j, s, c, hj, rfl, hjl, hsl, hc, hn⟩
   cases j with
   | zero =>
    refine .inl ⟨((s, digs c, ()), ()), ⟨s, c, rfl, by omega, hsl, hc, by simpa using hn⟩, fun g => by simp [dendronref01_Over_s4]⟩
   | succ j =>
    have hja : j < a.length := by omega
    have b := ha.at hja
    have e3 : ((j + 1 : Nat) : Int) - 1 = (j : Int) := by omega
    rw [e3]
    obtain ⟨x, hx⟩ := Int.eq_ofNat_of_zero_le b.1
    have hx' : x < 10000 := by omega
    have hcl := digs_len_mono (Nat.le_of_lt hc)
    have htr := rTrim_ok (a := [a[j]] ++ digs c) (Dig.append (Dig.cons b Dig.nil) (digs_dig c)) (by simp; omega)
    have hval : dd ([a[j]] ++ digs c) = x + 10000 * c := by
      show dd (a[j] :: digs c) = _
      rw [dd, dd_digs]; omega
    rw [hval] at htr
    have hR : x + 10000 * c < y * 10000 := by omega
    have hRl : (digs (x + 10000 * c)).length < 1099511627776 := by
      have h5 : x + 10000 * c < 10000 ^ ((digs y).length + 1) := by
       have h6 := dd_lt (digs y)
       rw [dd_digs] at h6
       exact pow_help hR h6
      have := digs_len_le h5
      omega
    have hin := rOver_inner (a := a) (q := List.replicate (j + 1) 0 ++ s) (i := (j : Int)) (by omega) hRl hR
    have k1 := Nat.div_add_mod (x + 10000 * c) y
    have k5 := Nat.mod_lt (x + 10000 * c) hy0
    have hq : (x + 10000 * c) / y < 10000 := by rw [Nat.div_lt_iff_lt_mul hy0]; omega
    have hs1 := rSmall_ok (n := (x + 10000 * c) / y) (by omega)
    have hdl : (digs ((x + 10000 * c) / y)).length ≤ 1 := digs_len_le (by omega)
    have ht := rTimes_ok (digs_dig y) (digs_dig ((x + 10000 * c) / y)) (by omega) (by omega)
    rw [dd_digs, dd_digs] at ht
    have hm := rMinus_ok (digs_dig (x + 10000 * c)) (digs_dig (y * ((x + 10000 * c) / y))) (by omega) (by rw [dd_digs, dd_digs]; omega)
    rw [dd_digs, dd_digs] at hm
    have hrest : x + 10000 * c - y * ((x + 10000 * c) / y) = (x + 10000 * c) % y := by omega
    rw [hrest] at hm
    generalize (x + 10000 * c) / y = qd at *
    generalize (x + 10000 * c) % y = rr at *
    refine .inr ⟨((a, digs y, List.replicate j 0 ++ (qd : Int) :: s, digs rr, (j : Int) - 1, ()), ()), ⟨j, _, _, by omega, rfl, by simp; omega, Dig.cons (by omega) hsl, k5, ?_⟩, by simp, fun g => ?_⟩
    · rw [dd_drop a hja, hn, dd]
      have k2 : ((qd : Int) % 10000).toNat = qd := by omega
      have k3 : (a[j] % 10000).toNat = x := by omega
      rw [k2, k3]
      grind
    · have q5 : isub .i64 (j : Int) 1 = (j : Int) - 1 := by rw [isub_i] <;> omega
      have e5 : (List.replicate (j + 1) (0 : Int) ++ s).set j (qd : Int) = List.replicate j 0 ++ (qd : Int) :: s := by
       rw [List.replicate_succ', List.append_assoc, List.set_append_right _ _ (by simp)]
       simp
      have e6 : j < (List.replicate (j + 1) (0 : Int) ++ s).length := by simp; omega
      have e7 : ((j : Nat) : Int) < ((List.replicate (j + 1) (0 : Int) ++ s).length : Int) := by omega
      have e8 : (0 : Int) ≤ ((j : Nat) : Int) := by omega
      have c0 : (j : Int) ≥ 0 := by omega
      have c1 : (Nat.ble ((([a[j]] : List Int).length + (digs c).length) * 8) 140737488355328 && !false) = true := blt (by simp; omega)
      rw [dendronref01_Over_s4, cnd c0, cnd e8, Int.toNat_natCast, List.getElem?_eq_getElem hja, Option.bind_some, c1, cond_true, htr, Option.bind_some, hin, Option.bind_some, cnd2 e8 e7, Int.toNat_natCast, List.getElem?_eq_getElem e6, Option.bind_some, hs1, Option.bind_some, ht, Option.bind_some, hm, Option.bind_some, e5, q5])
 have g1 : ((8 : Nat) : Int) * (a.length : Int) ≤ 281474976710656 := by omega
 have g2 : (a.length : Int) ≤ 9223372036854775807 := by omega
 have g4 : (0 : Int) ≤ (a.length : Int) := by omega
 have g3 : isub .i64 (a.length : Int) 1 = (a.length : Int) - 1 := by rw [isub_i] <;> omega
 have k1 : dd a / y = dd s := by rw [hsn, Nat.mul_add_div hy0, Nat.div_eq_of_lt hc]; simp
 have k2 : dd a % y = c := by rw [hsn, Nat.mul_add_mod, Nat.mod_eq_of_lt hc]
 rw [k1, k2]
 rw [dendronref01_Over, decide_eq_true rfl, decide_eq_true g4, decide_eq_true g1, decide_eq_true g2, Int.toNat_natCast, g3, hlp]
 simp only [Bool.and_self, cond_true, Option.bind_some, rTrim_ok hsl (show s.length < 4611686018427387904 by omega)]
theorem lenN_lt {x y : Nat} (hy : y ≠ 0) (h : 2 * x ≤ y) : lenN x < lenN y := by
 unfold lenN
 by_cases hx : x = 0
 · rw [if_pos hx, if_neg hy]; omega
 · rw [if_neg hx, if_neg hy]
   have := log2_half hx h
   omega
theorem lenN_le {n k : Nat} (h : n < 2 ^ k) : lenN n ≤ k := by
 unfold lenN
 by_cases hx : n = 0
 · rw [if_pos hx]; omega
 · rw [if_neg hx]; have := (Nat.log2_lt hx).2 h; omega
theorem lenN_digs (n : Nat) : lenN n ≤ 14 * (digs n).length := by
 apply lenN_le
 have h1 := dd_lt (digs n)
 rw [dd_digs] at h1
 have h2 : 10000 ^ (digs n).length ≤ (2 ^ 14) ^ (digs n).length := Nat.pow_le_pow_left (by decide) _
 rw [← Nat.pow_mul] at h2
 omega
theorem rGcd_ok {x y : Nat} (hx : (digs x).length < 1099511627775) (hy : (digs y).length < 1099511627775) : dendronref01_Gcd (digs x) (digs y) = some (digs (Nat.gcd x y)) := by
 obtain ⟨r, rfl, hlp⟩ := lp_wf (step := dendronref01_Gcd_s1) (fun s => ∃ p q : Nat, s = ((digs p, digs q, ()), ()) ∧ (digs p).length < 1099511627775 ∧ (digs q).length < 1099511627775 ∧ Nat.gcd p q = Nat.gcd x y)
  (fun s => 2 * (lenN (dd s.1.1) + lenN (dd s.1.2.1)) + if dd s.1.1 < dd s.1.2.1 then 1 else 0) (fun r => r = ((digs (Nat.gcd x y), ()), ())) (v := ((digs x, digs y, ()), ()))
  ⟨x, y, rfl, hx, hy, rfl⟩ (by
   have h1 := lenN_digs x
   have h2 := lenN_digs y
   simp only [dd_digs]
   split <;> omega) (by
   rintro s ⟨p, q, rfl, hp, hq, hg⟩
   by_cases h0 : q = 0
   · subst h0
     refine .inl ⟨_, rfl, fun g => ?_⟩
     rw [Nat.gcd_zero_right] at hg
     rw [digs_zero, dendronref01_Gcd_s1, cnd' (by decide), ← hg]
   · have c0 : ((digs q).length : Int) > 0 := digs_pos_len.2 h0
     have ho := rOver_ok (digs_dig p) (by omega) hq (Nat.pos_of_ne_zero h0)
     rw [dd_digs] at ho
     have hml := Nat.mod_lt p (Nat.pos_of_ne_zero h0)
     refine .inr ⟨((digs q, digs (p % q), ()), ()), ⟨q, p % q, rfl, hq, Nat.lt_of_le_of_lt (digs_len_mono (Nat.le_of_lt hml)) hq, ?_⟩, ?_, fun g => ?_⟩
     · rw [← hg, Nat.gcd_comm q, ← Nat.gcd_rec, Nat.gcd_comm]
     · simp only [dd_digs]
       rw [if_neg (by omega)]
       by_cases hpq : p < q
       · rw [if_pos hpq, Nat.mod_eq_of_lt hpq]; omega
       · rw [if_neg hpq]
         have : 2 * (p % q) ≤ p := by
          have h1 := Nat.div_add_mod p q
          have h2 : 1 ≤ p / q := Nat.div_pos (by omega) (by omega)
          have h3 : q * 1 ≤ q * (p / q) := Nat.mul_le_mul_left _ h2
          omega
         have := lenN_lt (by omega) this
         omega
     · rw [dendronref01_Gcd_s1, cnd c0, ho, Option.bind_some])
 rw [dendronref01_Gcd, hlp]; rfl
theorem digs_of_limbs {n k : Nat} (h : n < 4294967296 ^ k) : (digs n).length ≤ 3 * k := by
 apply digs_len_le
 have : 4294967296 ^ k ≤ (10000 ^ 3) ^ k := Nat.pow_le_pow_left (by decide) _
 rw [← Nat.pow_mul] at this
 omega
theorem rFrom_ok {a : List Int} (hl : a.length < 274877906944) : dendronref01_From a = some (digs (nn a)) := by
 have hu := rSmall_ok (n := 4294967296) (by decide)
 obtain ⟨r, rfl, hlp⟩ := lp_wf (step := dendronref01_From_s4) (fun s => ∃ j : Nat, j ≤ a.length ∧ s = ((a, digs (nn (a.drop j)), digs 4294967296, (j : Int) - 1, ()), ())) (fun s => (s.1.2.2.2.1 + 1).toNat)
  (fun r => r = ((digs (nn a), ()), ())) (v := ((a, [], digs 4294967296, (a.length : Int) - 1, ()), ())) ⟨a.length, Nat.le_refl _, by rw [List.drop_length, nn_nil, digs_zero]⟩ (by simp; omega) (by
   rintro s ⟨j, hj, rfl⟩
   cases j with
   | zero => exact .inl ⟨_, rfl, fun g => by simp [dendronref01_From_s4]⟩
   | succ j =>
    have hja : j < a.length := by omega
    have e3 : ((j + 1 : Nat) : Int) - 1 = (j : Int) := by omega
    rw [e3]
    have hnl := nn_lt (a.drop (j + 1))
    rw [List.length_drop] at hnl
    have hd := digs_of_limbs hnl
    have hu2 : (digs 4294967296).length ≤ 3 := digs_len_le (by decide)
    have ht := rTimes_ok (digs_dig (nn (a.drop (j + 1)))) (digs_dig 4294967296) (by omega) (by omega)
    rw [dd_digs, dd_digs] at ht
    have hml := digs_mul_len (nn (a.drop (j + 1))) 4294967296
    have hw : IntKind.wrap .i64 (iand .u64 a[j] 4294967295) = (((a[j] % 4294967296).toNat : Nat) : Int) := by
     rw [iand_low, wrap_i (by omega) (by omega)]; omega
    have hs := rSmall_ok (n := (a[j] % 4294967296).toNat) (by omega)
    have hsl : (digs (a[j] % 4294967296).toNat).length ≤ 3 := digs_len_le (by omega)
    have hp := rPlus_ok (x := nn (a.drop (j + 1)) * 4294967296) (y := (a[j] % 4294967296).toNat) (by omega) (by omega)
    have hval : nn (a.drop (j + 1)) * 4294967296 + (a[j] % 4294967296).toNat = nn (a.drop j) := by rw [nn_drop a hja]; omega
    rw [hval] at hp
    refine .inr ⟨((a, digs (nn (a.drop j)), digs 4294967296, (j : Int) - 1, ()), ()), ⟨j, by omega, rfl⟩, by simp, fun g => ?_⟩
    have q5 : isub .i64 (j : Int) 1 = (j : Int) - 1 := by rw [isub_i] <;> omega
    have c0 : (j : Int) ≥ 0 := by omega
    have c1 : (0 : Int) ≤ (j : Int) := by omega
    rw [dendronref01_From_s4, cnd c0, ht, Option.bind_some, cnd c1, Int.toNat_natCast, List.getElem?_eq_getElem hja, Option.bind_some, hw, hs, Option.bind_some, hp, Option.bind_some, q5])
 have g3 : isub .i64 (a.length : Int) 1 = (a.length : Int) - 1 := by rw [isub_i] <;> omega
 rw [show ((4294967296 : Nat) : Int) = 4294967296 from rfl] at hu
 rw [dendronref01_From, hu, Option.bind_some, g3, hlp]; rfl
theorem rRight_ok {n : Nat} (hl : (limbs n).length < 4398046511104) : dendronref01_Right (limbs n) = some true := by
 have la := limbs_lim n
 have hc := (limbs_canon n).2
 generalize limbs n = a at *
 have key := lp_up (step := dendronref01_Right_s2) (fun i => ((a, (i : Int), ()), ())) a.length (r := .inl ((a, ()), ())) (by omega) (by
   intro g i hi
   have b := la.at hi
   have c0 : (i : Int) < ((a.length : Nat) : Int) := by omega
   have c1 : (0 : Int) ≤ (i : Int) := by omega
   rw [dendronref01_Right_s2, cnd c0, cnd c1, Int.toNat_natCast, List.getElem?_eq_getElem hi, Option.bind_some, cnd' (by omega), iadd1 (by omega)]
   rfl) (by
   intro g
   rw [dendronref01_Right_s2, cnd' (by omega)])
 have key' : lp dendronref01_Right_s2 K0 ((a, 0, ()), ()) = some (.inl ((a, ()), ())) := key
 rw [dendronref01_Right, key', Option.bind_some]
 by_cases h0 : a = []
 · subst h0; rfl
 · have hlen := List.length_pos_iff.2 h0
   have e : isub .i64 (a.length : Int) 1 = ((a.length - 1 : Nat) : Int) := by rw [isub_i] <;> omega
   have hlt : a.length - 1 < a.length := by omega
   have hne : a[a.length - 1] ≠ 0 := hc _ (by rw [List.getLast?_eq_getElem?]; exact List.getElem?_eq_getElem hlt)
   have c0 : ¬ ((a.length : Nat) : Int) = 0 := by omega
   have c1 : (0 : Int) ≤ ((a.length - 1 : Nat) : Int) := by omega
   simp only []
   rw [cnd' c0, e, cnd c1, Int.toNat_natCast, List.getElem?_eq_getElem hlt, Option.bind_some, decide_eq_false hne]
   rfl
def digsI (z : Int) : WH := (decide (z < 0), digs z.natAbs)
theorem rMake_ok (b : Bool) (n : Nat) : dendronref02_Make b (digs n) = some (digsI (if b then -(n : Int) else n)) := by
 cases b with
 | false =>
  show some (false, digs n) = some (digsI (n : Int))
  unfold digsI
  rw [decide_eq_false (by omega), Int.natAbs_natCast]
 | true =>
  show some (decide (((digs n).length : Int) > 0), digs n) = some (digsI (-(n : Int)))
  unfold digsI
  rw [Int.natAbs_neg, Int.natAbs_natCast]
  congr 2
  rw [decide_eq_decide, digs_pos_len]
  omega
theorem rITimes_ok {x y : Int} (hx : (digs x.natAbs).length < 1099511627776) (hy : (digs y.natAbs).length < 1099511627776) : dendronref02_Times (digsI x) (digsI y) = some (digsI (x * y)) := by
 have hm := rTimes_ok (digs_dig x.natAbs) (digs_dig y.natAbs) (by omega) (by omega)
 rw [dd_digs, dd_digs] at hm
 rw [dendronref02_Times]
 simp only [digsI, hm, Option.bind_some, rMake_ok]
 have key : (if (!decide (x < 0) == decide (y < 0)) = true then -(((x.natAbs * y.natAbs : Nat)) : Int) else ((x.natAbs * y.natAbs : Nat) : Int)) = x * y := by
  rw [Int.natCast_mul]
  by_cases h1 : x < 0 <;> by_cases h2 : y < 0
  · rw [show ((x.natAbs : Nat) : Int) = -x by omega, show ((y.natAbs : Nat) : Int) = -y by omega]; simp [h1, h2, Int.neg_mul_neg]
  · rw [show ((x.natAbs : Nat) : Int) = -x by omega, show ((y.natAbs : Nat) : Int) = y by omega]; simp [h1, h2, Int.neg_mul]
  · rw [show ((x.natAbs : Nat) : Int) = x by omega, show ((y.natAbs : Nat) : Int) = -y by omega]; simp [h1, h2, Int.mul_neg]
  · rw [show ((x.natAbs : Nat) : Int) = x by omega, show ((y.natAbs : Nat) : Int) = y by omega]; simp [h1, h2]
 exact congrArg (fun z => some (digsI z)) key
theorem rIOrder_ok {x y : Int} (hx : (digs x.natAbs).length < 4398046511104) (hy : (digs y.natAbs).length < 4398046511104) : dendronref02_Order (digsI x) (digsI y) = some (icmp x y) := by
 have e1 := rOrder_ok (n := x.natAbs) (m := y.natAbs) (by omega)
 have e2 := rOrder_ok (n := y.natAbs) (m := x.natAbs) (by omega)
 rw [dendronref02_Order]
 simp only [digsI, e1, e2]
 by_cases h1 : x < 0 <;> by_cases h2 : y < 0 <;> simp [h1, h2, icmp, ncmp] <;> (repeat' split) <;> omega
theorem rFromI_ok {a : WH} (h : a.2.length < 274877906944) : dendronref02_From a = some (digsI (wv a)) := by
 rw [dendronref02_From, rFrom_ok h, Option.bind_some, rMake_ok]; rfl
theorem rFromQ_ok {a : RAT} {n : Nat} (h : SzR a n) (hn : n < 91625968980) : ∃ (z : Int) (d : Nat), dendronref03_From a = some (digsI z, digs d) ∧ 0 < d ∧ rv a = mkRat z d ∧ (digs z.natAbs).length ≤ 3 * n + 1 ∧ (digs d).length ≤ 3 * n + 1 := by
 have h1 := h.1
 have h2 := h.2
 rw [dendronref03_From, rFrom_ok (by omega), Option.bind_some]
 by_cases h0 : nn a.2 = 0
 · refine ⟨0, 1, ?_, by omega, ?_, by simp [digs_zero], digs_len_le (by rw [Nat.pow_add]; have : 0 < 10000 ^ (3 * n) := Nat.pow_pos (by decide); omega)⟩
   · have s1 := rSmall_ok (n := 1) (by decide)
     have s0 := rSmall_ok (n := 0) (by decide)
     rw [show ((1 : Nat) : Int) = 1 from rfl] at s1
     rw [show ((0 : Nat) : Int) = 0 from rfl] at s0
     rw [h0, digs_zero, cnd (by rfl), dendronref03_Small, dendronref02_Small, cnd' (by decide), s0, Option.bind_some, rMake_ok, Option.bind_some, Option.bind_some, s1]
     rfl
   · rw [rv, h0]; simp
 · have hne : ¬ ((digs (nn a.2)).length : Int) = 0 := by rw [digs_len0]; exact h0
   refine ⟨wv a.1, nn a.2, ?_, Nat.pos_of_ne_zero h0, rfl, ?_, ?_⟩
   · rw [cnd' hne, rFromI_ok (by omega)]; rfl
   · rw [wv_natAbs]
     have := digs_of_limbs (nn_lt a.1.2)
     omega
   · have := digs_of_limbs (nn_lt a.2)
     omega
theorem Is_ok {q : Rat} {b : RAT} {n m : Nat} (hq : SzQ q n) (hn : n < 91625968980) (hb : SzR b m) (hm : m < 91625968980) : dendronref10_Is (canQ q) b = some (decide (q = rv b)) := by
 obtain ⟨z, d, hf, hd0, hv, hz, hd⟩ := rFromQ_ok hb hm
 have hr := hq.szR
 have r1 : (limbs q.num.natAbs).length ≤ n := hr.1
 have r2 : (limbs q.den).length ≤ n := hr.2
 have hnum := digs_of_limbs hq.1
 have hden := digs_of_limbs hq.2
 have f1 := rFrom_ok (a := limbs q.num.natAbs) (by omega)
 have f2 := rFrom_ok (a := limbs q.den) (by omega)
 rw [nn_limbs] at f1 f2
 have hg := rGcd_ok (x := q.num.natAbs) (y := q.den) (by omega) (by omega)
 rw [show Nat.gcd q.num.natAbs q.den = 1 from q.reduced] at hg
 have s1 := rSmall_ok (n := 1) (by decide)
 rw [show ((1 : Nat) : Int) = 1 from rfl] at s1
 have hl1 : (digs 1).length ≤ 1 := digs_len_le (by decide)
 have ho := rOrder_ok (n := 1) (m := 1) (by omega)
 have hcm : ncmp 1 1 = 0 := rfl
 have hdne : ¬ (((limbs q.den).length : Nat) : Int) = 0 := by rw [limbs_len0]; exact q.den_nz
 have hright : dendronref03_Right (canQ q) = some true := by
  have hfin : ((dendronref01_From (limbs q.num.natAbs)).bind fun r3 => (dendronref01_From (limbs q.den)).bind fun r4 => (dendronref01_Gcd r3 r4).bind fun r5 => (dendronref01_Small 1).bind fun r6 => (dendronref01_Order r5 r6).bind fun r7 => some (decide (r7 = 0))) = some true := by
    rw [f1, Option.bind_some, f2, Option.bind_some, hg, Option.bind_some, s1, Option.bind_some, ho, Option.bind_some, hcm]; rfl
  rw [show canQ q = ((decide (q.num < 0), limbs q.num.natAbs), limbs q.den) from rfl, dendronref03_Right, rRight_ok (show (limbs q.num.natAbs).length < 4398046511104 by omega), Option.bind_some, Bool.not_true, cond_false, rRight_ok (show (limbs q.den).length < 4398046511104 by omega), Option.bind_some, Bool.not_true, cond_false, cnd' hdne]
  by_cases hz0 : q.num.natAbs = 0
  · have hnn : ¬ q.num < 0 := by omega
    have hl0 : (((limbs q.num.natAbs).length : Nat) : Int) = 0 := limbs_len0.2 hz0
    rw [cnd hl0, cnd' hnn]
    exact hfin
  · have hl0 : ¬ (((limbs q.num.natAbs).length : Nat) : Int) = 0 := by rw [limbs_len0]; exact hz0
    rw [cnd' hl0]
    exact hfin
 have hfrom : dendronref03_From (canQ q) = some (digsI q.num, digs q.den) := by
  have hdne2 : ¬ (((digs q.den).length : Nat) : Int) = 0 := by rw [digs_len0]; exact q.den_nz
  have f3 := rFromI_ok (a := limbsI q.num) (by show (limbs _).length < _; omega)
  rw [wv_limbsI] at f3
  rw [dendronref03_From]
  simp only [canQ, f2, Option.bind_some, f3]
  exact cnd' hdne2
 have m1 := rITimes_ok (x := q.num) (y := (d : Int)) (by omega) (by rw [Int.natAbs_natCast]; omega)
 have m2 := rITimes_ok (x := z) (y := (q.den : Int)) (by omega) (by rw [Int.natAbs_natCast]; omega)
 have l1 := digs_mul_len q.num.natAbs d
 have l2 := digs_mul_len z.natAbs q.den
 have oo := rIOrder_ok (x := q.num * (d : Int)) (y := z * (q.den : Int)) (by rw [Int.natAbs_mul, Int.natAbs_natCast]; omega) (by rw [Int.natAbs_mul, Int.natAbs_natCast]; omega)
 have k1 := rMake_ok false d
 have k2 := rMake_ok false q.den
 have horder : dendronref03_Order (digsI q.num, digs q.den) (digsI z, digs d) = some (icmp (q.num * (d : Int)) (z * (q.den : Int))) := by
  rw [dendronref03_Order]
  simp only [dendronref03_den, k1, k2, Option.bind_some, Bool.false_eq_true, if_false, m1, m2, oo]
 have hiff : icmp (q.num * (d : Int)) (z * (q.den : Int)) = 0 ↔ q = rv b := by
  rw [hv]
  have h1 : icmp (q.num * (d : Int)) (z * (q.den : Int)) = 0 ↔ q.num * (d : Int) = z * (q.den : Int) := by
    unfold icmp; (repeat' split) <;> omega
  rw [h1]
  conv => rhs; rw [← Rat.mkRat_self q]
  rw [Rat.mkRat_eq_iff q.den_nz (by omega)]
 rw [dendronref10_Is, hf, Option.bind_some, dendronref03_Is, hright, Option.bind_some, cond_true, hfrom, Option.bind_some, horder, Option.bind_some, Option.bind_some]
 congr 1
 rw [decide_eq_decide]
 exact hiff
def rsum (f : Nat → Rat) : Nat → Rat
 | 0 => 0
 | n + 1 => rsum f n + f n
theorem rsum_sz {f : Nat → Rat} {k n : Nat} (h : ∀ i, i < n → SzQ (f i) k) : SzQ (rsum f n) (1 + n * (k + 1)) := by
 induction n with
 | zero => simpa [rsum] using SzQ.zero
 | succ n ih =>
  have := (ih fun i hi => h i (by omega)).add (h n (by omega))
  simp only [rsum]
  exact this.mono (by rw [Nat.add_mul]; omega)
def vabs (l : List RAT) (i : Nat) : Rat := rabs (vals l i)
def vsum (l : List RAT) : Rat := rsum (vabs l) l.length
def shareQ (l : List RAT) (i : Nat) : Rat := vabs l i / vsum l
def shareL (l : List RAT) (n : Nat) : List RAT := (List.range n).map fun i => canQ (shareQ l i)
@[simp] theorem shareL_len (l : List RAT) (n : Nat) : (shareL l n).length = n := by simp [shareL]
section
variable {l : List RAT} (hsz : ∀ x ∈ l, SzR x 2) (hlen : l.length ≤ 33)
include hsz
end
theorem ratio_Sum_ok {l : List RAT} {k : Nat} (hs : ∀ x ∈ l, Sm x) (hk : ∀ i, i < l.length → SzQ (vals l i) k) (hl : 1 + l.length * (k + 1) < 1099511627776) (hlen : l.length < 4398046511104) : ratio_Sum l = some (canQ (rsum (vals l) l.length)) := by
 have hpart : ∀ i, i ≤ l.length → Sm (canQ (rsum (vals l) i)) := by
  intro i hi
  have h1 := rsum_sz (f := vals l) (k := k) (n := i) (fun j hj => hk j (by omega))
  refine h1.sm (Nat.lt_of_le_of_lt ?_ hl)
  have := Nat.mul_le_mul_right (k + 1) hi
  omega
 have key := lp_up (step := ratio_Sum_s3) (fun i => ((l, ((l.length : Nat) : Int), (i : Int), ()), ((false, [], [], ()), ((canQ (rsum (vals l) i)).1.1, (canQ (rsum (vals l) i)).1.2, (canQ (rsum (vals l) i)).2, ()), ()))) l.length
  (r := ((), ((false, [], [], ()), ((canQ (rsum (vals l) l.length)).1.1, (canQ (rsum (vals l) l.length)).1.2, (canQ (rsum (vals l) l.length)).2, ()), ()))) (by omega) (by
  intro g i hi
  have d0 : (i : Int) < ((l.length : Nat) : Int) := by omega
  have d1 : (0 : Int) ≤ (i : Int) := by omega
  have hp := ratio_Add_ok (hpart i (Nat.le_of_lt hi)) (hs _ (List.getElem_mem hi))
  rw [rv_canQ, ← vals_get hi] at hp
  have hp' : ratio_Add (((canQ (rsum (vals l) i)).1.1, (canQ (rsum (vals l) i)).1.2), (canQ (rsum (vals l) i)).2) l[i] = some (canQ (rsum (vals l) (i + 1))) := hp
  rw [ratio_Sum_s3, cnd d0, cnd d1, Int.toNat_natCast, List.getElem?_eq_getElem hi, Option.bind_some, hp', Option.bind_some, iadd1 (by omega)]
  rfl) (by
  intro g
  rw [ratio_Sum_s3, cnd' (by omega)])
 have key' : lp ratio_Sum_s3 K0 ((l, ((l.length : Nat) : Int), 0, ()), ((false, [], [], ()), ((canQ 0).1.1, (canQ 0).1.2, (canQ 0).2, ()), ())) = _ := key
 rw [ratio_Sum, ratio_Zero_ok, Option.bind_some, key']
 rfl
theorem ratio_Mean_ok {l : List RAT} {k : Nat} (hs : ∀ x ∈ l, Sm x) (hk : ∀ i, i < l.length → SzQ (vals l i) k) (hl : 1 + l.length * (k + 1) < 1099511627776) (hlen : l.length < 4294967296) (h0 : l.length ≠ 0) :
  ratio_Mean l = some (canQ (rsum (vals l) l.length / ((l.length : Int) : Rat)), 0) := by
 have c0 : ¬ ((l.length : Nat) : Int) = 0 := by omega
 have hsum := ratio_Sum_ok hs hk hl (by omega)
 have hof := ratio_Of_ok (n := (l.length : Int)) (by omega) (by omega)
 have s1 := rsum_sz hk
 have s2 := SzQ.int (z := (l.length : Int)) (by omega)
 have hne : rv (canQ ((l.length : Int) : Rat)) ≠ 0 := by
  rw [rv_canQ]
  intro e
  have := congrArg Rat.num e
  rw [Rat.num_intCast, Rat.zero_num] at this
  omega
 have hov := ratio_over_ok (s1.sm hl) (s2.sm (by decide)) hne
 rw [rv_canQ, rv_canQ] at hov
 rw [ratio_Mean, cnd' c0, hsum, Option.bind_some, hof, Option.bind_some, hov]
 rfl
theorem lp_all' {V T : Type} {step : (V → Option T) → V → Option T} (f : Nat → V) (n : Nat) (ok : Nat → Prop) (bad : Nat → T) (fin : T)
  (hs : ∀ i, i < n → (ok i ∧ ∀ g, step g (f i) = g (f (i + 1))) ∨ (¬ ok i ∧ ∀ g, step g (f i) = some (bad i))) (he : ∀ g, step g (f n) = some fin) :
  ∀ (d i m : Nat), i + d = n → d < m → (∀ j, j < i → ok j) → ((∀ i, i < n → ok i) ∧ lp step m (f i) = some fin) ∨ ∃ j, j < n ∧ ¬ ok j ∧ lp step m (f i) = some (bad j) := by
 intro d
 induction d with
 | zero =>
  intro i m hi hm hok
  obtain ⟨m, rfl⟩ : ∃ k, m = k + 1 := ⟨m - 1, by omega⟩
  have : i = n := by omega
  subst this
  exact .inl ⟨hok, he _⟩
 | succ d ih =>
  intro i m hi hm hok
  obtain ⟨m, rfl⟩ : ∃ k, m = k + 1 := ⟨m - 1, by omega⟩
  rcases hs i (by omega) with ⟨h1, h2⟩ | ⟨h1, h2⟩
  · have := ih (i + 1) m (by omega) (by omega) (fun j hj => by
     by_cases e : j = i
     · subst e; exact h1
     · exact hok j (by omega))
    have e : lp step (m + 1) (f i) = lp step m (f (i + 1)) := h2 _
    rw [e]; exact this
  · exact .inr ⟨i, by omega, h1, h2 _⟩
theorem lp_all {V T : Type} {step : (V → Option T) → V → Option T} (f : Nat → V) (n : Nat) (ok : Nat → Prop) (bad : Nat → T) (fin : T) (hn : n < 18446744073709551616)
  (hs : ∀ i, i < n → (ok i ∧ ∀ g, step g (f i) = g (f (i + 1))) ∨ (¬ ok i ∧ ∀ g, step g (f i) = some (bad i))) (he : ∀ g, step g (f n) = some fin) :
  ((∀ i, i < n → ok i) ∧ lp step K0 (f 0) = some fin) ∨ ∃ i, i < n ∧ ¬ ok i ∧ lp step K0 (f 0) = some (bad i) :=
 lp_all' f n ok bad fin hs he n 0 K0 (by omega) hn (fun j h => by omega)
abbrev nLeaf (n : NODE) : Bool := n.1
abbrev nFeat (n : NODE) : Int := n.2.1
abbrev nCut (n : NODE) : RAT := n.2.2.1
abbrev nL (n : NODE) : Int := n.2.2.2.1
abbrev nR (n : NODE) : Int := n.2.2.2.2.1
abbrev nMiss (n : NODE) : Bool := n.2.2.2.2.2.1
abbrev nVal (n : NODE) : RAT := n.2.2.2.2.2.2.1
abbrev nCov (n : NODE) : RAT := n.2.2.2.2.2.2.2
def NSz (n : NODE) (k : Nat) : Prop := SzR (nCut n) k ∧ SzR (nVal n) k ∧ SzR (nCov n) k
def TSz (t : List NODE) (k : Nat) : Prop := ∀ n ∈ t, NSz n k
def RangesP (t : List NODE) (f : Int) : Prop := ∀ i (h : i < t.length), nLeaf t[i] = false → 0 ≤ nFeat t[i] ∧ nFeat t[i] < f ∧ 1 ≤ nL t[i] ∧ nL t[i] < t.length ∧ 1 ≤ nR t[i] ∧ nR t[i] < t.length
def CoversP (t : List NODE) : Prop := ∀ i (h : i < t.length), 0 < rv (nCov t[i])
def cov (t : List NODE) (i : Nat) : Rat := rv (nCov ((t[i]?).getD (false, 0, ((false, []), []), 0, 0, false, ((false, []), []), ((false, []), []))))
theorem cov_get {t : List NODE} {i : Nat} (h : i < t.length) : cov t i = rv (nCov t[i]) := by simp [cov, h]
def SumsP (t : List NODE) : Prop := ∀ i (h : i < t.length), nLeaf t[i] = false → rv (nCov t[i]) = cov t (nL t[i]).toNat + cov t (nR t[i]).toNat
theorem ranges_ok {t : List NODE} {f : Int} (hl : t.length < 4294967296) : ∃ a e, valid_ranges t f = some (a, e) ∧ (e = 0 ↔ RangesP t f) := by
 rcases lp_all (step := valid_ranges_s2) (fun i => ((t, f, t, ((t.length : Nat) : Int), (i : Int), ()), ())) t.length
   (fun i => ∀ h : i < t.length, nLeaf t[i] = false → 0 ≤ nFeat t[i] ∧ nFeat t[i] < f ∧ 1 ≤ nL t[i] ∧ nL t[i] < t.length ∧ 1 ≤ nR t[i] ∧ nR t[i] < t.length)
   (fun i => .inr (((i : Int), 8, ()), ())) (.inl ((), ())) (by omega) (by
    intro i hi
    have d0 : (i : Int) < ((t.length : Nat) : Int) := by omega
    have d1 : (0 : Int) ≤ (i : Int) := by omega
    have head : ∀ g, valid_ranges_s2 g ((t, f, t, ((t.length : Nat) : Int), (i : Int), ()), ()) = bif nLeaf t[i] then (g ((t, f, t, ((t.length : Nat) : Int), ((i + 1 : Nat) : Int), ()), ())) else (bif (decide (nFeat t[i] < 0)) then (some (.inr (((i : Int), 8, ()), ()))) else (bif (decide (nFeat t[i] ≥ f)) then (some (.inr (((i : Int), 8, ()), ()))) else (bif (decide (nL t[i] < 1)) then (some (.inr (((i : Int), 8, ()), ()))) else (bif (decide (nL t[i] ≥ (t.length : Int))) then (some (.inr (((i : Int), 8, ()), ()))) else (bif (decide (nR t[i] < 1)) then (some (.inr (((i : Int), 8, ()), ()))) else (bif (decide (nR t[i] ≥ (t.length : Int))) then (some (.inr (((i : Int), 8, ()), ()))) else (g ((t, f, t, ((t.length : Nat) : Int), ((i + 1 : Nat) : Int), ()), ())))))))) := by
     intro g
     rw [valid_ranges_s2, cnd d0, cnd d1, Int.toNat_natCast, List.getElem?_eq_getElem hi, Option.bind_some, iadd1 (by omega)]
     rfl
    cases hleaf : nLeaf t[i] with
    | true => exact .inl ⟨fun h h2 => absurd h2 (by rw [hleaf]; decide), fun g => by rw [head, hleaf]; rfl⟩
    | false =>
     by_cases h : 0 ≤ nFeat t[i] ∧ nFeat t[i] < f ∧ 1 ≤ nL t[i] ∧ nL t[i] < t.length ∧ 1 ≤ nR t[i] ∧ nR t[i] < t.length
     · refine .inl ⟨fun _ _ => h, fun g => ?_⟩
       obtain ⟨h1, h2, h3, h4, h5, h6⟩ := h
       rw [head, hleaf, cond_false, cnd' (by omega), cnd' (by omega), cnd' (by omega), cnd' (by omega), cnd' (by omega), cnd' (by omega)]
     · refine .inr ⟨fun h' => h (h' hi hleaf), fun g => ?_⟩
       rw [head, hleaf, cond_false]
       by_cases h1 : nFeat t[i] < 0
       · rw [cnd h1]
       by_cases h2 : nFeat t[i] ≥ f
       · rw [cnd' h1, cnd h2]
       by_cases h3 : nL t[i] < 1
       · rw [cnd' h1, cnd' h2, cnd h3]
       by_cases h4 : nL t[i] ≥ (t.length : Int)
       · rw [cnd' h1, cnd' h2, cnd' h3, cnd h4]
       by_cases h5 : nR t[i] < 1
       · rw [cnd' h1, cnd' h2, cnd' h3, cnd' h4, cnd h5]
       by_cases h6 : nR t[i] ≥ (t.length : Int)
       · rw [cnd' h1, cnd' h2, cnd' h3, cnd' h4, cnd' h5, cnd h6]
       exfalso; apply h; omega) (by
    intro g
    rw [valid_ranges_s2, cnd' (by omega)]) with ⟨h, hlp⟩ | ⟨i, hi, h, hlp⟩
 · have hlp : lp valid_ranges_s2 K0 ((t, f, t, ((t.length : Nat) : Int), 0, ()), ()) = some (.inl ((), ())) := hlp
   refine ⟨0, 0, by rw [valid_ranges, hlp]; rfl, ?_⟩
   exact ⟨fun _ i hi => h i hi hi, fun _ => rfl⟩
 · have hlp : lp valid_ranges_s2 K0 ((t, f, t, ((t.length : Nat) : Int), 0, ()), ()) = some (.inr (((i : Int), 8, ()), ())) := hlp
   refine ⟨(i : Int), 8, by rw [valid_ranges, hlp]; rfl, ?_⟩
   exact ⟨fun e => (by cases e), fun hp => absurd (fun hh => hp i hh) h⟩
theorem covers_ok {t : List NODE} (hl : t.length < 4294967296) {k : Nat} (hs : TSz t k) (hk : k < 1099511627776) : ∃ a e, valid_covers t = some (a, e) ∧ (e = 0 ↔ CoversP t) := by
 rcases lp_all (step := valid_covers_s2) (fun i => ((t, ((t.length : Nat) : Int), (i : Int), ()), ())) t.length (fun i => ∀ h : i < t.length, 0 < rv (nCov t[i]))
   (fun i => .inr (((i : Int), 12, ()), ())) (.inl ((), ())) (by omega) (by
    intro i hi
    have d0 : (i : Int) < ((t.length : Nat) : Int) := by omega
    have d1 : (0 : Int) ≤ (i : Int) := by omega
    have hsg := ratio_Sign_ok ((hs _ (List.getElem_mem hi)).2.2.sm hk)
    have head : ∀ g, valid_covers_s2 g ((t, ((t.length : Nat) : Int), (i : Int), ()), ()) = bif decide (rcmp (rv (nCov t[i])) 0 ≤ 0) then some (.inr (((i : Int), 12, ()), ())) else g ((t, ((t.length : Nat) : Int), ((i + 1 : Nat) : Int), ()), ()) := by
      intro g
      rw [valid_covers_s2, cnd d0, cnd d1, Int.toNat_natCast, List.getElem?_eq_getElem hi, Option.bind_some, hsg, Option.bind_some, iadd1 (by omega)]
      rfl
    by_cases h : 0 < rv (nCov t[i])
    · exact .inl ⟨fun _ => h, fun g => by rw [head, cnd' (fun h' => Rat.not_le.2 h (rcmp_le.1 h'))]⟩
    · exact .inr ⟨fun h' => h (h' hi), fun g => by rw [head, cnd (rcmp_le.2 (Rat.not_lt.1 h))]⟩) (by
    intro g
    rw [valid_covers_s2, cnd' (by omega)]) with ⟨h, hlp⟩ | ⟨i, hi, h, hlp⟩
 · have hlp : lp valid_covers_s2 K0 ((t, ((t.length : Nat) : Int), 0, ()), ()) = some (.inl ((), ())) := hlp
   exact ⟨0, 0, by rw [valid_covers, hlp]; rfl, fun _ i hi => h i hi hi, fun _ => rfl⟩
 · have hlp : lp valid_covers_s2 K0 ((t, ((t.length : Nat) : Int), 0, ()), ()) = some (.inr (((i : Int), 12, ()), ())) := hlp
   exact ⟨(i : Int), 12, by rw [valid_covers, hlp]; rfl, fun e => (by cases e), fun hp => absurd (fun hh => hp i hh) h⟩
theorem sums_ok {t : List NODE} {f : Int} (hl : t.length < 4294967296) {k : Nat} (hs : TSz t k) (hk : k < 500000000000) (hr : RangesP t f) : ∃ a e, valid_sums t = some (a, e) ∧ (e = 0 ↔ SumsP t) := by
 rcases lp_all (step := valid_sums_s2) (fun i => ((t, t, ((t.length : Nat) : Int), (i : Int), ()), ())) t.length (fun i => ∀ h : i < t.length, nLeaf t[i] = false → rv (nCov t[i]) = cov t (nL t[i]).toNat + cov t (nR t[i]).toNat)
   (fun i => .inr (((i : Int), 13, ()), ())) (.inl ((), ())) (by omega) (by
    intro i hi
    have d0 : (i : Int) < ((t.length : Nat) : Int) := by omega
    have d1 : (0 : Int) ≤ (i : Int) := by omega
    cases hleaf : nLeaf t[i] with
    | true =>
     refine .inl ⟨fun h h2 => absurd h2 (by rw [hleaf]; decide), fun g => ?_⟩
     rw [valid_sums_s2, cnd d0, cnd d1, Int.toNat_natCast, List.getElem?_eq_getElem hi, Option.bind_some, show t[i].1 = true from hleaf, iadd1 (by omega)]
     rfl
    | false =>
     obtain ⟨r1, r2, r3, r4, r5, r6⟩ := hr i hi hleaf
     have l1 : (nL t[i]).toNat < t.length := by omega
     have l2 : (nR t[i]).toNat < t.length := by omega
     have c1 : (0 : Int) ≤ nL t[i] := by omega
     have c2 : (0 : Int) ≤ nR t[i] := by omega
     have z1 := (hs _ (List.getElem_mem l1)).2.2
     have z2 := (hs _ (List.getElem_mem l2)).2.2
     have z0 := (hs _ (List.getElem_mem hi)).2.2
     have hadd := ratio_Add_ok (z1.sm (by omega)) (z2.sm (by omega))
     rw [← cov_get l1, ← cov_get l2] at hadd
     have zz : SzQ (cov t (nL t[i]).toNat + cov t (nR t[i]).toNat) (max k 1 + max k 1 + 1) := by
       rw [cov_get l1, cov_get l2]
       have y1 : SzR (nCov t[(nL t[i]).toNat]) (max k 1) := ⟨Nat.le_trans z1.1 (Nat.le_max_left _ _), Nat.le_trans z1.2 (Nat.le_max_left _ _)⟩
       have y2 : SzR (nCov t[(nR t[i]).toNat]) (max k 1) := ⟨Nat.le_trans z2.1 (Nat.le_max_left _ _), Nat.le_trans z2.2 (Nat.le_max_left _ _)⟩
       exact (y1.szQ (by omega)).add (y2.szQ (by omega))
     have hsame := ratio_Same_ok (z0.sm (by omega)) (zz.sm (by omega))
     rw [rv_canQ] at hsame
     have head : ∀ g, valid_sums_s2 g ((t, t, ((t.length : Nat) : Int), (i : Int), ()), ()) = bif (!decide (rv (nCov t[i]) = cov t (nL t[i]).toNat + cov t (nR t[i]).toNat)) then some (.inr (((i : Int), 13, ()), ())) else g ((t, t, ((t.length : Nat) : Int), ((i + 1 : Nat) : Int), ()), ()) := by
       intro g
       rw [valid_sums_s2, cnd d0, cnd d1, Int.toNat_natCast, List.getElem?_eq_getElem hi, Option.bind_some, show t[i].1 = false from hleaf, Bool.not_false, cond_true, cnd c1, List.getElem?_eq_getElem l1, Option.bind_some, cnd c2, List.getElem?_eq_getElem l2, Option.bind_some, hadd, Option.bind_some, hsame, Option.bind_some, iadd1 (by omega)]
       rfl
     by_cases h : rv (nCov t[i]) = cov t (nL t[i]).toNat + cov t (nR t[i]).toNat
     · exact .inl ⟨fun _ _ => h, fun g => by rw [head, decide_eq_true h]; rfl⟩
     · exact .inr ⟨fun h' => h (h' hi hleaf), fun g => by rw [head, decide_eq_false h]; rfl⟩) (by
    intro g
    rw [valid_sums_s2, cnd' (by omega)]) with ⟨h, hlp⟩ | ⟨i, hi, h, hlp⟩
 · have hlp : lp valid_sums_s2 K0 ((t, t, ((t.length : Nat) : Int), 0, ()), ()) = some (.inl ((), ())) := hlp
   exact ⟨0, 0, by rw [valid_sums, hlp]; rfl, fun _ i hi => h i hi hi, fun _ => rfl⟩
 · have hlp : lp valid_sums_s2 K0 ((t, t, ((t.length : Nat) : Int), 0, ()), ()) = some (.inr (((i : Int), 13, ()), ())) := hlp
   exact ⟨(i : Int), 13, by rw [valid_sums, hlp]; rfl, fun e => (by cases e), fun hp => absurd (fun hh => hp i hh) h⟩
def kids (t : List NODE) (i : Nat) : List Nat :=
 match t[i]? with
 | some n => if nLeaf n then [] else [(nL n).toNat, (nR n).toNat]
 | none => []
theorem kids_leaf {t : List NODE} {i : Nat} (h : i < t.length) (hl : nLeaf t[i] = true) : kids t i = [] := by
 have hl' : t[i].1 = true := hl
 simp [kids, h, hl']
theorem kids_split {t : List NODE} {i : Nat} (h : i < t.length) (hl : nLeaf t[i] = false) : kids t i = [(nL t[i]).toNat, (nR t[i]).toNat] := by
 have hl' : t[i].1 = false := hl
 simp [kids, h, hl']
def cnt (t : List NODE) (i j : Nat) : Nat := ((List.range i).flatMap (kids t)).count j
theorem cnt_zero (t : List NODE) (j : Nat) : cnt t 0 j = 0 := by simp [cnt]
theorem cnt_succ (t : List NODE) (i j : Nat) : cnt t (i + 1) j = cnt t i j + (kids t i).count j := by
 simp [cnt, List.range_succ, List.flatMap_append]
theorem cnt_le (t : List NODE) (i j : Nat) : cnt t i j ≤ 2 * i := by
 induction i with
 | zero => simp [cnt_zero]
 | succ i ih =>
  rw [cnt_succ]
  have h1 : (kids t i).count j ≤ (kids t i).length := List.count_le_length
  have h2 : (kids t i).length ≤ 2 := by
   unfold kids
   split
   · split <;> simp
   · simp
  omega
def Ranked (t : List NODE) : Prop := ∃ rk : Nat → Nat, ∀ i, i < t.length → rk i ≤ t.length ∧ ∀ c ∈ kids t i, rk c < rk i
def ShapeP (t : List NODE) : Prop := (∀ j, 0 < j → j < t.length → cnt t t.length j = 1) ∧ Ranked t
theorem nodup_len : ∀ {n : Nat} {V : List Nat}, V.Nodup → (∀ x ∈ V, x < n) → V.length ≤ n
 | 0, V, _, h => by
  cases V with
  | nil => simp
  | cons x V => have := h x List.mem_cons_self; omega
 | n + 1, V, hnd, h => by
  by_cases hm : n ∈ V
  · have h1 : (V.erase n).Nodup := hnd.sublist List.erase_sublist
    have h2 : ∀ x ∈ V.erase n, x < n := by
     intro x hx
     have := (List.Nodup.mem_erase_iff hnd).1 hx
     have := h x this.2
     omega
    have h3 := nodup_len h1 h2
    have h4 := List.length_erase_of_mem hm
    omega
  · have := nodup_len hnd (n := n) (fun x hx => by
     have := h x hx
     have : x ≠ n := fun e => hm (e ▸ hx)
     omega)
    omega
section
variable {t : List NODE} {f : Int}
theorem kids_lt (hr : RangesP t f) {i c : Nat} (hi : i < t.length) (hc : c ∈ kids t i) : 0 < c ∧ c < t.length := by
 cases hl : nLeaf t[i] with
 | true => rw [kids_leaf hi hl] at hc; cases hc
 | false =>
  obtain ⟨_, _, h1, h2, h3, h4⟩ := hr i hi hl
  rw [kids_split hi hl] at hc
  simp at hc
  rcases hc with rfl | rfl <;> omega
theorem cnt_split (t : List NODE) (j : Nat) {a n : Nat} (ha : a < n) : (kids t a).count j ≤ cnt t n j := by
 induction n with
 | zero => omega
 | succ n ih =>
  rw [cnt_succ]
  by_cases e : a = n
  · subst e; omega
  · have := ih (by omega); omega
theorem cnt_two (t : List NODE) (j : Nat) {a b n : Nat} (hab : a < b) (hb : b < n) : (kids t a).count j + (kids t b).count j ≤ cnt t n j := by
 induction n with
 | zero => omega
 | succ n ih =>
  rw [cnt_succ]
  by_cases e : b = n
  · subst e
    have := cnt_split t j hab
    omega
  · have := ih (by omega); omega
theorem parent_one (hc : ∀ j, 0 < j → j < t.length → cnt t t.length j = 1) (hr : RangesP t f) {a b j : Nat} (ha : a < t.length) (hb : b < t.length) (h1 : j ∈ kids t a) (h2 : j ∈ kids t b) : a = b := by
 obtain ⟨j0, jl⟩ := kids_lt hr ha h1
 have c1 := List.count_pos_iff.2 h1
 have c2 := List.count_pos_iff.2 h2
 have := hc j j0 jl
 rcases Nat.lt_trichotomy a b with h | h | h
 · have := cnt_two t j h hb; omega
 · exact h
 · have := cnt_two t j h ha; omega
theorem kids_nodup (hc : ∀ j, 0 < j → j < t.length → cnt t t.length j = 1) (hr : RangesP t f) {a : Nat} (ha : a < t.length) : (kids t a).Nodup := by
 rw [List.nodup_iff_count]
 intro j
 by_cases hj : j ∈ kids t a
 · obtain ⟨j0, jl⟩ := kids_lt hr ha hj
   have h1 := cnt_split t j ha
   have h2 := hc j j0 jl
   exact Nat.le_trans h1 (Nat.le_of_eq h2)
 · rw [List.count_eq_zero_of_not_mem hj]; omega
theorem has_parent (hc : ∀ j, 0 < j → j < t.length → cnt t t.length j = 1) {j : Nat} (h0 : 0 < j) (hj : j < t.length) : ∃ p, p < t.length ∧ j ∈ kids t p := by
 have h1 := hc j h0 hj
 have h2 : j ∈ (List.range t.length).flatMap (kids t) := List.count_pos_iff.1 (by rw [← cnt, h1]; omega)
 obtain ⟨p, hp, hm⟩ := List.mem_flatMap.1 h2
 exact ⟨p, by simpa using hp, hm⟩
end
structure Srch (t : List NODE) (V S : List Nat) : Prop where
 nd : (V ++ S).Nodup
 lt : ∀ x ∈ V ++ S, x < t.length
 par : ∀ c ∈ V ++ S, c ≠ 0 → ∃ p ∈ V, c ∈ kids t p
 kid : ∀ p ∈ V, ∀ c ∈ kids t p, c ∈ V ++ S
 root : 0 ∈ V ++ S
 ord : V.Pairwise fun a b => a ∉ kids t b
 self : ∀ x ∈ V, x ∉ kids t x
theorem Srch.init {t : List NODE} (h : 0 < t.length) : Srch t [] [0] where
 nd := by simp
 lt := by simpa using h
 par := by simp
 kid := by simp
 root := by simp
 ord := List.Pairwise.nil
 self := by simp
theorem Srch.step {t : List NODE} {f : Int} (hc : ∀ j, 0 < j → j < t.length → cnt t t.length j = 1) (hr : RangesP t f) {V S : List Nat} {x : Nat} (h : Srch t V (S ++ [x])) : Srch t (V ++ [x]) (S ++ kids t x) := by
 have hxlt : x < t.length := h.lt x (by simp)
 have hnd := h.nd
 rw [← List.append_assoc, List.nodup_append] at hnd
 obtain ⟨n1, n2, n3⟩ := hnd
 have hxVS : x ∉ V ++ S := fun hx => n3 x hx x (by simp) rfl
 have hnew : ∀ c ∈ kids t x, c ∉ V ++ (S ++ [x]) := by
   intro c hcx hmem
   obtain ⟨c0, cl⟩ := kids_lt hr hxlt hcx
   obtain ⟨p, hp, hcp⟩ := h.par c hmem (by omega)
   have := parent_one hc hr (h.lt p (List.mem_append_left _ hp)) hxlt hcp hcx
   subst this
   exact hxVS (List.mem_append_left _ hp)
 have hperm : ((V ++ [x]) ++ (S ++ kids t x)).Perm ((V ++ (S ++ [x])) ++ kids t x) := by
   have e1 : (V ++ [x]) ++ (S ++ kids t x) = V ++ ([x] ++ S) ++ kids t x := by simp
   have e2 : (V ++ (S ++ [x])) ++ kids t x = V ++ (S ++ [x]) ++ kids t x := rfl
   rw [e1, e2]
   exact List.Perm.append_right _ (List.Perm.append_left _ List.perm_append_comm)
 have hmem : ∀ y, y ∈ (V ++ [x]) ++ (S ++ kids t x) ↔ y ∈ V ++ (S ++ [x]) ∨ y ∈ kids t x := by
   intro y; rw [hperm.mem_iff, List.mem_append]
 refine ⟨?_, ?_, ?_, ?_, ?_, ?_, ?_⟩
 · rw [hperm.nodup_iff, List.nodup_append]
   exact ⟨h.nd, kids_nodup hc hr hxlt, fun a ha b hb e => hnew b hb (e ▸ ha)⟩
 · intro y hy
   rcases (hmem y).1 hy with hy | hy
   · exact h.lt y hy
   · exact (kids_lt hr hxlt hy).2
 · intro c hcm hc0
   rcases (hmem c).1 hcm with hy | hy
   · obtain ⟨p, hp, hcp⟩ := h.par c hy hc0
     exact ⟨p, List.mem_append_left _ hp, hcp⟩
   · exact ⟨x, by simp, hy⟩
 · intro p hp c hcp
   rw [hmem]
   rcases List.mem_append.1 hp with hp | hp
   · exact .inl (h.kid p hp c hcp)
   · simp at hp; subst hp; exact .inr hcp
 · rw [hmem]; exact .inl h.root
 · rw [List.pairwise_append]
   refine ⟨h.ord, by simp, fun a ha b hb => ?_⟩
   simp at hb; subst hb
   intro hak
   exact hnew a hak (List.mem_append_left _ ha)
 · intro y hy
   rcases List.mem_append.1 hy with hy | hy
   · exact h.self y hy
   · simp at hy; subst hy
     intro hk
     exact hnew y hk (by simp)
theorem Srch.ranked {t : List NODE} {V : List Nat} (h : Srch t V []) (hall : ∀ i, i < t.length → i ∈ V) : Ranked t := by
 have hnd : V.Nodup := by simpa using h.nd
 have hlen : V.length ≤ t.length := nodup_len hnd (fun x hx => h.lt x (by simpa using hx))
 refine ⟨fun i => V.length - V.idxOf i, fun i hi => ⟨by show V.length - V.idxOf i ≤ t.length; omega, fun c hc => ?_⟩⟩
 have hiV := hall i hi
 have hcV : c ∈ V := by simpa using h.kid i hiV c hc
 have h1 : V.idxOf i < V.length := List.idxOf_lt_length_iff.2 hiV
 have h2 : V.idxOf c < V.length := List.idxOf_lt_length_iff.2 hcV
 have g1 : V[V.idxOf i] = i := List.getElem_idxOf h1
 have g2 : V[V.idxOf c] = c := List.getElem_idxOf h2
 have hne : ¬ V.idxOf c ≤ V.idxOf i := by
  intro hle
  by_cases e : V.idxOf c = V.idxOf i
  · have : c = i := by rw [← g1, ← g2]; simp [e]
    subst this
    exact h.self c hiV hc
  · have := List.pairwise_iff_getElem.1 h.ord _ _ h2 h1 (by omega)
    rw [g1, g2] at this
    exact this hc
 show V.length - V.idxOf c < V.length - V.idxOf i
 omega
theorem Srch.all {t : List NODE} {V : List Nat} (h : Srch t V []) (hc : ∀ j, 0 < j → j < t.length → cnt t t.length j = 1) (hrk : Ranked t) : ∀ i, i < t.length → i ∈ V := by
 obtain ⟨rk, hrk⟩ := hrk
 have key : ∀ (d i : Nat), i < t.length → t.length - rk i ≤ d → i ∈ V := by
  intro d
  induction d with
  | zero =>
   intro i hi hd
   by_cases h0 : i = 0
   · subst h0; simpa using h.root
   · obtain ⟨p, hp, hm⟩ := has_parent hc (by omega) hi
     have h1 := (hrk p hp).1
     have h2 := (hrk p hp).2 i hm
     omega
  | succ d ih =>
   intro i hi hd
   by_cases h0 : i = 0
   · subst h0; simpa using h.root
   · obtain ⟨p, hp, hm⟩ := has_parent hc (by omega) hi
     have h1 := (hrk p hp).1
     have h2 := (hrk p hp).2 i hm
     have := ih p hp (by omega)
     simpa using h.kid p this i hm
 exact fun i hi => key _ i hi (Nat.le_refl _)
def cntL (t : List NODE) (i : Nat) : List Int := (List.range t.length).map fun j => ((cnt t i j : Nat) : Int)
@[simp] theorem cntL_len (t : List NODE) (i : Nat) : (cntL t i).length = t.length := by simp [cntL]
theorem cntL_get {t : List NODE} {i j : Nat} (h : j < t.length) : (cntL t i)[j]? = some ((cnt t i j : Nat) : Int) := by simp [cntL, h]
theorem cntL_step {t : List NODE} {i a b : Nat} (ha : a < t.length) (hb : b < t.length) (hk : kids t i = [a, b]) :
   ((cntL t i).set a (((cnt t i a : Nat) : Int) + 1))[b]? = some ((cnt t i b + (if a = b then 1 else 0) : Nat) : Int) ∧
   ((cntL t i).set a (((cnt t i a : Nat) : Int) + 1)).set b (((cnt t i b + (if a = b then 1 else 0) : Nat) : Int) + 1) = cntL t (i + 1) := by
 constructor
 · rw [List.getElem?_set]
   by_cases e : a = b
   · subst e; simp [ha]
   · rw [if_neg e, cntL_get hb]; simp [e]
 · apply List.ext_getElem?
   intro j
   by_cases hj : j < t.length
   · rw [cntL_get hj, cnt_succ, hk, List.getElem?_set, List.getElem?_set]
     by_cases e1 : b = j
     · subst e1
       by_cases e2 : a = b
       · subst e2; simp [ha]; omega
       · simp [hb, e2, List.count_cons]
     · by_cases e2 : a = j
       · subst e2; simp [ha, e1, List.count_cons]
       · rw [if_neg e1, if_neg e2, cntL_get hj]; simp [List.count_cons, e1, e2]
   · rw [List.getElem?_eq_none (by simp; omega), List.getElem?_eq_none (by simp; omega)]
theorem shape_count {t : List NODE} {f : Int} (hl : t.length < 4294967296) (hr : RangesP t f) :
  lp valid_shape_s3 K0 ((t, List.replicate t.length 0, t, ((t.length : Nat) : Int), 0, ()), ()) = some ((t, cntL t t.length, ()), ()) := by
 have e0 : cntL t 0 = List.replicate t.length 0 := by simp [cntL, cnt_zero, List.map_const']
 have := lp_up (step := valid_shape_s3) (fun i => ((t, cntL t i, t, ((t.length : Nat) : Int), (i : Int), ()), ())) t.length (r := ((t, cntL t t.length, ()), ())) (by omega) (by
  intro g i hi
  have d0 : (i : Int) < ((t.length : Nat) : Int) := by omega
  have d1 : (0 : Int) ≤ (i : Int) := by omega
  cases hleaf : nLeaf t[i] with
  | true =>
   have : cntL t (i + 1) = cntL t i := by
    unfold cntL
    congr 1
    funext j
    rw [cnt_succ, kids_leaf hi hleaf]; simp
   rw [valid_shape_s3, cnd d0, cnd d1, Int.toNat_natCast, List.getElem?_eq_getElem hi, Option.bind_some, show t[i].1 = true from hleaf, iadd1 (by omega), this]
   rfl
  | false =>
   obtain ⟨r1, r2, r3, r4, r5, r6⟩ := hr i hi hleaf
   have hk := kids_split hi hleaf
   have l1 : (nL t[i]).toNat < t.length := by omega
   have l2 : (nR t[i]).toNat < t.length := by omega
   have c1 : (0 : Int) ≤ nL t[i] := by omega
   have c2 : (0 : Int) ≤ nR t[i] := by omega
   have c3 : nL t[i] < ((cntL t i).length : Int) := by rw [cntL_len]; omega
   obtain ⟨s1, s2⟩ := cntL_step l1 l2 hk
   have b1 := cnt_le t i (nL t[i]).toNat
   have b2 := cnt_le t i (nR t[i]).toNat
   have e1 : iadd .i64 ((cnt t i (nL t[i]).toNat : Nat) : Int) 1 = ((cnt t i (nL t[i]).toNat : Nat) : Int) + 1 := iadd1 (by omega)
   have e2 : iadd .i64 ((cnt t i (nR t[i]).toNat + (if (nL t[i]).toNat = (nR t[i]).toNat then 1 else 0) : Nat) : Int) 1 = ((cnt t i (nR t[i]).toNat + (if (nL t[i]).toNat = (nR t[i]).toNat then 1 else 0) : Nat) : Int) + 1 := iadd1 (by split <;> omega)
   have c4 : nR t[i] < (((cntL t i).set (nL t[i]).toNat (((cnt t i (nL t[i]).toNat : Nat) : Int) + 1)).length : Int) := by rw [List.length_set, cntL_len]; omega
   rw [valid_shape_s3, cnd d0, cnd d1, Int.toNat_natCast, List.getElem?_eq_getElem hi, Option.bind_some, show t[i].1 = false from hleaf, Bool.not_false, cond_true, cnd2 c1 c3, cntL_get l1, Option.bind_some, cnd2 c1 c3, Option.bind_some, e1, cnd2 c2 c4, s1, Option.bind_some, cnd2 c2 c4, Option.bind_some, e2, s2, iadd1 (by omega)]
   rfl) (by
  intro g
  rw [valid_shape_s3, cnd' (by omega)])
 rw [← e0]
 exact this
theorem shape_search {t : List NODE} {f : Int} (hl : t.length < 4294967296) (h0 : 0 < t.length) (hr : RangesP t f) (hc : ∀ j, 0 < j → j < t.length → cnt t t.length j = 1) :
  ∃ V, Srch t V [] ∧ lp valid_shape_s17 K0 ((t, List.replicate t.length false, [0], ()), ()) = some ((usedOf t.length V, ()), ()) := by
 obtain ⟨r, ⟨V, hV, rfl⟩, hlp⟩ := lp_wf (step := valid_shape_s17) (fun s => ∃ V S : List Nat, Srch t V S ∧ s = ((t, usedOf t.length V, ints S, ()), ())) (fun s => t.length + 1 - (s.1.2.1.filter id).length)
  (fun r => ∃ V, Srch t V [] ∧ r = ((usedOf t.length V, ()), ())) (v := ((t, List.replicate t.length false, [0], ()), ()))
  ⟨[], [0], Srch.init h0, by simp [usedOf, ints, List.map_const']⟩ (by simp; omega) (by
   rintro s ⟨V, S, hS, rfl⟩
   rcases List.eq_nil_or_concat S with rfl | ⟨S', x, hSx⟩
   · exact .inl ⟨_, ⟨V, hS, rfl⟩, fun g => by rw [valid_shape_s17, cnd' (by simp [ints])]⟩
   · rw [List.concat_eq_append] at hSx
     subst hSx
     have hnd := hS.nd
     have hVl : (V ++ (S' ++ [x])).length ≤ t.length := nodup_len hnd hS.lt
     have hSl : S'.length + 1 ≤ t.length := by simp at hVl; omega
     have hxlt : x < t.length := hS.lt x (by simp)
     have hst := Srch.step hc hr hS
     have hxV : x ∉ V := by
       intro hx
       rw [List.nodup_append] at hnd
       exact hnd.2.2 x hx x (by simp) rfl
     have hcount : ∀ U : List Nat, U.Nodup → (∀ y ∈ U, y < t.length) → ((usedOf t.length U).filter id).length = U.length := by
       intro U hU hlt
       have e1 : ((usedOf t.length U).filter id).length = ((List.range t.length).filter fun j => decide (j ∈ U)).length := by
         unfold usedOf
         rw [List.filter_map, List.length_map]; rfl
       rw [e1]
       refine List.Perm.length_eq ?_
       rw [List.perm_iff_count]
       intro a
       have n1 : ((List.range t.length).filter fun j => decide (j ∈ U)).Nodup := List.Nodup.sublist List.filter_sublist List.nodup_range
       have m1 : a ∈ ((List.range t.length).filter fun j => decide (j ∈ U)) ↔ a ∈ U := by
         simp; exact hlt a
       by_cases ha : a ∈ U
       · rw [List.Nodup.count hU, if_pos ha, List.Nodup.count n1, if_pos (m1.2 ha)]
       · rw [List.count_eq_zero_of_not_mem ha, List.count_eq_zero_of_not_mem (fun h => ha (m1.1 h))]
     have hVnd : V.Nodup := (List.nodup_append.1 hnd).1
     have hm1 := hcount V hVnd (fun y hy => hS.lt y (List.mem_append_left _ hy))
     have hVx : (V ++ [x]).Nodup := (List.nodup_append.1 hst.nd).1
     have hm2 := hcount (V ++ [x]) hVx (fun y hy => hst.lt y (List.mem_append_left _ hy))
     refine .inr ⟨_, ⟨V ++ [x], S' ++ kids t x, hst, rfl⟩, ?_, fun g => ?_⟩
     · show t.length + 1 - ((usedOf t.length (V ++ [x])).filter id).length < t.length + 1 - ((usedOf t.length V).filter id).length
       rw [hm1, hm2]
       simp at hVl ⊢; omega
     · have hlen : (ints (S' ++ [x])).length = S'.length + 1 := by simp
       have e1 : isub .i64 ((S'.length + 1 : Nat) : Int) 1 = ((S'.length : Nat) : Int) := by rw [isub_i] <;> omega
       have c0 : ((S'.length + 1 : Nat) : Int) > 0 := by omega
       have c1 : (0 : Int) ≤ ((S'.length : Nat) : Int) := by omega
       have c2 : ((S'.length : Nat) : Int) < ((S'.length + 1 : Nat) : Int) := by omega
       have g1 : (ints (S' ++ [x]))[S'.length]? = some ((x : Nat) : Int) := by simp [ints]
       have c3 : (decide ((0 : Int) ≤ ((S'.length : Nat) : Int)) && decide (((S'.length : Nat) : Int) ≤ ((S'.length : Nat) : Int)) && decide (((S'.length : Nat) : Int) ≤ ((S'.length + 1 : Nat) : Int))) = true := by
         rw [decide_eq_true c1, decide_eq_true (Int.le_refl _), decide_eq_true (Int.le_of_lt c2)]; rfl
       have c4 : (0 : Int) ≤ ((x : Nat) : Int) := by omega
       have c5 : ((x : Nat) : Int) < ((usedOf t.length V).length : Int) := by simp; omega
       have e2 : (((S'.length : Nat) : Int) - 0).toNat = S'.length := by omega
       have e3 : (ints (S' ++ [x])).take S'.length = ints S' := by simp [ints]
       rw [valid_shape_s17, hlen, cnd c0, e1, cnd2 c1 c2, Int.toNat_natCast, g1, Option.bind_some, c3, cond_true, cnd2 c4 c5, Int.toNat_natCast, usedOf_get hxlt, Option.bind_some, cnd c4, List.getElem?_eq_getElem hxlt, Option.bind_some, usedOf_set hxlt, e2, e3]
       cases hleaf : nLeaf t[x] with
       | true =>
         rw [show t[x].1 = true from hleaf, kids_leaf hxlt hleaf, List.append_nil]
         rfl
       | false =>
         obtain ⟨r1, r2, r3, r4, r5, r6⟩ := hr x hxlt hleaf
         have q1 : (((nL t[x]).toNat : Nat) : Int) = nL t[x] := by omega
         have q2 : (((nR t[x]).toNat : Nat) : Int) = nR t[x] := by omega
         have e4 : ints (S' ++ kids t x) = ints S' ++ [nL t[x], nR t[x]] := by
          rw [kids_split hxlt hleaf]
          simp only [ints, List.map_append, List.map_cons, List.map_nil, q1, q2]
         have hb8 : ((ints S').length + 2) * 8 ≤ 140737488355328 := by rw [ints_len]; omega
         rw [show t[x].1 = false from hleaf, blt hb8, cond_true, Bool.not_false, cond_true, e4])
 exact ⟨V, hV, hlp⟩
theorem shape_ok {t : List NODE} {f : Int} (hl : t.length < 4294967296) (h0 : 0 < t.length) (hr : RangesP t f) : ∃ a e, valid_shape t = some (a, e) ∧ (e = 0 ↔ ShapeP t) := by
 have hcount := shape_count hl hr
 have gd : (decide ((t.length : Int) = (t.length : Int)) && decide (0 ≤ (t.length : Int)) && decide (((8 : Nat) : Int) * (t.length : Int) ≤ 281474976710656) && decide ((t.length : Int) ≤ 9223372036854775807)) = true := by
   have h1 : (0 : Int) ≤ (t.length : Int) := by omega
   have h2 : ((8 : Nat) : Int) * (t.length : Int) ≤ 281474976710656 := by omega
   have h3 : (t.length : Int) ≤ 9223372036854775807 := by omega
   rw [decide_eq_true h1, decide_eq_true h2, decide_eq_true h3, decide_eq_true rfl]; rfl
 have gd1 : (decide ((t.length : Int) = (t.length : Int)) && decide (0 ≤ (t.length : Int)) && decide (((1 : Nat) : Int) * (t.length : Int) ≤ 281474976710656) && decide ((t.length : Int) ≤ 9223372036854775807)) = true := by
   have h1 : (0 : Int) ≤ (t.length : Int) := by omega
   have h2 : ((1 : Nat) : Int) * (t.length : Int) ≤ 281474976710656 := by omega
   have h3 : (t.length : Int) ≤ 9223372036854775807 := by omega
   rw [decide_eq_true h1, decide_eq_true h2, decide_eq_true h3, decide_eq_true rfl]; rfl
 rw [valid_shape, gd, cond_true, Int.toNat_natCast, hcount, Option.bind_some, cntL_len]
 rcases lp_all (step := valid_shape_s10) (fun i => ((t, cntL t t.length, ((t.length : Nat) : Int), (i : Int), ()), ())) t.length (fun i => i = 0 ∨ cnt t t.length i = 1) (fun i => .inr (((i : Int), 11, ()), ())) (.inl ((t, ()), ())) (by omega) (by
     intro i hi
     have d0 : (i : Int) < ((t.length : Nat) : Int) := by omega
     have d1 : (0 : Int) ≤ (i : Int) := by omega
     have d2 : (i : Int) < ((cntL t t.length).length : Int) := by rw [cntL_len]; omega
     by_cases hi0 : i = 0
     · refine .inl ⟨.inl hi0, fun g => ?_⟩
       rw [valid_shape_s10, cnd d0, cnd2 d1 d2, Int.toNat_natCast, cntL_get hi, Option.bind_some, cnd' (by omega), iadd1 (by omega)]
       rfl
     · by_cases h1 : cnt t t.length i = 1
       · refine .inl ⟨.inr h1, fun g => ?_⟩
         rw [valid_shape_s10, cnd d0, cnd2 d1 d2, Int.toNat_natCast, cntL_get hi, Option.bind_some, cnd (by omega), decide_eq_true (by omega), iadd1 (by omega)]
         rfl
       · refine .inr ⟨fun h => by rcases h with h | h <;> contradiction, fun g => ?_⟩
         rw [valid_shape_s10, cnd d0, cnd2 d1 d2, Int.toNat_natCast, cntL_get hi, Option.bind_some, cnd (by omega), decide_eq_false (by omega)]
         rfl) (by
     intro g
     rw [valid_shape_s10, cnd' (by omega)]) with ⟨h, hlp⟩ | ⟨i, hi, h, hlp⟩
 · have hlp : lp valid_shape_s10 K0 ((t, cntL t t.length, ((t.length : Nat) : Int), 0, ()), ()) = some (.inl ((t, ()), ())) := hlp
   have hc : ∀ j, 0 < j → j < t.length → cnt t t.length j = 1 := fun j h1 h2 => by
     rcases h j h2 with h3 | h3
     · omega
     · exact h3
   obtain ⟨V, hV, hlp2⟩ := shape_search hl h0 hr hc
   rw [hlp, Option.bind_some]
   dsimp only
   rw [gd1, cond_true, Int.toNat_natCast, hlp2, Option.bind_some]
   dsimp only
   rw [usedOf_len]
   rcases lp_all (step := valid_shape_s25) (fun i => ((usedOf t.length V, ((t.length : Nat) : Int), (i : Int), ()), ())) t.length (fun i => i ∈ V) (fun i => .inr (((i : Int), 11, ()), ())) (.inl ((), ())) (by omega) (by
       intro i hi
       have d0 : (i : Int) < ((t.length : Nat) : Int) := by omega
       have d1 : (0 : Int) ≤ (i : Int) := by omega
       have d2 : (i : Int) < ((usedOf t.length V).length : Int) := by rw [usedOf_len]; omega
       by_cases hiV : i ∈ V
       · refine .inl ⟨hiV, fun g => ?_⟩
         rw [valid_shape_s25, cnd d0, cnd2 d1 d2, Int.toNat_natCast, usedOf_get hi, Option.bind_some, decide_eq_true hiV, iadd1 (by omega)]
         rfl
       · refine .inr ⟨hiV, fun g => ?_⟩
         rw [valid_shape_s25, cnd d0, cnd2 d1 d2, Int.toNat_natCast, usedOf_get hi, Option.bind_some, decide_eq_false hiV]
         rfl) (by
       intro g
       rw [valid_shape_s25, cnd' (by omega)]) with ⟨h2, hlp3⟩ | ⟨i, hi, h2, hlp3⟩
   · have hlp3 : lp valid_shape_s25 K0 ((usedOf t.length V, ((t.length : Nat) : Int), 0, ()), ()) = some (.inl ((), ())) := hlp3
     rw [hlp3]
     exact ⟨0, 0, rfl, fun _ => ⟨hc, hV.ranked h2⟩, fun _ => rfl⟩
   · have hlp3 : lp valid_shape_s25 K0 ((usedOf t.length V, ((t.length : Nat) : Int), 0, ()), ()) = some (.inr (((i : Int), 11, ()), ())) := hlp3
     rw [hlp3]
     exact ⟨(i : Int), 11, rfl, fun e => (by cases e), fun hp => absurd (hV.all hc hp.2 i hi) h2⟩
 · have hlp : lp valid_shape_s10 K0 ((t, cntL t t.length, ((t.length : Nat) : Int), 0, ()), ()) = some (.inr (((i : Int), 11, ()), ())) := hlp
   rw [hlp]
   refine ⟨(i : Int), 11, rfl, fun e => (by cases e), fun hp => ?_⟩
   exfalso; apply h
   by_cases hi0 : i = 0
   · exact .inl hi0
   · exact .inr (hp.1 i (by omega) hi)
theorem lp_allh' {V T : Type} {step : (V → Option T) → V → Option T} (f : Nat → V) (n : Nat) (ok : Nat → Prop) (Q : T → Prop) (fin : T)
  (hs : ∀ i, i < n → (∀ j, j < i → ok j) → (ok i ∧ ∀ g, step g (f i) = g (f (i + 1))) ∨ (¬ ok i ∧ ∃ r, Q r ∧ ∀ g, step g (f i) = some r)) (he : ∀ g, step g (f n) = some fin) :
  ∀ (d i m : Nat), i + d = n → d < m → (∀ j, j < i → ok j) → ((∀ i, i < n → ok i) ∧ lp step m (f i) = some fin) ∨ (¬ (∀ i, i < n → ok i) ∧ ∃ r, Q r ∧ lp step m (f i) = some r) := by
 intro d
 induction d with
 | zero =>
  intro i m hi hm hok
  obtain ⟨m, rfl⟩ : ∃ k, m = k + 1 := ⟨m - 1, by omega⟩
  have : i = n := by omega
  subst this
  exact .inl ⟨hok, he _⟩
 | succ d ih =>
  intro i m hi hm hok
  obtain ⟨m, rfl⟩ : ∃ k, m = k + 1 := ⟨m - 1, by omega⟩
  rcases hs i (by omega) hok with ⟨h1, h2⟩ | ⟨h1, r, h2, h3⟩
  · have := ih (i + 1) m (by omega) (by omega) (fun j hj => by
     by_cases e : j = i
     · subst e; exact h1
     · exact hok j (by omega))
    have e : lp step (m + 1) (f i) = lp step m (f (i + 1)) := h2 _
    rw [e]; exact this
  · exact .inr ⟨fun h => h1 (h i (by omega)), r, h2, h3 _⟩
theorem lp_allh {V T : Type} {step : (V → Option T) → V → Option T} (f : Nat → V) (n : Nat) (ok : Nat → Prop) (Q : T → Prop) (fin : T) (hn : n < 18446744073709551616)
  (hs : ∀ i, i < n → (∀ j, j < i → ok j) → (ok i ∧ ∀ g, step g (f i) = g (f (i + 1))) ∨ (¬ ok i ∧ ∃ r, Q r ∧ ∀ g, step g (f i) = some r)) (he : ∀ g, step g (f n) = some fin) :
  ((∀ i, i < n → ok i) ∧ lp step K0 (f 0) = some fin) ∨ (¬ (∀ i, i < n → ok i) ∧ ∃ r, Q r ∧ lp step K0 (f 0) = some r) :=
 lp_allh' f n ok Q fin hs he n 0 K0 (by omega) hn (fun j h => by omega)
def NodeFits (n : NODE) : Prop := 0 ≤ nFeat n ∧ nFeat n ≤ 64 ∧ 0 ≤ nL n ∧ nL n ≤ 255 ∧ 0 ≤ nR n ∧ nR n ≤ 255
def TreeFits (t : List NODE) : Prop := 1 ≤ t.length ∧ t.length ≤ 255 ∧ ∀ i (h : i < t.length), NodeFits t[i]
def FitsP (m : MODEL) : Prop := 0 ≤ m.1 ∧ m.1 ≤ 64 ∧ m.2.length ≤ 64 ∧ ∀ i (h : i < m.2.length), TreeFits m.2[i]
theorem fits_inner (a : List (List NODE)) (b c : Int) {t : List NODE} (hl : t.length < 4294967296) :
   ((∀ i (h : i < t.length), NodeFits t[i]) ∧ lp model_Fits_s9 K0 ((a, b, c, t, ((t.length : Nat) : Int), 0, ()), ()) = some (.inl ((a, b, c, ()), ()))) ∨
   (¬ (∀ i (h : i < t.length), NodeFits t[i]) ∧ lp model_Fits_s9 K0 ((a, b, c, t, ((t.length : Nat) : Int), 0, ()), ()) = some (.inr ((false, ()), ()))) := by
 rcases lp_all (step := model_Fits_s9) (fun i => ((a, b, c, t, ((t.length : Nat) : Int), (i : Int), ()), ())) t.length (fun i => ∀ h : i < t.length, NodeFits t[i]) (fun i => .inr ((false, ()), ())) (.inl ((a, b, c, ()), ())) (by omega) (by
    intro i hi
    have d0 : (i : Int) < ((t.length : Nat) : Int) := by omega
    have d1 : (0 : Int) ≤ (i : Int) := by omega
    have head : ∀ g, model_Fits_s9 g ((a, b, c, t, ((t.length : Nat) : Int), (i : Int), ()), ()) = bif (decide (nFeat t[i] < 0)) then (some (.inr ((false, ()), ()))) else (bif (decide (nFeat t[i] > 64)) then (some (.inr ((false, ()), ()))) else (bif (decide (nL t[i] < 0)) then (some (.inr ((false, ()), ()))) else (bif (decide (nL t[i] > 255)) then (some (.inr ((false, ()), ()))) else (bif (decide (nR t[i] < 0)) then (some (.inr ((false, ()), ()))) else (bif (decide (nR t[i] > 255)) then (some (.inr ((false, ()), ()))) else (g ((a, b, c, t, ((t.length : Nat) : Int), ((i + 1 : Nat) : Int), ()), ()))))))) := by
      intro g
      rw [model_Fits_s9, cnd d0, cnd d1, Int.toNat_natCast, List.getElem?_eq_getElem hi, Option.bind_some, iadd1 (by omega)]
      rfl
    by_cases h : NodeFits t[i]
    · refine .inl ⟨fun _ => h, fun g => ?_⟩
      obtain ⟨h1, h2, h3, h4, h5, h6⟩ := h
      rw [head, cnd' (by omega), cnd' (by omega), cnd' (by omega), cnd' (by omega), cnd' (by omega), cnd' (by omega)]
    · refine .inr ⟨fun h' => h (h' hi), fun g => ?_⟩
      rw [head]
      by_cases h1 : nFeat t[i] < 0
      · rw [cnd h1]
      by_cases h2 : nFeat t[i] > 64
      · rw [cnd' h1, cnd h2]
      by_cases h3 : nL t[i] < 0
      · rw [cnd' h1, cnd' h2, cnd h3]
      by_cases h4 : nL t[i] > 255
      · rw [cnd' h1, cnd' h2, cnd' h3, cnd h4]
      by_cases h5 : nR t[i] < 0
      · rw [cnd' h1, cnd' h2, cnd' h3, cnd' h4, cnd h5]
      by_cases h6 : nR t[i] > 255
      · rw [cnd' h1, cnd' h2, cnd' h3, cnd' h4, cnd' h5, cnd h6]
      exfalso; apply h; unfold NodeFits; omega) (by
    intro g
    rw [model_Fits_s9, cnd' (by omega)]) with ⟨h, hlp⟩ | ⟨i, hi, h, hlp⟩
 · exact .inl ⟨fun i hi => h i hi hi, hlp⟩
 · exact .inr ⟨fun hh => h (fun hi => hh i hi), hlp⟩
theorem Fits_ok {m : MODEL} (hl : m.2.length < 4294967296) (ht : ∀ t ∈ m.2, t.length < 4294967296) : ∃ b, model_Fits m = some b ∧ (b = true ↔ FitsP m) := by
 unfold model_Fits
 by_cases h1 : m.1 < 0
 · exact ⟨false, by rw [cnd h1], fun h => (by cases h), fun h => by have := h.1; omega⟩
 by_cases h2 : m.1 > 64
 · exact ⟨false, by rw [cnd' h1, cnd h2], fun h => (by cases h), fun h => by have := h.2.1; omega⟩
 by_cases h3 : ((m.2.length : Nat) : Int) > 64
 · exact ⟨false, by rw [cnd' h1, cnd' h2, cnd h3], fun h => (by cases h), fun h => by have := h.2.2.1; omega⟩
 rw [cnd' h1, cnd' h2, cnd' h3]
 rcases lp_all (step := model_Fits_s4) (fun i => ((m.2, ((m.2.length : Nat) : Int), (i : Int), ()), ())) m.2.length (fun i => ∀ h : i < m.2.length, TreeFits m.2[i]) (fun i => .inr ((false, ()), ())) (.inl ((), ())) (by omega) (by
    intro i hi
    have d0 : (i : Int) < ((m.2.length : Nat) : Int) := by omega
    have d1 : (0 : Int) ≤ (i : Int) := by omega
    have hti := ht _ (List.getElem_mem hi)
    by_cases g1 : ((m.2[i].length : Nat) : Int) < 1
    · refine .inr ⟨fun h => by have := (h hi).1; omega, fun g => ?_⟩
      rw [model_Fits_s4, cnd d0, cnd d1, Int.toNat_natCast, List.getElem?_eq_getElem hi, Option.bind_some, cnd g1]
    by_cases g2 : ((m.2[i].length : Nat) : Int) > 255
    · refine .inr ⟨fun h => by have := (h hi).2.1; omega, fun g => ?_⟩
      rw [model_Fits_s4, cnd d0, cnd d1, Int.toNat_natCast, List.getElem?_eq_getElem hi, Option.bind_some, cnd' g1, cnd g2]
    rcases fits_inner m.2 ((m.2.length : Nat) : Int) (i : Int) hti with ⟨h, hlp⟩ | ⟨h, hlp⟩
    · refine .inl ⟨fun _ => ⟨by omega, by omega, h⟩, fun g => ?_⟩
      rw [model_Fits_s4, cnd d0, cnd d1, Int.toNat_natCast, List.getElem?_eq_getElem hi, Option.bind_some, cnd' g1, cnd' g2, hlp, Option.bind_some]
      dsimp only
      rw [iadd1 (by omega)]
      rfl
    · refine .inr ⟨fun hh => h (hh hi).2.2, fun g => ?_⟩
      rw [model_Fits_s4, cnd d0, cnd d1, Int.toNat_natCast, List.getElem?_eq_getElem hi, Option.bind_some, cnd' g1, cnd' g2, hlp, Option.bind_some]) (by
    intro g
    rw [model_Fits_s4, cnd' (by omega)]) with ⟨h, hlp⟩ | ⟨i, hi, h, hlp⟩
 · have hlp : lp model_Fits_s4 K0 ((m.2, ((m.2.length : Nat) : Int), 0, ()), ()) = some (.inl ((), ())) := hlp
   exact ⟨true, by rw [hlp]; rfl, fun _ => ⟨by omega, by omega, by omega, fun i hi => h i hi hi⟩, fun _ => rfl⟩
 · have hlp : lp model_Fits_s4 K0 ((m.2, ((m.2.length : Nat) : Int), 0, ()), ()) = some (.inr ((false, ()), ())) := hlp
   exact ⟨false, by rw [hlp]; rfl, fun h' => (by cases h'), fun hp => absurd (fun hh => hp.2.2.2 i hh) h⟩
def RuleP (f : Int) : Nat → List NODE → Prop
 | 0, t => RangesP t f
 | 1, t => ShapeP t
 | 2, t => CoversP t
 | _, t => SumsP t
def Good (m : MODEL) : Prop := FitsP m ∧ ∀ r, r < 4 → ∀ i (h : i < m.2.length), RuleP m.1 r m.2[i]
theorem Good.ranges {m : MODEL} (h : Good m) {i : Nat} (hi : i < m.2.length) : RangesP m.2[i] m.1 := h.2 0 (by decide) i hi
theorem Good.shape {m : MODEL} (h : Good m) {i : Nat} (hi : i < m.2.length) : ShapeP m.2[i] := h.2 1 (by decide) i hi
theorem Good.covers {m : MODEL} (h : Good m) {i : Nat} (hi : i < m.2.length) : CoversP m.2[i] := h.2 2 (by decide) i hi
def MSz (m : MODEL) (k : Nat) : Prop := ∀ t ∈ m.2, TSz t k
theorem check_inner {m : MODEL} {k : Nat} (hf : FitsP m) (hs : MSz m k) (hk : k < 500000000000) {r : Nat} (hr : r < 4) (hlow : ∀ r', r' < r → ∀ i (h : i < m.2.length), RuleP m.1 r' m.2[i]) (z : Int × Int × Int × Int) :
   ((∀ i (h : i < m.2.length), RuleP m.1 r m.2[i]) ∧ lp valid_Check_s7 K0 (((r : Int), (r : Int), m.2, ((m.2.length : Nat) : Int), 0, ()), ((m.1, m.2, ()), (z.1, z.2.1, z.2.2.1, z.2.2.2, ()), ())) = some (.inl (((r : Int), ()), ((m.1, m.2, ()), (z.1, z.2.1, z.2.2.1, z.2.2.2, ()), ())))) ∨
   (¬ (∀ i (h : i < m.2.length), RuleP m.1 r m.2[i]) ∧ ∃ e a b c, e ≠ 0 ∧ lp valid_Check_s7 K0 (((r : Int), (r : Int), m.2, ((m.2.length : Nat) : Int), 0, ()), ((m.1, m.2, ()), (z.1, z.2.1, z.2.2.1, z.2.2.2, ()), ())) = some (.inr ((), ((e, a, b, c, ()), ())))) := by
 have hlen := hf.2.2.1
 have ans : ∀ i (h : i < m.2.length), ∃ a e, (e = 0 ↔ RuleP m.1 r m.2[i]) ∧ ∀ g, valid_Check_s7 g (((r : Int), (r : Int), m.2, ((m.2.length : Nat) : Int), (i : Int), ()), ((m.1, m.2, ()), (z.1, z.2.1, z.2.2.1, z.2.2.2, ()), ())) =
     bif (!decide (e = 0)) then some (.inr ((), ((e, 0, (i : Int), a, ()), ()))) else g (((r : Int), (r : Int), m.2, ((m.2.length : Nat) : Int), ((i + 1 : Nat) : Int), ()), ((m.1, m.2, ()), (z.1, z.2.1, z.2.2.1, z.2.2.2, ()), ())) := by
   intro i hi
   have d0 : (i : Int) < ((m.2.length : Nat) : Int) := by omega
   have d1 : (0 : Int) ≤ (i : Int) := by omega
   have htf := hf.2.2.2 i hi
   have htl : m.2[i].length < 4294967296 := by have := htf.2.1; omega
   have ht0 : 0 < m.2[i].length := htf.1
   have hts := hs _ (List.getElem_mem hi)
   match r, hr with
   | 0, _ =>
     obtain ⟨a, e, h1, h2⟩ := ranges_ok (f := m.1) htl
     refine ⟨a, e, h2, fun g => ?_⟩
     rw [valid_Check_s7, cnd d0, cnd d1, Int.toNat_natCast, List.getElem?_eq_getElem hi, Option.bind_some, cnd (by rfl), h1, Option.bind_some, iadd1 (by omega)]
     rfl
   | 1, _ =>
     obtain ⟨a, e, h1, h2⟩ := shape_ok htl ht0 (hlow 0 (by decide) i hi)
     refine ⟨a, e, h2, fun g => ?_⟩
     rw [valid_Check_s7, cnd d0, cnd d1, Int.toNat_natCast, List.getElem?_eq_getElem hi, Option.bind_some, cnd' (by decide), cnd (by rfl), h1, Option.bind_some, iadd1 (by omega)]
     rfl
   | 2, _ =>
     obtain ⟨a, e, h1, h2⟩ := covers_ok htl hts (by omega)
     refine ⟨a, e, h2, fun g => ?_⟩
     rw [valid_Check_s7, cnd d0, cnd d1, Int.toNat_natCast, List.getElem?_eq_getElem hi, Option.bind_some, cnd' (by decide), cnd' (by decide), cnd (by rfl), h1, Option.bind_some, iadd1 (by omega)]
     rfl
   | 3, _ =>
     obtain ⟨a, e, h1, h2⟩ := sums_ok htl hts hk (hlow 0 (by decide) i hi)
     refine ⟨a, e, h2, fun g => ?_⟩
     rw [valid_Check_s7, cnd d0, cnd d1, Int.toNat_natCast, List.getElem?_eq_getElem hi, Option.bind_some, cnd' (by decide), cnd' (by decide), cnd' (by decide), cnd (by rfl), h1, Option.bind_some, iadd1 (by omega)]
     rfl
 have ans2 : ∀ i, ∃ a e, ∀ h : i < m.2.length, (e = 0 ↔ RuleP m.1 r m.2[i]) ∧ ∀ g, valid_Check_s7 g (((r : Int), (r : Int), m.2, ((m.2.length : Nat) : Int), (i : Int), ()), ((m.1, m.2, ()), (z.1, z.2.1, z.2.2.1, z.2.2.2, ()), ())) =
     bif (!decide (e = 0)) then some (.inr ((), ((e, 0, (i : Int), a, ()), ()))) else g (((r : Int), (r : Int), m.2, ((m.2.length : Nat) : Int), ((i + 1 : Nat) : Int), ()), ((m.1, m.2, ()), (z.1, z.2.1, z.2.2.1, z.2.2.2, ()), ())) := by
   intro i
   by_cases h : i < m.2.length
   · obtain ⟨a, e, h1, h2⟩ := ans i h
     exact ⟨a, e, fun _ => ⟨h1, h2⟩⟩
   · exact ⟨0, 0, fun h' => absurd h' h⟩
 have A := fun i => (ans2 i).choose
 let E : Nat → Int := fun i => (ans2 i).choose_spec.choose
 have hE : ∀ i (h : i < m.2.length), (E i = 0 ↔ RuleP m.1 r m.2[i]) ∧ ∀ g, valid_Check_s7 g (((r : Int), (r : Int), m.2, ((m.2.length : Nat) : Int), (i : Int), ()), ((m.1, m.2, ()), (z.1, z.2.1, z.2.2.1, z.2.2.2, ()), ())) =
     bif (!decide (E i = 0)) then some (.inr ((), ((E i, 0, (i : Int), (ans2 i).choose, ()), ()))) else g (((r : Int), (r : Int), m.2, ((m.2.length : Nat) : Int), ((i + 1 : Nat) : Int), ()), ((m.1, m.2, ()), (z.1, z.2.1, z.2.2.1, z.2.2.2, ()), ())) := fun i h => (ans2 i).choose_spec.choose_spec h
 rcases lp_all (step := valid_Check_s7) (fun i => (((r : Int), (r : Int), m.2, ((m.2.length : Nat) : Int), (i : Int), ()), ((m.1, m.2, ()), (z.1, z.2.1, z.2.2.1, z.2.2.2, ()), ()))) m.2.length (fun i => E i = 0) (fun i => .inr ((), ((E i, 0, (i : Int), (ans2 i).choose, ()), ()))) (.inl (((r : Int), ()), ((m.1, m.2, ()), (z.1, z.2.1, z.2.2.1, z.2.2.2, ()), ()))) (by omega) (by
     intro i hi
     obtain ⟨h1, h2⟩ := hE i hi
     by_cases h0 : E i = 0
     · exact .inl ⟨h0, fun g => by rw [h2, decide_eq_true h0]; rfl⟩
     · exact .inr ⟨h0, fun g => by rw [h2, decide_eq_false h0]; rfl⟩) (by
     intro g
     rw [valid_Check_s7, cnd' (by omega)]) with ⟨h, hlp⟩ | ⟨i, hi, h, hlp⟩
 · exact .inl ⟨fun i hi => (hE i hi).1.1 (h i hi), hlp⟩
 · exact .inr ⟨fun hh => h ((hE i hi).1.2 (hh i hi)), E i, 0, (i : Int), _, h, hlp⟩
theorem Ok_ok {m : MODEL} {k : Nat} (hl : m.2.length < 4294967296) (ht : ∀ t ∈ m.2, t.length < 4294967296) (hs : MSz m k) (hk : k < 500000000000) : ∃ b, valid_Ok m = some b ∧ (b = true ↔ Good m) := by
 obtain ⟨b, hb, hbf⟩ := Fits_ok hl ht
 cases b with
 | false =>
  have hnf : ¬ FitsP m := fun h => by have := hbf.2 h; cases this
  refine ⟨false, ?_, fun h => (by cases h), fun h => absurd h.1 hnf⟩
  rw [valid_Ok, valid_Check, hb, Option.bind_some]
  rfl
 | true =>
  have hf := hbf.1 rfl
  rcases lp_allh (step := valid_Check_s4) (fun r => (((r : Int), ()), ((m.1, m.2, ()), (0, 0, 0, 0, ()), ()))) 4 (fun r => ∀ i (h : i < m.2.length), RuleP m.1 r m.2[i]) (fun r => ∃ e a b c, e ≠ 0 ∧ r = .inr ((), ((e, a, b, c, ()), ()))) (.inl ((), ((0, 0, 0, 0, ()), ()))) (by omega) (by
     intro r hr hlow
     have d0 : (r : Int) < 4 := by omega
     rcases check_inner hf hs hk hr (fun r' hr' => hlow r' hr') (0, 0, 0, 0) with ⟨h1, h2⟩ | ⟨h1, e, a, b, c, h2, h3⟩
     · refine .inl ⟨h1, fun g => ?_⟩
       rw [valid_Check_s4, cnd d0, h2, Option.bind_some]
       dsimp only
       rw [iadd1 (by omega)]
       rfl
     · refine .inr ⟨h1, _, ⟨e, a, b, c, h2, rfl⟩, fun g => ?_⟩
       rw [valid_Check_s4, cnd d0, h3, Option.bind_some]) (by
     intro g
     rw [valid_Check_s4, cnd' (by decide)]) with ⟨h, hlp⟩ | ⟨h, r, ⟨e, a, b, c, he, rfl⟩, hlp⟩
  · have hlp : lp valid_Check_s4 K0 (((0 : Int), ()), ((m.1, m.2, ()), (0, 0, 0, 0, ()), ())) = _ := hlp
    refine ⟨true, ?_, fun _ => ⟨hf, h⟩, fun _ => rfl⟩
    rw [valid_Ok, valid_Check, hb, Option.bind_some, Bool.not_true, cond_false, hlp]
    rfl
  · have hlp : lp valid_Check_s4 K0 (((0 : Int), ()), ((m.1, m.2, ()), (0, 0, 0, 0, ()), ())) = _ := hlp
    refine ⟨false, ?_, fun h' => (by cases h'), fun hg => absurd hg.2 h⟩
    rw [valid_Ok, valid_Check, hb, Option.bind_some, Bool.not_true, cond_false, hlp, Option.bind_some]
    dsimp only
    rw [Option.bind_some, decide_eq_false he]
    rfl
theorem number07_ok (a : RAT) : dendronlaw07_number a = some (cutR 4 a) := by
 obtain ⟨⟨s, x⟩, y⟩ := a
 unfold dendronlaw07_number cutR
 by_cases h1 : 4 < x.length
 · have c1 : ((x.length : Nat) : Int) > 4 := by omega
   have c2 : (4 : Int) ≤ ((x.length : Nat) : Int) := by omega
   by_cases h2 : 4 < y.length
   · have c3 : ((y.length : Nat) : Int) > 4 := by omega
     have c4 : (4 : Int) ≤ ((y.length : Nat) : Int) := by omega
     rw [cnd c1, cnd c2, cnd c3, cnd c4]
   · have c3 : ¬ ((y.length : Nat) : Int) > 4 := by omega
     rw [cnd c1, cnd c2, cnd' c3, List.take_of_length_le (l := y) (by omega)]
 · have c1 : ¬ ((x.length : Nat) : Int) > 4 := by omega
   by_cases h2 : 4 < y.length
   · have c3 : ((y.length : Nat) : Int) > 4 := by omega
     have c4 : (4 : Int) ≤ ((y.length : Nat) : Int) := by omega
     rw [cnd' c1, cnd c3, cnd c4, List.take_of_length_le (l := x) (by omega)]
   · have c3 : ¬ ((y.length : Nat) : Int) > 4 := by omega
     rw [cnd' c1, cnd' c3, List.take_of_length_le (l := x) (by omega), List.take_of_length_le (l := y) (by omega)]
def cutNode (n : NODE) : NODE := (n.1, n.2.1, cutR 4 n.2.2.1, n.2.2.2.1, n.2.2.2.2.1, n.2.2.2.2.2.1, cutR 4 n.2.2.2.2.2.2.1, cutR 4 n.2.2.2.2.2.2.2)
def cutTree (t : List NODE) : List NODE := (t.take 15).map cutNode
def cutM (m : MODEL) : MODEL := (m.1, (m.2.take 6).map cutTree)
theorem cutNode_sz (n : NODE) : NSz (cutNode n) 4 := ⟨cutR_sz 4 _, cutR_sz 4 _, cutR_sz 4 _⟩
theorem cutTree_sz (t : List NODE) : TSz (cutTree t) 4 := by
 intro n hn
 obtain ⟨x, _, rfl⟩ := List.mem_map.1 hn
 exact cutNode_sz x
theorem cutTree_len (t : List NODE) : (cutTree t).length ≤ 15 := by simp [cutTree]; omega
theorem cutM_sz (m : MODEL) : MSz (cutM m) 4 := by
 intro t ht
 obtain ⟨x, _, rfl⟩ := List.mem_map.1 ht
 exact cutTree_sz x
theorem cutM_tlen (m : MODEL) : ∀ t ∈ (cutM m).2, t.length ≤ 15 := by
 intro t ht
 obtain ⟨x, _, rfl⟩ := List.mem_map.1 ht
 exact cutTree_len x
theorem Few07_inner {m : MODEL} {i : Nat} (hi : i < m.2.length) (hl : m.2[i].length ≤ 9223372036854775807) (hi2 : i < 4611686018427387904) (z w : Int × List (List NODE)) :
  lp dendronlaw07_Few_s7 K0 (((i : Int), [], 0, ()), ((m.1, m.2, ()), (z.1, z.2, ()), (w.1, w.2, ()), ())) = some (((i : Int), cutTree m.2[i], ()), ((m.1, m.2, ()), (z.1, z.2, ()), (w.1, w.2, ()), ())) := by
 have hn : min m.2[i].length 15 ≤ m.2[i].length := Nat.min_le_left _ _
 exact lp_up (step := dendronlaw07_Few_s7) (fun k => (((i : Int), (m.2[i].take k).map cutNode, (k : Int), ()), ((m.1, m.2, ()), (z.1, z.2, ()), (w.1, w.2, ()), ()))) (min m.2[i].length 15) (by omega) (by
  intro g k hk
  have h1 : k < m.2[i].length := by omega
  have d0 : (0 : Int) ≤ (i : Int) := by omega
  have d1 : (k : Int) < ((m.2[i].length : Nat) : Int) := by omega
  have d2 : (k : Int) < 15 := by omega
  have d3 : (0 : Int) ≤ (k : Int) := by omega
  have d4 : (((m.2[i].take k).map cutNode).length + 1) * 208 ≤ 140737488355328 := by simp; omega
  rw [dendronlaw07_Few_s7, cnd d0, Int.toNat_natCast, List.getElem?_eq_getElem hi, Option.bind_some, cnd d1, cnd d2, cnd d0, Option.bind_some, cnd d3, Int.toNat_natCast, List.getElem?_eq_getElem h1, Option.bind_some, number07_ok, Option.bind_some, number07_ok, Option.bind_some, number07_ok, Option.bind_some, blt d4, cond_true, iadd1 (by omega), map_take_succ _ h1]
  rfl) (by
  intro g
  have d0 : (0 : Int) ≤ (i : Int) := by omega
  by_cases h : m.2[i].length ≤ 15
  · have c1 : ¬ ((min m.2[i].length 15 : Nat) : Int) < ((m.2[i].length : Nat) : Int) := by omega
    rw [dendronlaw07_Few_s7, cnd d0, Int.toNat_natCast, List.getElem?_eq_getElem hi, Option.bind_some, cnd' c1, Nat.min_eq_left h, List.take_of_length_le (Nat.le_refl _), cutTree, List.take_of_length_le h]
  · have c1 : ((min m.2[i].length 15 : Nat) : Int) < ((m.2[i].length : Nat) : Int) := by omega
    have c2 : ¬ ((min m.2[i].length 15 : Nat) : Int) < 15 := by omega
    rw [dendronlaw07_Few_s7, cnd d0, Int.toNat_natCast, List.getElem?_eq_getElem hi, Option.bind_some, cnd c1, cnd' c2, Nat.min_eq_right (by omega), cutTree])
theorem Few07_ok (m : MODEL) (hl : m.2.length ≤ 9223372036854775807) (ht : ∀ t ∈ m.2, t.length ≤ 9223372036854775807) : dendronlaw07_Few m = some (cutM m) := by
 have hn : min m.2.length 6 ≤ m.2.length := Nat.min_le_left _ _
 have key := lp_up (step := dendronlaw07_Few_s3) (fun i => (((i : Int), ()), ((m.1, m.2, ()), (0, [], ()), (m.1, (m.2.take i).map cutTree, ()), ()))) (min m.2.length 6) (r := ((), ((0, [], ()), (m.1, (m.2.take 6).map cutTree, ()), ()))) (by omega) (by
  intro g i hi
  have h1 : i < m.2.length := by omega
  have d0 : (i : Int) < ((m.2.length : Nat) : Int) := by omega
  have d1 : (i : Int) < 6 := by omega
  have hin := Few07_inner h1 (ht _ (List.getElem_mem h1)) (by omega) (0, []) (m.1, (m.2.take i).map cutTree)
  have d4 : (((m.2.take i).map cutTree).length + 1) * 24 ≤ 140737488355328 := by simp; omega
  rw [dendronlaw07_Few_s3, cnd d0, cnd d1, hin, Option.bind_some, blt d4, cond_true, iadd1 (by omega), map_take_succ _ h1]
  rfl) (by
  intro g
  by_cases h : m.2.length ≤ 6
  · have c1 : ¬ ((min m.2.length 6 : Nat) : Int) < ((m.2.length : Nat) : Int) := by omega
    rw [dendronlaw07_Few_s3, cnd' c1, Nat.min_eq_left h, List.take_of_length_le (Nat.le_refl _), List.take_of_length_le h]
  · have c1 : ((min m.2.length 6 : Nat) : Int) < ((m.2.length : Nat) : Int) := by omega
    have c2 : ¬ ((min m.2.length 6 : Nat) : Int) < 6 := by omega
    rw [dendronlaw07_Few_s3, cnd c1, cnd' c2, Nat.min_eq_right (by omega)])
 have key' : lp dendronlaw07_Few_s3 K0 ((0, ()), ((m.1, m.2, ()), (0, [], ()), (m.1, [], ()), ())) = _ := key
 rw [dendronlaw07_Few, key']
 rfl
inductive TR where
 | leaf (i : Nat)
 | split (i : Nat) (l r : TR)
def TR.top : TR → Nat
 | .leaf i => i
 | .split i _ _ => i
def TR.size : TR → Nat
 | .leaf _ => 1
 | .split _ l r => 1 + l.size + r.size
def TR.deep : TR → Nat
 | .leaf _ => 1
 | .split _ l r => 1 + max l.deep r.deep
def Is (t : List NODE) (f : Int) : TR → Prop
 | .leaf i => ∃ h : i < t.length, nLeaf t[i] = true
 | .split i l r => ∃ h : i < t.length, nLeaf t[i] = false ∧ 0 ≤ nFeat t[i] ∧ nFeat t[i] < f ∧ nL t[i] = (l.top : Int) ∧ nR t[i] = (r.top : Int) ∧ Is t f l ∧ Is t f r
theorem tree_at {t : List NODE} {f : Int} (hr : RangesP t f) (hrk : Ranked t) : ∀ i, i < t.length → ∃ T, Is t f T ∧ T.top = i ∧ T.deep ≤ t.length + 1 := by
 obtain ⟨rk, hrk⟩ := hrk
 have key : ∀ (d i : Nat), i < t.length → rk i ≤ d → ∃ T, Is t f T ∧ T.top = i ∧ T.deep ≤ rk i + 1 := by
  intro d
  induction d with
  | zero =>
   intro i hi hd
   cases hl : nLeaf t[i] with
   | true => exact ⟨.leaf i, ⟨hi, hl⟩, rfl, by simp [TR.deep]⟩
   | false =>
    have := (hrk i hi).2 (nL t[i]).toNat (by rw [kids_split hi hl]; simp)
    omega
  | succ d ih =>
   intro i hi hd
   cases hl : nLeaf t[i] with
   | true => exact ⟨.leaf i, ⟨hi, hl⟩, rfl, by simp [TR.deep]⟩
   | false =>
    obtain ⟨r1, r2, r3, r4, r5, r6⟩ := hr i hi hl
    have k1 := (hrk i hi).2 (nL t[i]).toNat (by rw [kids_split hi hl]; simp)
    have k2 := (hrk i hi).2 (nR t[i]).toNat (by rw [kids_split hi hl]; simp)
    obtain ⟨L, hL, hLt, hLd⟩ := ih (nL t[i]).toNat (by omega) (by omega)
    obtain ⟨R, hR, hRt, hRd⟩ := ih (nR t[i]).toNat (by omega) (by omega)
    refine ⟨.split i L R, ⟨hi, hl, r1, r2, by rw [hLt]; omega, by rw [hRt]; omega, hL, hR⟩, rfl, ?_⟩
    simp only [TR.deep]
    omega
 intro i hi
 obtain ⟨T, h1, h2, h3⟩ := key (rk i) i hi (Nat.le_refl _)
 have := (hrk i hi).1
 exact ⟨T, h1, h2, by omega⟩
theorem Good.tree {m : MODEL} (h : Good m) {i : Nat} (hi : i < m.2.length) : ∃ T, Is m.2[i] m.1 T ∧ T.top = 0 ∧ T.deep ≤ m.2[i].length + 1 :=
 tree_at (h.ranges hi) (h.shape hi).2 0 (h.1.2.2.2 i hi).1
abbrev zR : RAT := ((false, []), [])
abbrev zN : NODE := (false, 0, zR, 0, 0, false, zR, zR)
def nodeAt (t : List NODE) (i : Nat) : NODE := (t[i]?).getD zN
theorem nodeAt_get {t : List NODE} {i : Nat} (h : i < t.length) : nodeAt t i = t[i] := by simp [nodeAt, h]
def cellAt (row : List CELL) (i : Nat) : CELL := (row[i]?).getD (false, zR)
theorem cellAt_get {row : List CELL} {i : Nat} (h : i < row.length) : cellAt row i = row[i] := by simp [cellAt, h]
def goes (n : NODE) (c : CELL) : Bool := if c.1 then nMiss n else decide (rv c.2 < rv (nCut n))
def goL (t : List NODE) (row : List CELL) (i : Nat) : Bool := goes (nodeAt t i) (cellAt row (nFeat (nodeAt t i)).toNat)
def wayT (t : List NODE) (row : List CELL) : TR → List Nat
 | .leaf i => [i]
 | .split i l r => i :: if goL t row i then wayT t row l else wayT t row r
def endT (t : List NODE) (row : List CELL) : TR → Nat
 | .leaf i => i
 | .split i l r => if goL t row i then endT t row l else endT t row r
theorem wayT_last (t : List NODE) (row : List CELL) (T : TR) : (wayT t row T).getLast? = some (endT t row T) := by
 induction T with
 | leaf i => rfl
 | split i l r ihl ihr =>
  simp only [wayT, endT, List.getLast?_cons]
  by_cases h : goL t row i = true
  · rw [if_pos h, if_pos h, ihl]; rfl
  · rw [if_neg h, if_neg h, ihr]; rfl
theorem wayT_len (t : List NODE) (row : List CELL) (T : TR) : (wayT t row T).length ≤ T.deep := by
 induction T with
 | leaf i => simp [wayT, TR.deep]
 | split i l r ihl ihr =>
  simp only [wayT, TR.deep, List.length_cons]
  split <;> omega
theorem endT_lt {t : List NODE} {f : Int} {row : List CELL} {T : TR} (h : Is t f T) : endT t row T < t.length := by
 induction T with
 | leaf i => exact h.1
 | split i l r ihl ihr =>
  obtain ⟨h1, _, _, _, _, _, h2, h3⟩ := h
  simp only [endT]
  split
  · exact ihl h2
  · exact ihr h3
theorem Is.top_lt {t : List NODE} {f : Int} {T : TR} (h : Is t f T) : T.top < t.length := by
 cases T with
 | leaf i => exact h.1
 | split i l r => exact h.1
theorem TR.size_lt (T : TR) : T.size < 2 ^ T.deep := by
 induction T with
 | leaf i => simp [TR.size, TR.deep]
 | split i l r ihl ihr =>
  simp only [TR.size, TR.deep]
  have h1 : 2 ^ l.deep ≤ 2 ^ max l.deep r.deep := Nat.pow_le_pow_right (by decide) (Nat.le_max_left _ _)
  have h2 : 2 ^ r.deep ≤ 2 ^ max l.deep r.deep := Nat.pow_le_pow_right (by decide) (Nat.le_max_right _ _)
  rw [Nat.add_comm 1 (max l.deep r.deep), Nat.pow_succ]
  omega
theorem TR.size_le {T : TR} (h : T.deep ≤ 16) : T.size < 65536 := by
 have h1 := T.size_lt
 have h2 : 2 ^ T.deep ≤ 2 ^ 16 := Nat.pow_le_pow_right (by decide) h
 omega
theorem TR.deep_pos (T : TR) : 0 < T.deep := by cases T <;> simp [TR.deep] <;> omega
def expT (t : List NODE) (row : List CELL) (set : Nat) : TR → Rat
 | .leaf i => rv (nVal (nodeAt t i))
 | .split i l r => if set.testBit (nFeat (nodeAt t i)).toNat then (if goL t row i then expT t row set l else expT t row set r)
  else (cov t l.top * expT t row set l + cov t r.top * expT t row set r) / cov t i
def predT (t : List NODE) (row : List CELL) (T : TR) : Rat := rv (nVal (nodeAt t (endT t row T)))
theorem TSz.at {t : List NODE} {k : Nat} (h : TSz t k) {i : Nat} (hi : i < t.length) : NSz (nodeAt t i) k := by rw [nodeAt_get hi]; exact h _ (List.getElem_mem hi)
theorem predT_sz {t : List NODE} {f : Int} {row : List CELL} {T : TR} (hs : TSz t 4) (h : Is t f T) : SzQ (predT t row T) 4 := (hs.at (endT_lt h)).2.1.szQ (by decide)
theorem cov_sz {t : List NODE} (hs : TSz t 4) {i : Nat} (hi : i < t.length) : SzQ (cov t i) 4 := (hs.at hi).2.2.szQ (by decide)
theorem expT_sz {t : List NODE} {f : Int} {row : List CELL} {set : Nat} {T : TR} (hs : TSz t 4) (h : Is t f T) : SzQ (expT t row set T) (16 * T.size) := by
 induction T with
 | leaf i => exact ((hs.at h.1).2.1.szQ (by decide)).mono (by simp [TR.size])
 | split i l r ihl ihr =>
  obtain ⟨h1, _, _, _, _, _, h2, h3⟩ := h
  have a := ihl h2
  have b := ihr h3
  simp only [expT, TR.size]
  split
  · split
    · exact a.mono (by omega)
    · exact b.mono (by omega)
  · have := (((cov_sz hs h2.top_lt).mul a).add ((cov_sz hs h3.top_lt).mul b)).div (cov_sz hs h1)
    exact this.mono (by omega)
def mkT (t : List NODE) : Nat → Nat → TR
 | 0, i => .leaf i
 | d + 1, i => if nLeaf (nodeAt t i) then .leaf i else .split i (mkT t d (nL (nodeAt t i)).toNat) (mkT t d (nR (nodeAt t i)).toNat)
theorem mkT_eq {t : List NODE} {f : Int} : ∀ (d : Nat) (T : TR), Is t f T → T.deep ≤ d → mkT t d T.top = T := by
 intro d
 induction d with
 | zero => intro T _ h; have := T.deep_pos; omega
 | succ d ih =>
  intro T h hd
  cases T with
  | leaf i =>
   obtain ⟨h1, h2⟩ := h
   simp only [TR.top, mkT, nodeAt_get h1, h2, if_true]
  | split i l r =>
   obtain ⟨h1, h2, _, _, h3, h4, h5, h6⟩ := h
   simp only [TR.deep] at hd
   show mkT t (d + 1) i = _
   rw [mkT, nodeAt_get h1, h2, h3, h4, Int.toNat_natCast, Int.toNat_natCast, ih l h5 (by omega), ih r h6 (by omega)]
   rfl
def treeOf (t : List NODE) : TR := mkT t (t.length + 1) 0
theorem Good.treeOf {m : MODEL} (h : Good m) {i : Nat} (hi : i < m.2.length) : Is m.2[i] m.1 (treeOf m.2[i]) ∧ (treeOf m.2[i]).top = 0 ∧ (treeOf m.2[i]).deep ≤ m.2[i].length + 1 := by
 obtain ⟨T, h1, h2, h3⟩ := h.tree hi
 have : X.treeOf m.2[i] = T := by rw [X.treeOf, ← h2]; exact mkT_eq _ T h1 h3
 rw [this]; exact ⟨h1, h2, h3⟩
def treeAt (m : MODEL) (i : Nat) : List NODE := (m.2[i]?).getD []
theorem treeAt_get {m : MODEL} {i : Nat} (h : i < m.2.length) : treeAt m i = m.2[i] := by simp [treeAt, h]
def predM (m : MODEL) (row : List CELL) : Rat := rsum (fun i => predT (treeAt m i) row (treeOf (treeAt m i))) m.2.length
def sayM (m : MODEL) (row : List CELL) (set : Nat) : Rat := rsum (fun i => expT (treeAt m i) row set (treeOf (treeAt m i))) m.2.length
theorem MSz.at {m : MODEL} {k : Nat} (h : MSz m k) {i : Nat} (hi : i < m.2.length) : TSz (treeAt m i) k := by rw [treeAt_get hi]; exact h _ (List.getElem_mem hi)
theorem Good.isAt {m : MODEL} (h : Good m) {i : Nat} (hi : i < m.2.length) : Is (treeAt m i) m.1 (X.treeOf (treeAt m i)) := by rw [treeAt_get hi]; exact (h.treeOf hi).1
theorem predT_at {m : MODEL} {row : List CELL} (h : Good m) (hs : MSz m 4) {i : Nat} (hi : i < m.2.length) : SzQ (predT (treeAt m i) row (treeOf (treeAt m i))) 4 := predT_sz (hs.at hi) (h.isAt hi)
theorem deep16 {m : MODEL} (h : Good m) (hl : ∀ t ∈ m.2, t.length ≤ 15) {i : Nat} (hi : i < m.2.length) : (treeOf (treeAt m i)).deep ≤ 16 := by
 rw [treeAt_get hi]
 have := (h.treeOf hi).2.2
 have := hl _ (List.getElem_mem hi)
 omega
theorem expT_at {m : MODEL} {row : List CELL} {set : Nat} (h : Good m) (hs : MSz m 4) (hl : ∀ t ∈ m.2, t.length ≤ 15) {i : Nat} (hi : i < m.2.length) : SzQ (expT (treeAt m i) row set (treeOf (treeAt m i))) 1048576 := by
 have := TR.size_le (deep16 h hl hi)
 exact (expT_sz (hs.at hi) (h.isAt hi)).mono (by omega)
theorem predM_sz {m : MODEL} {row : List CELL} (h : Good m) (hs : MSz m 4) {n : Nat} (hn : n ≤ m.2.length) : SzQ (rsum (fun i => predT (treeAt m i) row (treeOf (treeAt m i))) n) (1 + n * 5) :=
 rsum_sz fun i hi => predT_at h hs (by omega)
theorem sayM_sz {m : MODEL} {row : List CELL} {set : Nat} (h : Good m) (hs : MSz m 4) (hl : ∀ t ∈ m.2, t.length ≤ 15) {n : Nat} (hn : n ≤ m.2.length) : SzQ (rsum (fun i => expT (treeAt m i) row set (treeOf (treeAt m i))) n) (1 + n * 1048577) :=
 rsum_sz fun i hi => expT_at h hs hl (by omega)
def CSz (row : List CELL) (k : Nat) : Prop := ∀ c ∈ row, SzR c.2 k
theorem goes_ok {n : NODE} {c : CELL} {k j : Nat} (hn : SzR (nCut n) k) (hk : k < 1099511627776) (hc : SzR c.2 j) (hj : j < 1099511627776) : route_goes n c = some (goes n c) := by
 unfold route_goes goes
 cases h : c.1 with
 | true => rfl
 | false =>
  rw [cond_false, ratio_Cmp_ok (hc.sm hj) (hn.sm hk), Option.bind_some, if_neg (by decide)]
  congr 1
  by_cases h : rv c.2 < rv (nCut n)
  · rw [decide_eq_true (rcmp_neg.2 h), decide_eq_true h]
  · rw [decide_eq_false (fun e => h (rcmp_neg.1 e)), decide_eq_false h]
theorem Left_ok {n : NODE} {c : CELL} {k j : Nat} (hn : SzR (nCut n) k) (hk : k < 1099511627776) (hc : SzR c.2 j) (hj : j < 1099511627776) : route_Left n c = some (!nLeaf n && goes n c) := by
 unfold route_Left
 rw [goes_ok hn hk hc hj]
 show _ = some (!n.1 && goes n c)
 cases h : n.1 with
 | true => rfl
 | false => rfl
theorem left10_ok {n : NODE} {c : CELL} {k j : Nat} (hn : SzR (nCut n) k) (hk : k < 1099511627776) (hc : SzR c.2 j) (hj : j < 1099511627776) : dendronlaw10_left n c = some (!nLeaf n && goes n c) := by
 have h1 : ∀ b, c.1 = false → goes n c = b → (ratio_Cmp c.2 (nCut n)).bind (fun r1 => some (decide (r1 < 0))) = some b := by
  intro b hf h
  have := goes_ok hn hk hc hj
  rw [route_goes, hf, cond_false, h] at this
  exact this
 unfold dendronlaw10_left
 show _ = some (!n.1 && goes n c)
 cases h : n.1 with
 | true => rfl
 | false =>
  rw [cond_false]
  cases hc1 : c.1 with
  | true =>
   rw [cond_true]
   have hg : goes n c = nMiss n := by rw [goes, hc1]; rfl
   rw [hg]
   show _ = some (!false && n.2.2.2.2.2.1)
   cases hm : n.2.2.2.2.2.1 with
   | true => rfl
   | false => rfl
  | false =>
   rw [cond_false, Bool.not_false, cond_true, h1 _ hc1 rfl]
   rfl
theorem goL_ok {t : List NODE} {f : Int} {row : List CELL} {i : Nat} (hs : TSz t 4) (hc : CSz row 9) (hi : i < t.length) (h0 : 0 ≤ nFeat t[i]) (h1 : nFeat t[i] < (row.length : Int)) :
  ∃ c, row[(nFeat t[i]).toNat]? = some c ∧ SzR c.2 9 ∧ goes t[i] c = goL t row i := by
 have hlt : (nFeat t[i]).toNat < row.length := by omega
 refine ⟨row[(nFeat t[i]).toNat], List.getElem?_eq_getElem hlt, hc _ (List.getElem_mem hlt), ?_⟩
 rw [goL, nodeAt_get hi, cellAt_get hlt]
theorem next_ok {t : List NODE} {row : List CELL} {i : Nat} (hs : TSz t 4) (hc : CSz row 9) (hi : i < t.length) (h0 : 0 ≤ nFeat t[i]) (h1 : nFeat t[i] < (row.length : Int)) :
  route_next t[i] row = some (if goL t row i then nL t[i] else nR t[i]) := by
 obtain ⟨c, h2, h3, h4⟩ := goL_ok (f := 0) hs hc hi h0 h1
 have hz := hs _ (List.getElem_mem hi)
 rw [route_next, cnd h0, h2, Option.bind_some, goes_ok hz.1 (by decide) h3 (by decide), Option.bind_some, h4]
 cases goL t row i <;> rfl
theorem Way10_ok {t : List NODE} {row : List CELL} (hs : TSz t 4) (hc : CSz row 9) : ∀ (n : Nat) (T : TR), Is t (row.length : Int) T → T.deep ≤ n → T.deep ≤ 1000000 → dendronlaw10_Way n t (T.top : Int) row = some (ints (wayT t row T)) := by
 intro n
 induction n with
 | zero => intro T _ hd; have := T.deep_pos; omega
 | succ n ih =>
  intro T h hd hdd
  show dendronlaw10_Way_b (dendronlaw10_Way n) t T.top row = _
  cases T with
  | leaf i =>
   obtain ⟨h1, h2⟩ := h
   have d0 : (0 : Int) ≤ (i : Int) := by omega
   rw [dendronlaw10_Way_b, show ((TR.leaf i).top : Int) = (i : Int) from rfl, cnd d0, Int.toNat_natCast, List.getElem?_eq_getElem h1, Option.bind_some, show t[i].1 = true from h2]
   rfl
  | split i l r =>
   obtain ⟨h1, h2, f0, f1, h3, h4, h5, h6⟩ := h
   have d0 : (0 : Int) ≤ (i : Int) := by omega
   simp only [TR.deep] at hd hdd
   obtain ⟨c, g1, g2, g3⟩ := goL_ok (f := 0) hs hc h1 f0 f1
   have hz := hs _ (List.getElem_mem h1)
   have wl := wayT_len t row l
   have wr := wayT_len t row r
   rw [dendronlaw10_Way_b, show ((TR.split i l r).top : Int) = (i : Int) from rfl, cnd d0, Int.toNat_natCast, List.getElem?_eq_getElem h1, Option.bind_some, show t[i].1 = false from h2, cond_false, cnd f0, g1, Option.bind_some, left10_ok hz.1 (by decide) g2 (by decide), Option.bind_some, g3, show (!nLeaf t[i]) = true by rw [h2]; rfl, Bool.true_and]
   have el : dendronlaw10_Way n t t[i].2.2.2.1 row = some (ints (wayT t row l)) := by rw [show t[i].2.2.2.1 = _ from h3]; exact ih l h5 (by omega) (by omega)
   have er : dendronlaw10_Way n t t[i].2.2.2.2.1 row = some (ints (wayT t row r)) := by rw [show t[i].2.2.2.2.1 = _ from h4]; exact ih r h6 (by omega) (by omega)
   rw [el, er]
   simp only [wayT]
   cases goL t row i with
   | true =>
    rw [cond_true, Option.bind_some, blt (by simp [ints]; omega), cond_true, if_pos rfl]
    rfl
   | false =>
    rw [cond_false, Option.bind_some, blt (by simp [ints]; omega), cond_true, if_neg (by decide)]
    rfl
theorem value_lp {t : List NODE} {row : List CELL} (hs : TSz t 4) (hc : CSz row 9) {z : Bool × List Int × List Int} : ∀ (T : TR) (m : Nat), Is t (row.length : Int) T → T.deep ≤ m →
  lp route_value_s2 m ((t, row, (T.top : Int), ()), ((z.1, z.2.1, z.2.2, ()), ())) = some ((t, (endT t row T : Int), ()), ((z.1, z.2.1, z.2.2, ()), ())) := by
 intro T
 induction T with
 | leaf i =>
  intro m h hm
  obtain ⟨h1, h2⟩ := h
  obtain ⟨m, rfl⟩ : ∃ k, m = k + 1 := ⟨m - 1, by simp only [TR.deep] at hm; omega⟩
  have d0 : (0 : Int) ≤ (i : Int) := by omega
  show route_value_s2 (lp route_value_s2 m) _ = _
  rw [show ((TR.leaf i).top : Int) = (i : Int) from rfl, route_value_s2, cnd d0, Int.toNat_natCast, List.getElem?_eq_getElem h1, Option.bind_some, show t[i].1 = true from h2]
  rfl
 | split i l r ihl ihr =>
  intro m h hm
  obtain ⟨h1, h2, f0, f1, h3, h4, h5, h6⟩ := h
  simp only [TR.deep] at hm
  obtain ⟨m, rfl⟩ : ∃ k, m = k + 1 := ⟨m - 1, by omega⟩
  have d0 : (0 : Int) ≤ (i : Int) := by omega
  show route_value_s2 (lp route_value_s2 m) _ = _
  rw [show ((TR.split i l r).top : Int) = (i : Int) from rfl, route_value_s2, cnd d0, Int.toNat_natCast, List.getElem?_eq_getElem h1, Option.bind_some, show t[i].1 = false from h2, Bool.not_false, cond_true, cnd d0, Option.bind_some, next_ok hs hc h1 f0 f1, Option.bind_some]
  simp only [endT]
  cases goL t row i with
  | true => rw [if_pos rfl, if_pos rfl, h3]; exact ihl m h5 (by omega)
  | false => rw [if_neg (by decide), if_neg (by decide), h4]; exact ihr m h6 (by omega)
theorem rvalue_ok {t : List NODE} {row : List CELL} {T : TR} (hs : TSz t 4) (hc : CSz row 9) (h : Is t (row.length : Int) T) (h0 : T.top = 0) (hd : T.deep ≤ 1000000) : route_value t row = some (canQ (predT t row T)) := by
 have key := value_lp hs hc (z := (false, [], [])) T K0 h (by unfold K0; omega)
 rw [h0] at key
 have key : lp route_value_s2 K0 ((t, row, 0, ()), ((false, [], [], ()), ())) = _ := key
 have hlt := endT_lt (row := row) h
 have hz := hs _ (List.getElem_mem hlt)
 rw [route_value, key, Option.bind_some]
 dsimp only
 rw [cnd (by omega), Int.toNat_natCast, List.getElem?_eq_getElem hlt, Option.bind_some, ratio_Clean_ok (hz.2.1.sm (by decide)), Option.bind_some, predT, nodeAt_get hlt]
theorem wayT_head (t : List NODE) (row : List CELL) (T : TR) : wayT t row T = T.top :: (wayT t row T).tail := by cases T <;> rfl
theorem cutRow_sz (l : List CELL) : CSz (l.map cutCell) 9 := by
 intro c hc
 obtain ⟨x, _, rfl⟩ := List.mem_map.1 hc
 exact ⟨Nat.le_trans (cutR_sz 3 _).1 (by decide), Nat.le_trans (cutR_sz 3 _).2 (by decide)⟩
theorem fitsOk {m : MODEL} {row : List CELL} (hl : m.2.length < 4294967296) (ht : ∀ t ∈ m.2, t.length < 4294967296) (hs : MSz m 4) :
  ∃ e : Int, route_fits m row = some e ∧ route_Fits m row = some e ∧ (e = 0 ↔ Good m ∧ (row.length : Int) = m.1) := by
 obtain ⟨b, h1, h2⟩ := Ok_ok hl ht hs (by decide)
 have key : ∃ e : Int, route_fits m row = some e ∧ (e = 0 ↔ Good m ∧ (row.length : Int) = m.1) := by
  cases b with
  | false => exact ⟨1, by rw [route_fits, h1]; rfl, by constructor; · intro h; exact absurd h (by decide)
                                                       · intro h; have := h2.2 h.1; simp at this⟩
  | true =>
   by_cases h : (row.length : Int) = m.1
   · exact ⟨0, by rw [route_fits, h1, Option.bind_some, Bool.not_true, cond_false, decide_eq_true h]; rfl, by simp [h2.1 rfl, h]⟩
   · exact ⟨14, by rw [route_fits, h1, Option.bind_some, Bool.not_true, cond_false, decide_eq_false h]; rfl, by simp [h]⟩
 obtain ⟨e, h3, h4⟩ := key
 exact ⟨e, h3, by rw [route_Fits, h3]; rfl, h4⟩
structure Askd (m : MODEL) (row : List CELL) : Prop where
 good : Good m
 len : (row.length : Int) = m.1
 ms : MSz m 4
 ml : m.2.length ≤ 6
 mt : ∀ t ∈ m.2, t.length ≤ 15
 cs : CSz row 9
theorem Askd.tree {m : MODEL} {row : List CELL} (h : Askd m row) {i : Nat} (hi : i < m.2.length) : TSz m.2[i] 4 ∧ Is m.2[i] (row.length : Int) (treeOf (treeAt m i)) ∧ (treeOf (treeAt m i)).top = 0 ∧ (treeOf (treeAt m i)).deep ≤ 16 ∧ treeAt m i = m.2[i] := by
 have h1 := h.good.treeOf hi
 have h2 := deep16 h.good h.mt hi
 rw [treeAt_get hi] at h2 ⊢
 exact ⟨h.ms _ (List.getElem_mem hi), by rw [h.len]; exact h1.1, h1.2.1, h2, rfl⟩
theorem sum_step {f : Nat → Rat} {n k : Nat} {q : RAT} (hs : SzQ (rsum f n) k) (hk : k < 1099511627776) (hq : Sm q) (e : rv q = f n) : ratio_Add (((canQ (rsum f n)).1.1, (canQ (rsum f n)).1.2), (canQ (rsum f n)).2) q = some (canQ (rsum f (n + 1))) := by
 have h1 := ratio_Add_ok (hs.sm hk) hq
 rw [rv_canQ, e] at h1
 exact h1
theorem Predict_ok {m : MODEL} {row : List CELL} (h : Askd m row) : route_Predict m row = some (canQ (predM m row), 0) := by
 obtain ⟨e, h1, _, h2⟩ := fitsOk (row := row) (by have := h.ml; omega) (fun t ht => by have := h.mt t ht; omega) h.ms
 have e0 : e = 0 := h2.2 ⟨h.good, h.len⟩
 subst e0
 have ml := h.ml
 have key := lp_up (step := route_Predict_s6) (fun i => ((row, m.2, ((m.2.length : Nat) : Int), (i : Int), ()), ((false, [], [], ()), ((canQ (rsum (fun i => predT (treeAt m i) row (treeOf (treeAt m i))) i)).1.1, (canQ (rsum (fun i => predT (treeAt m i) row (treeOf (treeAt m i))) i)).1.2, (canQ (rsum (fun i => predT (treeAt m i) row (treeOf (treeAt m i))) i)).2, ()), ()))) m.2.length (by omega) (by
  intro g i hi
  have d0 : (i : Int) < ((m.2.length : Nat) : Int) := by omega
  have d1 : (0 : Int) ≤ (i : Int) := by omega
  obtain ⟨t1, t2, t3, t4, t5⟩ := h.tree hi
  have hv := rvalue_ok t1 h.cs t2 t3 (by omega)
  have hq : SzQ (predT m.2[i] row (treeOf (treeAt m i))) 4 := predT_sz t1 t2
  have ha := sum_step (f := fun i => predT (treeAt m i) row (treeOf (treeAt m i))) (predM_sz (row := row) h.good h.ms (n := i) (by omega)) (by omega) (hq.sm (by decide)) (by rw [rv_canQ]; show _ = predT (treeAt m i) row _; rw [t5])
  rw [route_Predict_s6, cnd d0, cnd d1, Int.toNat_natCast, List.getElem?_eq_getElem hi, Option.bind_some, hv, Option.bind_some, ha, Option.bind_some, iadd1 (by omega)]
  rfl) (by
  intro g
  rw [route_Predict_s6, cnd' (by omega)])
 rw [route_Predict, h1, Option.bind_some, show (!decide ((0 : Int) = 0)) = false by decide, cond_false, ratio_Zero_ok, Option.bind_some]
 have key' : lp route_Predict_s6 K0 ((row, m.2, ((m.2.length : Nat) : Int), 0, ()), ((false, [], [], ()), ((canQ 0).1.1, (canQ 0).1.2, (canQ 0).2, ()), ())) = _ := key
 rw [key']
 rfl
theorem Predict10_gen {m : MODEL} {row : List CELL} (f : Nat → Rat) (ml : m.2.length ≤ 6) (cs : CSz row 9) (ht : ∀ i (h : i < m.2.length), TSz m.2[i] 4 ∧ ∃ T, Is m.2[i] (row.length : Int) T ∧ T.top = 0 ∧ T.deep ≤ 16 ∧ f i = predT m.2[i] row T) :
  dendronlaw10_Predict m row = some (canQ (rsum f m.2.length)) := by
 have hsz : ∀ n, n ≤ m.2.length → SzQ (rsum f n) (1 + n * 5) := fun n hn => rsum_sz fun i hi => by
  obtain ⟨t1, T, t2, t3, t4, t5⟩ := ht i (by omega)
  rw [t5]; exact predT_sz t1 t2
 have key := lp_up (step := dendronlaw10_Predict_s3) (fun i => ((row, (i : Int), ()), ((m.1, m.2, ()), (false, [], [], ()), ((canQ (rsum f i)).1.1, (canQ (rsum f i)).1.2, (canQ (rsum f i)).2, ()), ()))) m.2.length (by omega) (by
  intro g i hi
  have d0 : (i : Int) < ((m.2.length : Nat) : Int) := by omega
  have d1 : (0 : Int) ≤ (i : Int) := by omega
  obtain ⟨t1, T, t2, t3, t4, t5⟩ := ht i hi
  have hw := Way10_ok t1 cs R0 T t2 (by unfold R0; omega) (by omega)
  rw [t3] at hw
  have hw : dendronlaw10_Way R0 m.2[i] 0 row = _ := hw
  have hl := wayT_last m.2[i] row T
  have hn := wayT_len m.2[i] row T
  have hp : 0 < (wayT m.2[i] row T).length := by rw [wayT_head]; simp
  have hx : (ints (wayT m.2[i] row T))[(wayT m.2[i] row T).length - 1]? = some ((endT m.2[i] row T : Nat) : Int) := by
   rw [List.getLast?_eq_getElem?] at hl
   rw [ints, List.getElem?_map, hl]
   rfl
  have li : (ints (wayT m.2[i] row T)).length = (wayT m.2[i] row T).length := by simp [ints]
  have i1 : isub .i64 ((ints (wayT m.2[i] row T)).length : Int) 1 = (((wayT m.2[i] row T).length - 1 : Nat) : Int) := by rw [li, isub_i] <;> omega
  have hlt := endT_lt (row := row) t2
  have hz := t1 _ (List.getElem_mem hlt)
  have ha := sum_step (hsz i (by omega)) (by omega) (hz.2.1.sm (by decide)) (by rw [t5, predT, nodeAt_get hlt])
  rw [dendronlaw10_Predict_s3, cnd d0, cnd d1, Int.toNat_natCast, List.getElem?_eq_getElem hi, Option.bind_some, hw, Option.bind_some, cnd d1, Option.bind_some, i1, cnd2 (by omega) (by rw [li]; omega), Int.toNat_natCast, hx, Option.bind_some, cnd (by omega), Int.toNat_natCast, List.getElem?_eq_getElem hlt, Option.bind_some, ha, Option.bind_some, iadd1 (by omega)]
  rfl) (by
  intro g
  rw [dendronlaw10_Predict_s3, cnd' (by omega)])
 rw [dendronlaw10_Predict, ratio_Zero_ok, Option.bind_some]
 have key' : lp dendronlaw10_Predict_s3 K0 ((row, 0, ()), ((m.1, m.2, ()), (false, [], [], ()), ((canQ 0).1.1, (canQ 0).1.2, (canQ 0).2, ()), ())) = _ := key
 rw [key']
 rfl
theorem Predict10_ok {m : MODEL} {row : List CELL} (h : Askd m row) : dendronlaw10_Predict m row = some (canQ (predM m row)) :=
 Predict10_gen (fun i => predT (treeAt m i) row (treeOf (treeAt m i))) h.ml h.cs (fun i hi => by
  obtain ⟨t1, t2, t3, t4, t5⟩ := h.tree hi
  exact ⟨t1, _, t2, t3, t4, by rw [← t5]⟩)
theorem is_self {q r : Rat} {n m : Nat} (hq : SzQ q n) (hn : n < 91625968980) (hr : SzQ r m) (hm : m < 91625968980) (e : q = r) : dendronref10_Is (canQ q) (canQ r) = some true := by
 rw [Is_ok hq hn hr.szR hm, rv_canQ, decide_eq_true e]
theorem testBit_div (n k : Nat) : (n / 2 ^ k) % 2 = 1 ↔ n.testBit k = true := by
 rw [Nat.testBit_eq_decide_div_mod_eq, decide_eq_true_iff]
theorem known_ok {set k : Nat} (hs : set < 18446744073709551616) (hk : k ≤ 64) : expect_known (set : Int) (k : Int) = some (set.testBit k) := by
 have h2 : (set / 2 ^ k : Nat) < 18446744073709551616 := Nat.lt_of_le_of_lt (Nat.div_le_self _ _) hs
 have h3 := iand_nat (x := set / 2 ^ k) (y := 1) h2 (by decide)
 rw [expect_known, cnd' (by omega), shr_nat set k hk]
 have h3 : iand .u64 ((set / 2 ^ k : Nat) : Int) 1 = ((set / 2 ^ k &&& 1 : Nat) : Int) := h3
 rw [h3, Nat.and_one_is_mod]
 congr 1
 by_cases h : set.testBit k = true
 · rw [h, decide_eq_true]
   have := (testBit_div set k).2 h
   omega
 · have h' : set.testBit k = false := by simpa using h
   rw [h', decide_eq_false]
   intro e
   exact h ((testBit_div set k).1 (by omega))
theorem over_ok {a b : RAT} (ha : Sm a) (hb : Sm b) (h : rv b ≠ 0) : expect_over a b = some (canQ (rv a / rv b)) := by
 rw [expect_over, ratio_Div_ok ha hb, if_neg h]; rfl
theorem mean_ok {t : List NODE} {i a b : Nat} {x y : RAT} {p q : Rat} {k : Nat} (hs : TSz t 4) (hcov : CoversP t) (hi : i < t.length) (ha : a < t.length) (hb : b < t.length) (hL : nL t[i] = (a : Int)) (hR : nR t[i] = (b : Int)) (hx : rv x = p) (hy : rv y = q) (hxs : Sm x) (hys : Sm y)
  (hp : SzQ p k) (hq : SzQ q k) (hk : k < 1000000000) : expect_mean t t[i] x y = some (canQ ((cov t a * p + cov t b * q) / cov t i)) := by
 have za := (hs _ (List.getElem_mem ha)).2.2
 have zb := (hs _ (List.getElem_mem hb)).2.2
 have zi := (hs _ (List.getElem_mem hi)).2.2
 have m1 := ratio_Mul_ok (za.sm (by decide)) hxs
 have m2 := ratio_Mul_ok (zb.sm (by decide)) hys
 rw [hx] at m1
 rw [hy] at m2
 have s1 : SzQ (rv (nCov t[a]) * p) (4 + k) := (za.szQ (by decide)).mul hp
 have s2 : SzQ (rv (nCov t[b]) * q) (4 + k) := (zb.szQ (by decide)).mul hq
 have s3 := s1.add s2
 have m3 := ratio_Add_ok (s1.sm (by omega)) (s2.sm (by omega))
 rw [rv_canQ, rv_canQ] at m3
 have hne : rv (nCov t[i]) ≠ 0 := by
  have := hcov i hi
  intro e
  rw [e] at this
  exact absurd this (by decide)
 have m4 := over_ok (s3.sm (by omega)) (zi.sm (by decide)) hne
 rw [rv_canQ] at m4
 rw [expect_mean, show t[i].2.2.2.1 = (a : Int) from hL, cnd (by omega), Int.toNat_natCast, List.getElem?_eq_getElem ha, Option.bind_some, m1, Option.bind_some, show t[i].2.2.2.2.1 = (b : Int) from hR, cnd (by omega), Int.toNat_natCast, List.getElem?_eq_getElem hb, Option.bind_some, m2, Option.bind_some, m3, Option.bind_some, m4, Option.bind_some, cov_get ha, cov_get hb, cov_get hi]
theorem expect_value_ok {t : List NODE} {row : List CELL} {set : Nat} (hs : TSz t 4) (hc : CSz row 9) (hcov : CoversP t) (hset : set < 18446744073709551616) (hf64 : row.length ≤ 64) : ∀ (n : Nat) (T : TR), Is t (row.length : Int) T → T.deep ≤ n → T.size ≤ 1000000 →
  expect_value n t (T.top : Int) row (set : Int) = some (canQ (expT t row set T)) := by
 intro n
 induction n with
 | zero => intro T _ hd; have := T.deep_pos; omega
 | succ n ih =>
  intro T h hd hz
  show expect_value_b (expect_value n) t T.top row set = _
  cases T with
  | leaf i =>
   obtain ⟨h1, h2⟩ := h
   have d0 : (0 : Int) ≤ (i : Int) := by omega
   have z := hs _ (List.getElem_mem h1)
   rw [expect_value_b, show ((TR.leaf i).top : Int) = (i : Int) from rfl, cnd d0, Int.toNat_natCast, List.getElem?_eq_getElem h1, Option.bind_some, show t[i].1 = true from h2, cond_true, ratio_Clean_ok (z.2.1.sm (by decide)), Option.bind_some, expT, nodeAt_get h1]
  | split i l r =>
   have h0 := h
   obtain ⟨h1, h2, f0, f1, h3, h4, h5, h6⟩ := h
   have d0 : (0 : Int) ≤ (i : Int) := by omega
   simp only [TR.deep] at hd
   simp only [TR.size] at hz
   obtain ⟨c, g1, g2, g3⟩ := goL_ok (f := 0) hs hc h1 f0 f1
   have z := hs _ (List.getElem_mem h1)
   have el : expect_value n t t[i].2.2.2.1 row set = some (canQ (expT t row set l)) := by rw [show t[i].2.2.2.1 = _ from h3]; exact ih l h5 (by omega) (by omega)
   have er : expect_value n t t[i].2.2.2.2.1 row set = some (canQ (expT t row set r)) := by rw [show t[i].2.2.2.2.1 = _ from h4]; exact ih r h6 (by omega) (by omega)
   have hft : ((nFeat t[i]).toNat : Int) = nFeat t[i] := by omega
   have hkn := known_ok (k := (nFeat t[i]).toNat) hset (by omega)
   rw [hft] at hkn
   rw [expect_value_b, show ((TR.split i l r).top : Int) = (i : Int) from rfl, cnd d0, Int.toNat_natCast, List.getElem?_eq_getElem h1, Option.bind_some, show t[i].1 = false from h2, cond_false, hkn, Option.bind_some, expT, nodeAt_get h1]
   cases hb : set.testBit (nFeat t[i]).toNat with
   | false =>
    have sl := expT_sz (row := row) (set := set) hs h5
    have sr := expT_sz (row := row) (set := set) hs h6
    have sl' := sl.mono (m := 16000000) (by omega)
    have sr' := sr.mono (m := 16000000) (by omega)
    rw [Bool.not_false, cond_true, el, Option.bind_some, er, Option.bind_some, mean_ok hs hcov h1 h5.top_lt h6.top_lt h3 h4 (rv_canQ _) (rv_canQ _) (sl'.sm (by decide)) (sr'.sm (by decide)) sl' sr' (by decide), Option.bind_some, if_neg (by decide)]
   | true =>
    rw [Bool.not_true, cond_false, cnd f0, g1, Option.bind_some, Left_ok z.1 (by decide) g2 (by decide), Option.bind_some, g3, show (!nLeaf t[i]) = true by rw [h2]; rfl, Bool.true_and, if_pos rfl]
    cases goL t row i with
    | true => rw [cond_true, el, Option.bind_some, if_pos rfl]
    | false => rw [cond_false, er, Option.bind_some, if_neg (by decide)]
theorem Askd.cov {m : MODEL} {row : List CELL} (h : Askd m row) {i : Nat} (hi : i < m.2.length) : CoversP m.2[i] := h.good.covers hi
theorem Askd.f64 {m : MODEL} {row : List CELL} (h : Askd m row) : row.length ≤ 64 := by
 have := h.good.1.2.1
 have := h.len
 omega
theorem eValue_ok {m : MODEL} {row : List CELL} (h : Askd m row) {set : Nat} (hset : set < 18446744073709551616) : expect_Value m row (set : Int) = some (canQ (sayM m row set), 0) := by
 obtain ⟨e, _, h1, h2⟩ := fitsOk (row := row) (by have := h.ml; omega) (fun t ht => by have := h.mt t ht; omega) h.ms
 have e0 : e = 0 := h2.2 ⟨h.good, h.len⟩
 subst e0
 have ml := h.ml
 obtain ⟨F, eF⟩ : ∃ F : Nat → Rat, F = fun i => expT (treeAt m i) row set (treeOf (treeAt m i)) := ⟨_, rfl⟩
 have hF : ∀ n, n ≤ m.2.length → SzQ (rsum F n) (1 + n * 1048577) := fun n hn => by rw [eF]; exact sayM_sz h.good h.ms h.mt hn
 have key := lp_up (step := expect_Value_s6) (fun i => ((row, (set : Int), m.2, ((m.2.length : Nat) : Int), (i : Int), ()), ((false, [], [], ()), ((canQ (rsum F i)).1.1, (canQ (rsum F i)).1.2, (canQ (rsum F i)).2, ()), ()))) m.2.length (by omega) (by
  intro g i hi
  have d0 : (i : Int) < ((m.2.length : Nat) : Int) := by omega
  have d1 : (0 : Int) ≤ (i : Int) := by omega
  obtain ⟨t1, t2, t3, t4, t5⟩ := h.tree hi
  have hz := TR.size_le t4
  have hv := expect_value_ok t1 h.cs (h.cov hi) hset h.f64 R0 _ t2 (by unfold R0; omega) (by omega)
  rw [t3] at hv
  have hv : expect_value R0 m.2[i] 0 row set = some (canQ (expT m.2[i] row set (treeOf (treeAt m i)))) := hv
  have hq : SzQ (expT m.2[i] row set (treeOf (treeAt m i))) 1048576 := (expT_sz t1 t2).mono (by omega)
  have ha := sum_step (hF i (by omega)) (by omega) (hq.sm (by decide)) (by rw [rv_canQ, eF]; show _ = expT (treeAt m i) row set _; rw [t5])
  rw [expect_Value_s6, cnd d0, cnd d1, Int.toNat_natCast, List.getElem?_eq_getElem hi, Option.bind_some, hv, Option.bind_some, ha, Option.bind_some, iadd1 (by omega)]
  rfl) (by
  intro g
  rw [expect_Value_s6, cnd' (by omega)])
 rw [expect_Value, h1, Option.bind_some, show (!decide ((0 : Int) = 0)) = false by decide, cond_false, ratio_Zero_ok, Option.bind_some]
 have key' : lp expect_Value_s6 K0 ((row, (set : Int), m.2, ((m.2.length : Nat) : Int), 0, ()), ((false, [], [], ()), ((canQ 0).1.1, (canQ 0).1.2, (canQ 0).2, ()), ())) = _ := key
 rw [key']
 rw [sayM, ← eF]
 rfl
theorem Small_ok (m0 : MODEL) (row0 : List CELL) (hl : m0.2.length ≤ 9223372036854775807) (ht : ∀ t ∈ m0.2, t.length ≤ 9223372036854775807) (hr : row0.length ≤ 9223372036854775807) :
   ∃ m row, dendronlaw11_Small m0 row0 = some (m, row) ∧ MSz m 4 ∧ m.2.length ≤ 3 ∧ (∀ t ∈ m.2, t.length ≤ 15) ∧ CSz row 9 := by
 have hf := Few07_ok m0 hl ht
 have ms := cutM_sz m0
 have mt := cutM_tlen m0
 have h9 := Few09_ok row0 70 hr (by decide)
 have h9 : dendronlaw09_Few row0 70 = some ((row0.take 70).map cutCell) := h9
 have cs := cutRow_sz (row0.take 70)
 by_cases h3 : ((cutM m0).2.length : Int) > 3
 · refine ⟨((cutM m0).1, (cutM m0).2.take 3), (row0.take 70).map cutCell, ?_, fun t h => ms t (List.mem_of_mem_take h), by simp; omega, fun t h => mt t (List.mem_of_mem_take h), cs⟩
   rw [dendronlaw11_Small, hf, Option.bind_some, cnd h3, cnd (by omega), h9]; rfl
 · refine ⟨cutM m0, (row0.take 70).map cutCell, ?_, ms, by omega, mt, cs⟩
   rw [dendronlaw11_Small, hf, Option.bind_some, cnd' h3, h9]; rfl
def qcan (qs : List Rat) : List RAT := qs.map canQ
@[simp] theorem qcan_len (qs : List Rat) : (qcan qs).length = qs.length := by simp [qcan]
def ferr : List Int → Int
 | [] => 0
 | e :: r => if e ≠ 0 then e else ferr r
theorem ferr_zero {l : List Int} : ferr l = 0 ↔ ∀ e ∈ l, e = 0 := by
 induction l with
 | nil => simp [ferr]
 | cons e r ih =>
  simp only [ferr]
  by_cases h : e = 0
  · subst h; simp [ih]
  · rw [if_pos h]; simp [h]
theorem ferr_at {l : List Int} {i : Nat} (hi : i < l.length) (h : ∀ j, j < i → (hj : j < l.length) → l[j] = 0) (h' : l[i] ≠ 0) : ferr l = l[i] := by
 induction l generalizing i with
 | nil => simp at hi
 | cons e r ih =>
  cases i with
  | zero => simp only [List.getElem_cons_zero] at h' ⊢; rw [ferr, if_pos h']
  | succ i =>
   have e0 : e = 0 := h 0 (by omega) (by simp)
   subst e0
   simp only [List.length_cons, Nat.add_lt_add_iff_right] at hi
   simp only [List.getElem_cons_succ] at h' ⊢
   rw [ferr, if_neg (by simp)]
   exact ih hi (fun j hj hj2 => h (j + 1) (by omega) (by simp; omega)) h'
def bsum : List Rat → Rat
 | [] => 0
 | x :: r => bsum r + x
theorem rsum_head (f : Nat → Rat) (n : Nat) : rsum f (n + 1) = f 0 + rsum (fun i => f (i + 1)) n := by
 induction n with
 | zero => simp [rsum]; grind
 | succ n ih => rw [rsum, ih, rsum]; grind
theorem bsum_sz {l : List Rat} {k : Nat} (h : ∀ x ∈ l, SzQ x k) : SzQ (bsum l) (1 + l.length * (k + 1)) := by
 induction l with
 | nil => simpa [bsum] using SzQ.zero
 | cons x r ih =>
  have := (ih fun y hy => h y (List.mem_cons_of_mem _ hy)).add (h x List.mem_cons_self)
  simp only [bsum]
  exact this.mono (by simp only [List.length_cons, Nat.add_mul]; omega)
theorem bsum_vals (ps : List Rat) : bsum ps = rsum (vals (ps.map canQ)) ps.length := by
 induction ps with
 | nil => rfl
 | cons x r ih =>
  rw [bsum, ih, List.length_cons, rsum_head]
  have e0 : vals ((x :: r).map canQ) 0 = x := by
   rw [vals_get (by simp)]; simp [rv_canQ]
  rw [e0]
  have : (fun i => vals ((x :: r).map canQ) (i + 1)) = vals (r.map canQ) := by
   funext i
   unfold vals
   simp
  rw [this, Rat.add_comm]
def errB (b : Bool) (m : MODEL) (r : List CELL) : Int := if b then (if (r.length : Int) = m.1 then 0 else 14) else 1
theorem fits_b {m : MODEL} {b : Bool} (hv : valid_Ok m = some b) (r : List CELL) : route_fits m r = some (errB b m r) := by
 rw [route_fits, hv, Option.bind_some]
 cases b with
 | false => rfl
 | true =>
  rw [Bool.not_true, cond_false, errB, if_pos rfl]
  by_cases h : (r.length : Int) = m.1
  · rw [decide_eq_true h, if_pos h]; rfl
  · rw [decide_eq_false h, if_neg h]; rfl
theorem Predict_b {m : MODEL} {b : Bool} (hv : valid_Ok m = some b) (hb : b = true ↔ Good m) (ms : MSz m 4) (ml : m.2.length ≤ 6) (mt : ∀ t ∈ m.2, t.length ≤ 15) {r : List CELL} (cs : CSz r 9) :
   (errB b m r = 0 ∧ route_Predict m r = some (canQ (predM m r), 0) ∧ dendronlaw10_Predict m r = some (canQ (predM m r)) ∧ Good m) ∨ (errB b m r ≠ 0 ∧ route_Predict m r = some (zR, errB b m r)) := by
 by_cases he : errB b m r = 0
 · have hbt : b = true := by
    cases b with
    | true => rfl
    | false => simp [errB] at he
   have hl : (r.length : Int) = m.1 := by
    rw [errB, if_pos hbt] at he
    by_cases h : (r.length : Int) = m.1
    · exact h
    · rw [if_neg h] at he; cases he
   have ha : Askd m r := ⟨hb.1 hbt, hl, ms, ml, mt, cs⟩
   exact .inl ⟨he, Predict_ok ha, Predict10_ok ha, ha.good⟩
 · refine .inr ⟨he, ?_⟩
   rw [route_Predict, fits_b hv, Option.bind_some, decide_eq_false he]; rfl
theorem route_Mean_ok {m : MODEL} {b : Bool} (hv : valid_Ok m = some b) (hb : b = true ↔ Good m) (ms : MSz m 4) (ml : m.2.length ≤ 6) (mt : ∀ t ∈ m.2, t.length ≤ 15) {R : List (List CELL)} (cs : ∀ r ∈ R, CSz r 9) (hR : R.length ≤ 8) :
   (R = [] ∧ route_Mean m R = some (zR, if b then 15 else 1)) ∨
   (R ≠ [] ∧ ferr (R.map (errB b m)) ≠ 0 ∧ route_Mean m R = some (zR, ferr (R.map (errB b m)))) ∨
   (R ≠ [] ∧ (∀ r ∈ R, errB b m r = 0) ∧ Good m ∧ route_Mean m R = some (canQ (bsum (R.map (predM m)) / ((R.length : Int) : Rat)), 0)) := by
 rcases lp_allh (step := route_Mean_s3) (fun i => ((R, (R.take i).map (fun r => canQ (predM m r)), R, (R.length : Int), (i : Int), ()), ((m.1, m.2, ()), (false, [], [], ()), ()))) R.length (fun i => (hi : i < R.length) → errB b m R[i] = 0)
     (fun r => r = .inr ((ferr (R.map (errB b m)), ()), ((false, [], [], ()), ()))) (.inl ((R, R.map (fun r => canQ (predM m r)), ()), ((m.1, m.2, ()), (false, [], [], ()), ()))) (by omega) (by
     intro i hi hlow
     have d0 : (i : Int) < ((R.length : Nat) : Int) := by omega
     have d1 : (0 : Int) ≤ (i : Int) := by omega
     rcases Predict_b hv hb ms ml mt (cs _ (List.getElem_mem hi)) with ⟨h1, h2, _, _⟩ | ⟨h1, h2⟩
     · refine .inl ⟨fun _ => h1, fun g => ?_⟩
       have h2 : route_Predict (m.1, m.2) R[i] = _ := h2
       rw [route_Mean_s3, cnd d0, cnd d1, Int.toNat_natCast, List.getElem?_eq_getElem hi, Option.bind_some, h2, Option.bind_some]
       dsimp only
       rw [show (!decide ((0 : Int) = 0)) = false by decide, cond_false, blt (by simp; omega), cond_true, iadd1 (by omega), map_take_succ (fun r => canQ (predM m r)) hi]
       rfl
     · refine .inr ⟨fun h => h1 (h hi), _, rfl, fun g => ?_⟩
       have h2 : route_Predict (m.1, m.2) R[i] = _ := h2
       have hfe : ferr (R.map (errB b m)) = errB b m R[i] := by
         have := ferr_at (l := R.map (errB b m)) (i := i) (by simpa using hi) (fun j hj hj2 => by simpa using hlow j hj (by omega)) (by simpa using h1)
         simpa using this
       rw [route_Mean_s3, cnd d0, cnd d1, Int.toNat_natCast, List.getElem?_eq_getElem hi, Option.bind_some, h2, Option.bind_some, hfe]
       dsimp only
       rw [decide_eq_false h1, Bool.not_false, cond_true]) (by
     intro g
     rw [route_Mean_s3, cnd' (by omega), List.take_length]) with ⟨h, hlp⟩ | ⟨h, r, rfl, hlp⟩
 · have hlp : lp route_Mean_s3 K0 ((R, [], R, (R.length : Int), 0, ()), ((m.1, m.2, ()), (false, [], [], ()), ())) = _ := hlp
   by_cases hn : R = []
   · subst hn
     refine .inl ⟨rfl, ?_⟩
     rw [route_Mean, hlp, Option.bind_some]
     dsimp only
     rw [cnd (by rfl)]
     have hv' : valid_Ok (m.1, m.2) = some b := hv
     rw [hv', Option.bind_some]
     cases b <;> rfl
   · have hp : 0 < R.length := List.length_pos_iff.2 hn
     have hall : ∀ r ∈ R, errB b m r = 0 := fun r hr => by
       obtain ⟨i, hi, rfl⟩ := List.getElem_of_mem hr
       exact h i hi hi
     have hg : Good m := by
       rcases Predict_b hv hb ms ml mt (cs _ (List.getElem_mem hp)) with ⟨_, _, _, hg⟩ | ⟨h1, _⟩
       · exact hg
       · exact absurd (h 0 hp hp) h1
     refine .inr (.inr ⟨hn, hall, hg, ?_⟩)
     have hz : ∀ r, SzQ (predM m r) 40 := fun r => (predM_sz (row := r) hg ms (n := m.2.length) (Nat.le_refl _)).mono (by omega)
     have hmean := ratio_Mean_ok (l := R.map (fun r => canQ (predM m r))) (k := 40) (by
       intro x hx
       obtain ⟨r, _, rfl⟩ := List.mem_map.1 hx
       exact (hz r).sm (by decide)) (by
       intro i hi
       rw [vals_get hi]
       simp only [List.getElem_map, rv_canQ]
       exact hz _) (by simp; omega) (by simp; omega) (by simpa using hn)
     have eb : rsum (vals (R.map (fun r => canQ (predM m r)))) (R.map (fun r => canQ (predM m r))).length = bsum (R.map (predM m)) := by
       rw [bsum_vals, List.map_map]; simp; rfl
     rw [eb, List.length_map] at hmean
     rw [route_Mean, hlp, Option.bind_some]
     dsimp only
     rw [cnd' (by omega), hmean]
     rfl
 · have hlp : lp route_Mean_s3 K0 ((R, [], R, (R.length : Int), 0, ()), ((m.1, m.2, ()), (false, [], [], ()), ())) = _ := hlp
   refine .inr (.inl ⟨?_, ?_, ?_⟩)
   · rintro rfl; exact h (fun i hi => by simp at hi)
   · intro e
     exact h (fun i hi _ => ferr_zero.1 e _ (List.mem_map.2 ⟨_, List.getElem_mem hi, rfl⟩))
   · rw [route_Mean, hlp]; rfl
def lsum : List Rat → Rat
 | [] => 0
 | x :: r => x + lsum r
theorem lsum_append (a b : List Rat) : lsum (a ++ b) = lsum a + lsum b := by
 induction a with
 | nil => simp [lsum, Rat.zero_add]
 | cons x a ih => simp only [List.cons_append, lsum, ih, Rat.add_assoc]
theorem lsum_take_succ {l : List Rat} {i : Nat} (h : i < l.length) : lsum (l.take (i + 1)) = lsum (l.take i) + l[i] := by
 rw [List.take_succ_eq_append_getElem h, lsum_append]; simp [lsum, Rat.add_zero]
def InT (U : TR) : TR → Prop
 | .leaf i => U = .leaf i
 | .split i l r => U = .split i l r ∨ InT U l ∨ InT U r
theorem InT.size {U T : TR} (h : InT U T) : U.size ≤ T.size := by
 induction T with
 | leaf j => cases h; exact Nat.le_refl _
 | split j a b iha ihb =>
  simp only [TR.size]
  rcases h with h | h | h
  · subst h; simp only [TR.size]; omega
  · have := iha h; omega
  · have := ihb h; omega
abbrev zC : CELL := (false, ((false, []), []))
def oneRow (m : MODEL) (k : Nat) (z : CELL) : List CELL := (List.replicate m.1.toNat zC).set k z
theorem askd_one {m : MODEL} (hg : Good m) (ms : MSz m 4) (ml : m.2.length ≤ 6) (mt : ∀ t ∈ m.2, t.length ≤ 15) {k : Nat} {z : CELL} (hz : SzR z.2 9) : Askd m (oneRow m k z) := by
 have f0 := hg.1.1
 refine ⟨hg, by simp [oneRow]; omega, ms, ml, mt, ?_⟩
 intro c hc
 rcases List.mem_or_eq_of_mem_set hc with hc | rfl
 · have := (List.mem_replicate.1 hc).2
   subst this
   exact ⟨Nat.zero_le _, Nat.zero_le _⟩
 · exact hz
def featE (b : Bool) (m : MODEL) (i : Int) : Int := if b then (if i < 0 ∨ i ≥ m.1 then 8 else 0) else 1
theorem feature_ok {m : MODEL} {b : Bool} (hv : valid_Ok m = some b) (i : Int) : depend_feature m i = some (featE b m i) := by
 rw [depend_feature, hv, Option.bind_some]
 cases b with
 | false => rfl
 | true =>
  rw [Bool.not_true, cond_false, featE, if_pos rfl]
  by_cases h1 : i < 0
  · rw [cnd h1, if_pos (.inl h1)]
  · by_cases h2 : i ≥ m.1
    · rw [cnd' h1, cnd h2, if_pos (.inr h2)]
    · rw [cnd' h1, cnd' h2, if_neg (by omega)]
theorem why13_ok {m : MODEL} {b : Bool} (hv : valid_Ok m = some b) (i : Int) : dendronlaw13_why m i = some (featE b m i) := feature_ok hv i
theorem featE_zero {m : MODEL} {b : Bool} {i : Int} (h : featE b m i = 0) : b = true ∧ 0 ≤ i ∧ i < m.1 := by
 unfold featE at h
 cases b with
 | false => simp at h
 | true =>
  rw [if_pos rfl] at h
  by_cases h1 : i < 0 ∨ i ≥ m.1
  · rw [if_pos h1] at h; cases h
  · exact ⟨rfl, by omega, by omega⟩
theorem shl_one {k : Nat} (h : k < 64) : shlV .u64 1 (k : Int) = ((2 ^ k : Nat) : Int) := by
 have hp : 2 ^ k < 2 ^ 64 := Nat.pow_lt_pow_right (by decide) h
 have := shl_nat (x := 1) (s := k) (by omega) (by omega)
 rw [Nat.one_mul] at this
 exact this
theorem pow_lt64 {k : Nat} (h : k < 64) : 2 ^ k < 18446744073709551616 := by
 have hp : 2 ^ k < 2 ^ 64 := Nat.pow_lt_pow_right (by decide) h
 exact hp
theorem Cover_ok {m : MODEL} (hv : valid_Ok m = some true) (hg : Good m) (ms : MSz m 4) (ml : m.2.length ≤ 6) (mt : ∀ t ∈ m.2, t.length ≤ 15) {k : Nat} (hk : (k : Int) < m.1) {z : CELL} (hz : SzR z.2 9) :
  depend_Cover m (k : Int) z = some (canQ (sayM m (oneRow m k z) (2 ^ k)), 0) := by
 have f0 := hg.1.1
 have f1 := hg.1.2.1
 have hf := feature_ok hv (k : Int)
 rw [featE, if_pos rfl, if_neg (by omega)] at hf
 have ha := askd_one hg ms ml mt (k := k) hz
 have hs := shl_one (k := k) (by omega)
 have hvv := eValue_ok ha (set := 2 ^ k) (pow_lt64 (by omega))
 obtain ⟨n, hn⟩ : ∃ n, n = 2 ^ k := ⟨_, rfl⟩
 rw [← hn] at hs hvv ⊢
 have c1 : (decide (m.1 = m.1) && decide (0 ≤ m.1) && decide (((64 : Nat) : Int) * m.1 ≤ 281474976710656) && decide (m.1 ≤ 9223372036854775807)) = true := by
  rw [decide_eq_true rfl, decide_eq_true f0, decide_eq_true (by omega), decide_eq_true (by omega)]; rfl
 have l1 : (List.replicate m.1.toNat zC).length = m.1.toNat := List.length_replicate ..
 rw [depend_Cover, hf, Option.bind_some, show (!decide ((0 : Int) = 0)) = false by decide, cond_false, c1, cond_true, cnd2 (by omega) (by rw [l1]; omega), Int.toNat_natCast, List.getElem?_eq_getElem (by rw [l1]; omega), Option.bind_some, cnd' (by omega), hs]
 show (expect_Value m (oneRow m k z) (n : Int)).bind _ = _
 rw [hvv, Option.bind_some]
def cutRowsN (n : Nat) (l : List (List CELL)) : List (List CELL) := (l.take n).map fun r => (r.take 70).map cutCell
theorem All09n_ok (n : Nat) (hn : n ≤ 1000) (l : List (List CELL)) (hl : l.length ≤ 9223372036854775807) (hr : ∀ r ∈ l, r.length ≤ 9223372036854775807) : dendronlaw09_All l (n : Int) 70 = some (cutRowsN n l) := by
 have key := lp_up (step := dendronlaw09_All_s3) (fun i => ((l, (n : Int), 70, (l.take i).map (fun r => (r.take 70).map cutCell), (i : Int), ()), ())) (min l.length n) (r := ((cutRowsN n l, ()), ())) (by omega) (by
  intro g i hi
  have hi1 : i < l.length := by omega
  have d0 : (i : Int) < ((l.length : Nat) : Int) := by omega
  have d1 : (0 : Int) ≤ (i : Int) := by omega
  have d2 : (i : Int) < (n : Int) := by omega
  have h9 : dendronlaw09_Few l[i] 70 = some ((l[i].take 70).map cutCell) := Few09_ok l[i] 70 (hr _ (List.getElem_mem hi1)) (by decide)
  have d4 : (((l.take i).map (fun r => (r.take 70).map cutCell)).length + 1) * 24 ≤ 140737488355328 := by simp; omega
  rw [dendronlaw09_All_s3, cnd d0, cnd d2, cnd d1, Int.toNat_natCast, List.getElem?_eq_getElem hi1, Option.bind_some, h9, Option.bind_some, blt d4, cond_true, iadd1 (by omega), map_take_succ _ hi1]
  rfl) (by
  intro g
  by_cases h : l.length ≤ n
  · rw [dendronlaw09_All_s3, cnd' (by omega), Nat.min_eq_left h, List.take_of_length_le (Nat.le_refl _), cutRowsN, List.take_of_length_le h]
  · rw [dendronlaw09_All_s3, cnd (by omega), cnd' (by omega), Nat.min_eq_right (by omega), cutRowsN])
 have key : lp dendronlaw09_All_s3 K0 ((l, (n : Int), 70, [], 0, ()), ()) = _ := key
 rw [dendronlaw09_All, key]; rfl
theorem cutRowsN_sz (n : Nat) (l : List (List CELL)) : ∀ r ∈ cutRowsN n l, CSz r 9 := by
 intro r hr
 obtain ⟨x, _, rfl⟩ := List.mem_map.1 hr
 exact cutRow_sz _
theorem cutRowsN_len (n : Nat) (l : List (List CELL)) : (cutRowsN n l).length ≤ n := by simp [cutRowsN]; omega
def rowsE (m : MODEL) (R : List (List CELL)) : Int := if ∀ r ∈ R, (r.length : Int) = m.1 then (if R = [] then 15 else 0) else 14
theorem rowsE_zero {m : MODEL} {R : List (List CELL)} (h : rowsE m R = 0) : (∀ r ∈ R, (r.length : Int) = m.1) ∧ R ≠ [] := by
 unfold rowsE at h
 split at h
 · rename_i h1
   split at h
   · cases h
   · rename_i h2; exact ⟨h1, h2⟩
 · cases h
theorem whyRows_lp (m : MODEL) (R : List (List CELL)) (hR : R.length ≤ 1000) : ((∀ r ∈ R, (r.length : Int) = m.1) ∧ lp dendronlaw13_whyRows_s4 K0 ((R, 0, ()), ((m.1, m.2, ()), ())) = some (.inl ((R, ()), ()))) ∨ (¬ (∀ r ∈ R, (r.length : Int) = m.1) ∧ lp dendronlaw13_whyRows_s4 K0 ((R, 0, ()), ((m.1, m.2, ()), ())) = some (.inr ((14, ()), ()))) := by
 rcases lp_all (step := dendronlaw13_whyRows_s4) (fun i => ((R, (i : Int), ()), ((m.1, m.2, ()), ()))) R.length (fun i => (hi : i < R.length) → (R[i].length : Int) = m.1) (fun i => .inr ((14, ()), ())) (.inl ((R, ()), ())) (by omega) (by
    intro i hi
    have d0 : (i : Int) < ((R.length : Nat) : Int) := by omega
    have d1 : (0 : Int) ≤ (i : Int) := by omega
    by_cases h : (R[i].length : Int) = m.1
    · refine .inl ⟨fun _ => h, fun g => ?_⟩
      rw [dendronlaw13_whyRows_s4, cnd d0, cnd d1, Int.toNat_natCast, List.getElem?_eq_getElem hi, Option.bind_some, decide_eq_true h, Bool.not_true, cond_false, iadd1 (by omega)]
      rfl
    · refine .inr ⟨fun hh => h (hh hi), fun g => ?_⟩
      rw [dendronlaw13_whyRows_s4, cnd d0, cnd d1, Int.toNat_natCast, List.getElem?_eq_getElem hi, Option.bind_some, decide_eq_false h, Bool.not_false, cond_true]) (by
    intro g
    rw [dendronlaw13_whyRows_s4, cnd' (by omega)]) with ⟨h, hlp⟩ | ⟨i, hi, h, hlp⟩
 · refine .inl ⟨fun r hr => ?_, hlp⟩
   obtain ⟨i, hi, rfl⟩ := List.getElem_of_mem hr
   exact h i hi hi
 · exact .inr ⟨fun hh => h fun hi => hh _ (List.getElem_mem hi), hlp⟩
theorem whyRows_ok {m : MODEL} {b : Bool} (hv : valid_Ok m = some b) (i : Int) (R : List (List CELL)) (hR : R.length ≤ 1000) : dendronlaw13_whyRows m i R = some (if featE b m i ≠ 0 then featE b m i else rowsE m R) := by
 rw [dendronlaw13_whyRows, why13_ok hv, Option.bind_some]
 by_cases he : featE b m i = 0
 · rw [he, show (!decide ((0 : Int) = 0)) = false by decide, cond_false, if_neg (by simp)]
   rcases whyRows_lp m R hR with ⟨h, hlp⟩ | ⟨h, hlp⟩
   · rw [hlp, Option.bind_some, rowsE, if_pos h]
     dsimp only
     by_cases hn : R = []
     · subst hn; rfl
     · have : 0 < R.length := List.length_pos_iff.2 hn
       rw [cnd' (by omega), if_neg hn]
   · rw [hlp, Option.bind_some, rowsE, if_neg h]
 · rw [decide_eq_false he, Bool.not_false, cond_true, if_pos he, Option.bind_some]
theorem check_ok {m : MODEL} (hv : valid_Ok m = some true) (R : List (List CELL)) (hR : R.length ≤ 1000) : depend_check m R = some (rowsE m R) := by
 have hf : ∀ r, route_Fits (m.1, m.2) r = some (if (r.length : Int) = m.1 then 0 else 14) := fun r => by
   show route_Fits m r = _
   have := fits_b hv r
   rw [errB, if_pos rfl] at this
   rw [route_Fits, this]; rfl
 rcases lp_all (step := depend_check_s2) (fun i => ((R, R, (R.length : Int), (i : Int), ()), ((m.1, m.2, ()), ()))) R.length (fun i => (hi : i < R.length) → (R[i].length : Int) = m.1) (fun i => .inr ((14, ()), ())) (.inl ((R, ()), ())) (by omega) (by
     intro i hi
     have d0 : (i : Int) < ((R.length : Nat) : Int) := by omega
     have d1 : (0 : Int) ≤ (i : Int) := by omega
     by_cases h : (R[i].length : Int) = m.1
     · refine .inl ⟨fun _ => h, fun g => ?_⟩
       rw [depend_check_s2, cnd d0, cnd d1, Int.toNat_natCast, List.getElem?_eq_getElem hi, Option.bind_some, hf, if_pos h, Option.bind_some, show (!decide ((0 : Int) = 0)) = false by decide, cond_false, iadd1 (by omega)]
       rfl
     · refine .inr ⟨fun hh => h (hh hi), fun g => ?_⟩
       rw [depend_check_s2, cnd d0, cnd d1, Int.toNat_natCast, List.getElem?_eq_getElem hi, Option.bind_some, hf, if_neg h, Option.bind_some, show (!decide ((14 : Int) = 0)) = true by decide, cond_true]) (by
     intro g
     rw [depend_check_s2, cnd' (by omega)]) with ⟨h, hlp⟩ | ⟨i, hi, h, hlp⟩
 · have hlp : lp depend_check_s2 K0 ((R, R, (R.length : Int), 0, ()), ((m.1, m.2, ()), ())) = _ := hlp
   have hall : ∀ r ∈ R, (r.length : Int) = m.1 := fun r hr => by
     obtain ⟨i, hi, rfl⟩ := List.getElem_of_mem hr
     exact h i hi hi
   rw [depend_check, hlp, Option.bind_some, rowsE, if_pos hall]
   dsimp only
   by_cases hn : R = []
   · subst hn; rfl
   · have : 0 < R.length := List.length_pos_iff.2 hn
     rw [cnd' (by omega), if_neg hn]
 · have hlp : lp depend_check_s2 K0 ((R, R, (R.length : Int), 0, ()), ((m.1, m.2, ()), ())) = _ := hlp
   rw [depend_check, hlp, Option.bind_some, rowsE, if_neg (fun hh => h fun hi => hh _ (List.getElem_mem hi))]
theorem over_self {α : Type} (z l : List α) (h : z.length = l.length) : over z 0 (l.take z.length) = l := by
 rw [over, List.take_zero, List.nil_append, Nat.zero_add, List.take_of_length_le (by omega), List.drop_of_length_le (by omega), List.append_nil]
theorem With_ok {r : List CELL} {k : Nat} (h : k < r.length) (hr : r.length ≤ 1000) (z : CELL) : rows_With r (k : Int) z = some (r.set k z, 0) := by
 have c1 : (decide ((r.length : Int) = (r.length : Int)) && decide (0 ≤ (r.length : Int)) && decide (((64 : Nat) : Int) * (r.length : Int) ≤ 281474976710656) && decide ((r.length : Int) ≤ 9223372036854775807)) = true := by
  rw [decide_eq_true rfl, decide_eq_true (by omega), decide_eq_true (by omega), decide_eq_true (by omega)]; rfl
 have ho := over_self (List.replicate r.length zC) r (by simp)
 rw [rows_With, cnd' (by omega), cnd' (by omega), c1, cond_true, Int.toNat_natCast, ho, cnd2 (by omega) (by omega), Int.toNat_natCast, List.getElem?_eq_getElem h, Option.bind_some]
theorem turned_sz {r : List CELL} {k : Nat} {z : CELL} (h : CSz r 9) (hz : SzR z.2 9) : CSz (r.set k z) 9 := by
 intro c hc
 rcases List.mem_or_eq_of_mem_set hc with hc | rfl
 · exact h c hc
 · exact hz
def averQ (m : MODEL) (k : Nat) (z : CELL) (R : List (List CELL)) : Rat := bsum (R.map fun r => predM m (r.set k z)) / ((R.length : Int) : Rat)
theorem Average_ok {m : MODEL} (hv : valid_Ok m = some true) (hg : Good m) (ms : MSz m 4) (ml : m.2.length ≤ 6) (mt : ∀ t ∈ m.2, t.length ≤ 15) {k : Nat} (hk : (k : Int) < m.1) {z : CELL} (hz : SzR z.2 9) {R : List (List CELL)} (hR : R.length ≤ 8) (cs : ∀ r ∈ R, CSz r 9) (he : rowsE m R = 0) :
  depend_Average m (k : Int) z R = some (canQ (averQ m k z R), 0) := by
 obtain ⟨hall, hne⟩ := rowsE_zero he
 have f1 := hg.1.2.1
 have hf := feature_ok hv (k : Int)
 rw [featE, if_pos rfl, if_neg (by omega)] at hf
 have hc := check_ok hv R (by omega)
 rw [he] at hc
 have key := lp_up (step := depend_Average_s9) (fun i => (((k : Int), (R.take i).map (fun r => r.set k z), R, (R.length : Int), (i : Int), ()), ((m.1, m.2, ()), (z.1, z.2.1.1, z.2.1.2, z.2.2, ()), (false, [], [], ()), ()))) R.length (r := ((R.map (fun r => r.set k z), ()), ((m.1, m.2, ()), (false, [], [], ()), ()))) (by omega) (by
  intro g i hi
  have d0 : (i : Int) < ((R.length : Nat) : Int) := by omega
  have d1 : (0 : Int) ≤ (i : Int) := by omega
  have hlen := hall _ (List.getElem_mem hi)
  have hw := With_ok (r := R[i]) (k := k) (by omega) (by omega) z
  have hw : rows_With R[i] (k : Int) (z.1, ((z.2.1.1, z.2.1.2), z.2.2)) = _ := hw
  rw [depend_Average_s9, cnd d0, cnd d1, Int.toNat_natCast, List.getElem?_eq_getElem hi, Option.bind_some, hw, Option.bind_some, blt (by simp; omega), cond_true, iadd1 (by omega), map_take_succ (fun r : List CELL => r.set k z) hi]
  rfl) (by
  intro g
  rw [depend_Average_s9, cnd' (by omega), List.take_length])
 have key : lp depend_Average_s9 K0 (((k : Int), [], R, (R.length : Int), 0, ()), ((m.1, m.2, ()), (z.1, z.2.1.1, z.2.1.2, z.2.2, ()), (false, [], [], ()), ())) = _ := key
 obtain ⟨R', eR⟩ : ∃ R', R' = R.map (fun r => r.set k z) := ⟨_, rfl⟩
 rw [← eR] at key
 have hR' : R'.length = R.length := by rw [eR]; simp
 have cs' : ∀ r ∈ R', CSz r 9 := fun r hr => by
  rw [eR] at hr
  obtain ⟨x, hx, rfl⟩ := List.mem_map.1 hr
  exact turned_sz (cs x hx) hz
 have hM : route_Mean m R' = some (canQ (averQ m k z R), 0) := by
  rcases route_Mean_ok hv (b := true) (by simp [hg]) ms ml mt cs' (by omega) with ⟨h, _⟩ | ⟨_, h, _⟩ | ⟨_, _, _, h⟩
  · exfalso; apply hne
    apply List.eq_nil_of_length_eq_zero
    rw [← hR', h]; rfl
  · exfalso; apply h
    rw [ferr_zero]
    intro e hm
    obtain ⟨r, hr, rfl⟩ := List.mem_map.1 hm
    rw [eR] at hr
    obtain ⟨x, hx, rfl⟩ := List.mem_map.1 hr
    rw [errB, if_pos rfl, List.length_set, if_pos (hall x hx)]
  · rw [h, hR', averQ, eR, List.map_map]; rfl
 rw [depend_Average, hf, Option.bind_some, show (!decide ((0 : Int) = 0)) = false by decide, cond_false, hc, Option.bind_some, show (!decide ((0 : Int) = 0)) = false by decide, cond_false, key, Option.bind_some]
 show (route_Mean m R').bind _ = _
 rw [hM, Option.bind_some]
theorem bsum_lsum (l : List Rat) : bsum l = lsum l := by
 induction l with
 | nil => rfl
 | cons x l ih => simp only [bsum, lsum, ih, Rat.add_comm]
theorem bsum_take_succ {l : List Rat} {i : Nat} (h : i < l.length) : bsum (l.take (i + 1)) = bsum (l.take i) + l[i] := by
 rw [bsum_lsum, bsum_lsum, lsum_take_succ h]
theorem averQ_sz {m : MODEL} (hg : Good m) (ms : MSz m 4) (ml : m.2.length ≤ 6) {k : Nat} {z : CELL} {R : List (List CELL)} (hR : R.length ≤ 8) : SzQ (averQ m k z R) 1000 := by
 have hz : ∀ r, SzQ (predM m r) 40 := fun r => (predM_sz (row := r) hg ms (n := m.2.length) (Nat.le_refl _)).mono (by omega)
 have h1 := bsum_sz (l := R.map fun r => predM m (r.set k z)) (k := 40) (fun x hx => by
  obtain ⟨r, _, rfl⟩ := List.mem_map.1 hx
  exact hz _)
 have h2 : SzQ ((R.length : Int) : Rat) 1 := SzQ.int (by omega)
 exact (h1.div h2).mono (by rw [List.length_map]; omega)
theorem average13_ok {m : MODEL} (hg : Good m) (ms : MSz m 4) (ml : m.2.length ≤ 6) (mt : ∀ t ∈ m.2, t.length ≤ 15) {k : Nat} (hk : (k : Int) < m.1) {z : CELL} (hz : SzR z.2 9) {R : List (List CELL)} (hR : R.length ≤ 8) (cs : ∀ r ∈ R, CSz r 9) (he : rowsE m R = 0) :
  dendronlaw13_average m (k : Int) z R = some (canQ (averQ m k z R)) := by
 obtain ⟨hall, hne⟩ := rowsE_zero he
 have f1 := hg.1.2.1
 have hzz : ∀ r, SzQ (predM m r) 40 := fun r => (predM_sz (row := r) hg ms (n := m.2.length) (Nat.le_refl _)).mono (by omega)
 obtain ⟨P, eP⟩ : ∃ P : List Rat, P = R.map fun r => predM m (r.set k z) := ⟨_, rfl⟩
 have lP : P.length = R.length := by rw [eP]; simp
 have hP : ∀ i, i ≤ R.length → SzQ (bsum (P.take i)) 1000 := fun i hi => by
  have := bsum_sz (l := P.take i) (k := 40) (fun x hx => by
   have hx := List.mem_of_mem_take hx
   rw [eP] at hx
   obtain ⟨r, _, rfl⟩ := List.mem_map.1 hx
   exact hzz _)
  exact this.mono (by rw [List.length_take]; omega)
 have key := lp_up (step := dendronlaw13_average_s3) (fun i => (((k : Int), R, (i : Int), ()), ((m.1, m.2, ()), (z.1, z.2.1.1, z.2.1.2, z.2.2, ()), (false, [], [], ()), ((canQ (bsum (P.take i))).1.1, (canQ (bsum (P.take i))).1.2, (canQ (bsum (P.take i))).2, ()), ()))) R.length (r := ((R, ()), ((false, [], [], ()), ((canQ (bsum P)).1.1, (canQ (bsum P)).1.2, (canQ (bsum P)).2, ()), ()))) (by omega) (by
  intro g i hi
  have d0 : (i : Int) < ((R.length : Nat) : Int) := by omega
  have d1 : (0 : Int) ≤ (i : Int) := by omega
  have hlen := hall _ (List.getElem_mem hi)
  have ha : Askd m (R[i].set k z) := ⟨hg, by rw [List.length_set]; exact hlen, ms, ml, mt, turned_sz (cs _ (List.getElem_mem hi)) hz⟩
  have hp := Predict10_ok ha
  have hp : dendronlaw10_Predict (m.1, m.2) (R[i].set (k : Int).toNat (z.1, ((z.2.1.1, z.2.1.2), z.2.2))) = some (canQ (predM m (R[i].set k z))) := by rw [Int.toNat_natCast]; exact hp
  have hadd := ratio_Add_ok ((hP i (by omega)).sm (by decide)) ((hzz (R[i].set k z)).sm (by decide))
  rw [rv_canQ, rv_canQ] at hadd
  have e1 : bsum (P.take (i + 1)) = bsum (P.take i) + predM m (R[i].set k z) := by rw [bsum_take_succ (by omega)]; congr 1; simp [eP]
  rw [dendronlaw13_average_s3, cnd d0, cnd d1, Int.toNat_natCast, List.getElem?_eq_getElem hi, Option.bind_some, blt (by simp; omega), cond_true, List.nil_append, cnd2 (by omega) (by omega), List.getElem?_eq_getElem (by omega), Option.bind_some, hp, Option.bind_some]
  show (ratio_Add (canQ (bsum (P.take i))) _).bind _ = _
  rw [hadd, Option.bind_some, e1, iadd1 (by omega)]
  rfl) (by
  intro g
  rw [dendronlaw13_average_s3, cnd' (by omega), List.take_of_length_le (by omega)])
 have key : lp dendronlaw13_average_s3 K0 (((k : Int), R, 0, ()), ((m.1, m.2, ()), (z.1, z.2.1.1, z.2.1.2, z.2.2, ()), (false, [], [], ()), ((canQ 0).1.1, (canQ 0).1.2, (canQ 0).2, ()), ())) = _ := key
 have hfr := ratio_Frac_ok (n := 1) (d := (R.length : Int)) (by decide) (by decide) (by omega) (by omega)
 have hb := hP R.length (Nat.le_refl _)
 rw [List.take_of_length_le (by omega)] at hb
 have s1 : SzQ (((1 : Int) : Rat) / ((R.length : Int) : Rat)) 2 := (SzQ.int (z := 1) (by decide)).div (SzQ.int (by omega))
 have hm := ratio_Mul_ok (hb.sm (by decide)) (s1.sm (by decide))
 rw [rv_canQ, rv_canQ] at hm
 have e2 : bsum P * (((1 : Int) : Rat) / ((R.length : Int) : Rat)) = averQ m k z R := by
  rw [averQ, ← eP]
  obtain ⟨d, hd⟩ : ∃ d : Rat, d = ((R.length : Int) : Rat) := ⟨_, rfl⟩
  rw [← hd]
  have : ((1 : Int) : Rat) = 1 := rfl
  rw [this]
  grind
 rw [e2] at hm
 rw [dendronlaw13_average, ratio_Zero_ok, Option.bind_some, key, Option.bind_some]
 dsimp only
 rw [hfr, Option.bind_some]
 show (ratio_Mul (canQ (bsum P)) _).bind _ = _
 rw [hm, Option.bind_some]
theorem each19_ok (m : MODEL) (i : Int) (val : CELL → RAT) (err : CELL → Int) (G : List CELL) (hG : G.length ≤ 1000) (h : ∀ z ∈ G, depend_Cover (m.1, m.2) i z = some (val z, err z)) : depend_each_v19 G m.1 m.2 i = some (G.map val, m.1, m.2, i) := by
 have key := lp_up (step := depend_each_v19_s3) (fun j => (((G.take j).map val, G, (G.length : Int), (j : Int), ()), ((m.1, m.2, ()), (i, ()), ()))) G.length (r := ((G.map val, ()), ((m.1, m.2, ()), (i, ()), ()))) (by omega) (by
  intro g j hj
  have d0 : (j : Int) < ((G.length : Nat) : Int) := by omega
  have d1 : (0 : Int) ≤ (j : Int) := by omega
  have d2 : (((G.take j).map val).length + 1) * 56 ≤ 140737488355328 := by simp; omega
  rw [depend_each_v19_s3, cnd d0, cnd d1, Int.toNat_natCast, List.getElem?_eq_getElem hj, Option.bind_some, depend_CoverAll_c1, h _ (List.getElem_mem hj), Option.bind_some, Option.bind_some, blt d2, cond_true, iadd1 (by omega), map_take_succ _ hj]
  rfl) (by
  intro g
  rw [depend_each_v19_s3, cnd' (by omega), List.take_of_length_le (Nat.le_refl _)])
 have key : lp depend_each_v19_s3 K0 (([], G, (G.length : Int), 0, ()), ((m.1, m.2, ()), (i, ()), ())) = _ := key
 rw [depend_each_v19, key]; rfl
theorem each21_ok (m : MODEL) (i : Int) (R : List (List CELL)) (val : CELL → RAT) (err : CELL → Int) (G : List CELL) (hG : G.length ≤ 1000) (h : ∀ z ∈ G, depend_Average (m.1, m.2) i z R = some (val z, err z)) : depend_each_v21 G m.1 m.2 i R = some (G.map val, m.1, m.2, i, R) := by
 have key := lp_up (step := depend_each_v21_s3) (fun j => (((G.take j).map val, G, (G.length : Int), (j : Int), ()), ((m.1, m.2, ()), (i, ()), (R, ()), ()))) G.length (r := ((G.map val, ()), ((m.1, m.2, ()), (i, ()), (R, ()), ()))) (by omega) (by
  intro g j hj
  have d0 : (j : Int) < ((G.length : Nat) : Int) := by omega
  have d1 : (0 : Int) ≤ (j : Int) := by omega
  have d2 : (((G.take j).map val).length + 1) * 56 ≤ 140737488355328 := by simp; omega
  rw [depend_each_v21_s3, cnd d0, cnd d1, Int.toNat_natCast, List.getElem?_eq_getElem hj, Option.bind_some, depend_AverageAll_c1, h _ (List.getElem_mem hj), Option.bind_some, Option.bind_some, blt d2, cond_true, iadd1 (by omega), map_take_succ _ hj]
  rfl) (by
  intro g
  rw [depend_each_v21_s3, cnd' (by omega), List.take_of_length_le (Nat.le_refl _)])
 have key : lp depend_each_v21_s3 K0 (([], G, (G.length : Int), 0, ()), ((m.1, m.2, ()), (i, ()), (R, ()), ())) = _ := key
 rw [depend_each_v21, key]; rfl
theorem CoverAll_ok {m : MODEL} (hv : valid_Ok m = some true) (hg : Good m) (ms : MSz m 4) (ml : m.2.length ≤ 6) (mt : ∀ t ∈ m.2, t.length ≤ 15) {k : Nat} (hk : (k : Int) < m.1) {G : List CELL} (hG : G.length ≤ 1000) (hz : ∀ z ∈ G, SzR z.2 9) :
  depend_CoverAll m (k : Int) G = some (G.map (fun z => canQ (sayM m (oneRow m k z) (2 ^ k))), 0) := by
 have hf := feature_ok hv (k : Int)
 rw [featE, if_pos rfl, if_neg (by omega)] at hf
 rw [depend_CoverAll, hf, Option.bind_some, show (!decide ((0 : Int) = 0)) = false by decide, cond_false, each19_ok m (k : Int) (fun z => canQ (sayM m (oneRow m k z) (2 ^ k))) (fun _ => 0) G hG (fun z hzm => Cover_ok hv hg ms ml mt hk (hz z hzm)), Option.bind_some]
theorem CoverAll_bad {m : MODEL} {b : Bool} (hv : valid_Ok m = some b) {i : Int} (h : featE b m i ≠ 0) (G : List CELL) : depend_CoverAll m i G = some ([], featE b m i) := by
 rw [depend_CoverAll, feature_ok hv, Option.bind_some, decide_eq_false h, Bool.not_false, cond_true]
theorem AverageAll_ok {m : MODEL} (hv : valid_Ok m = some true) (hg : Good m) (ms : MSz m 4) (ml : m.2.length ≤ 6) (mt : ∀ t ∈ m.2, t.length ≤ 15) {k : Nat} (hk : (k : Int) < m.1) {G : List CELL} (hG : G.length ≤ 1000) (hz : ∀ z ∈ G, SzR z.2 9) {R : List (List CELL)} (hR : R.length ≤ 8) (cs : ∀ r ∈ R, CSz r 9) (he : rowsE m R = 0) :
  depend_AverageAll m (k : Int) G R = some (G.map (fun z => canQ (averQ m k z R)), 0) := by
 have hf := feature_ok hv (k : Int)
 rw [featE, if_pos rfl, if_neg (by omega)] at hf
 rw [depend_AverageAll, hf, Option.bind_some, show (!decide ((0 : Int) = 0)) = false by decide, cond_false, check_ok hv R (by omega), he, Option.bind_some, show (!decide ((0 : Int) = 0)) = false by decide, cond_false, each21_ok m (k : Int) R (fun z => canQ (averQ m k z R)) (fun _ => 0) G hG (fun z hzm => Average_ok hv hg ms ml mt hk (hz z hzm) hR cs he), Option.bind_some]
theorem AverageAll_bad {m : MODEL} {b : Bool} (hv : valid_Ok m = some b) (i : Int) (G : List CELL) (R : List (List CELL)) (hR : R.length ≤ 1000) (he : (if featE b m i ≠ 0 then featE b m i else rowsE m R) ≠ 0) :
   depend_AverageAll m i G R = some ([], if featE b m i ≠ 0 then featE b m i else rowsE m R) := by
 by_cases h0 : featE b m i = 0
 · obtain ⟨hb, _, _⟩ := featE_zero h0
   subst hb
   rw [if_neg (by simpa using h0)] at he ⊢
   rw [depend_AverageAll, feature_ok hv, Option.bind_some, h0, show (!decide ((0 : Int) = 0)) = false by decide, cond_false, check_ok hv R hR, Option.bind_some, decide_eq_false he, Bool.not_false, cond_true]
 · rw [if_pos h0] at he ⊢
   rw [depend_AverageAll, feature_ok hv, Option.bind_some, decide_eq_false h0, Bool.not_false, cond_true]
theorem grids_lp (m : MODEL) (i : Int) (G : List CELL) (R : List (List CELL)) (c a : List RAT) (e4 e5 : Int) (hG : G.length ≤ 1000)
  (h4 : e4 = 0 → ∀ (j : Nat) (hj : j < G.length), ∃ x, depend_Cover (m.1, m.2) i G[j] = some (x, 0) ∧ ∃ hc : j < c.length, dendronref10_Is c[j] x = some true)
  (h5 : e5 = 0 → ∀ (j : Nat) (hj : j < G.length), ∃ x, dendronlaw13_average (m.1, m.2) i G[j] R = some x ∧ ∃ hc : j < a.length, dendronref10_Is a[j] x = some true) :
  lp dendronlaw13_DependGrids_s11 K0 ((i, G, R, c, e4, a, e5, 0, ()), ((m.1, m.2, ()), ())) = some (.inl ((), ())) := by
 have key := lp_up (step := dendronlaw13_DependGrids_s11) (fun j => ((i, G, R, c, e4, a, e5, (j : Int), ()), ((m.1, m.2, ()), ()))) G.length (r := .inl ((), ())) (by omega) (by
  intro g j hj
  have d0 : (j : Int) < ((G.length : Nat) : Int) := by omega
  have d1 : (0 : Int) ≤ (j : Int) := by omega
  rw [dendronlaw13_DependGrids_s11, cnd d0]
  by_cases q4 : e4 = 0
  · obtain ⟨x, x1, x2, x3⟩ := h4 q4 j hj
    rw [cnd q4, cnd d1, Int.toNat_natCast, List.getElem?_eq_getElem hj, Option.bind_some, x1, Option.bind_some, show (!decide ((0 : Int) = 0)) = false by decide, cond_false, cnd2 d1 (by omega), List.getElem?_eq_getElem x2, Option.bind_some, x3, Option.bind_some, Bool.not_true, cond_false]
    by_cases q5 : e5 = 0
    · obtain ⟨y, y1, y2, y3⟩ := h5 q5 j hj
      rw [cnd q5, cnd2 d1 (by omega), List.getElem?_eq_getElem y2, Option.bind_some, cnd d1, Option.bind_some, y1, Option.bind_some, y3, Option.bind_some, Bool.not_true, cond_false, iadd1 (by omega)]
      rfl
    · rw [cnd' q5, iadd1 (by omega)]
      rfl
  · rw [cnd' q4]
    by_cases q5 : e5 = 0
    · obtain ⟨y, y1, y2, y3⟩ := h5 q5 j hj
      rw [cnd q5, cnd2 d1 (by omega), Int.toNat_natCast, List.getElem?_eq_getElem y2, Option.bind_some, cnd d1, List.getElem?_eq_getElem hj, Option.bind_some, y1, Option.bind_some, y3, Option.bind_some, Bool.not_true, cond_false, iadd1 (by omega)]
      rfl
    · rw [cnd' q5, iadd1 (by omega)]
      rfl) (by
  intro g
  rw [dendronlaw13_DependGrids_s11, cnd' (by omega)])
 exact key
theorem DependGrids_true (m0 : MODEL) (i : Int) (G0 : List CELL) (R0' : List (List CELL)) (hl : m0.2.length ≤ 9223372036854775807) (ht : ∀ t ∈ m0.2, t.length ≤ 9223372036854775807) (hg0 : G0.length ≤ 9223372036854775807) (hr : R0'.length ≤ 9223372036854775807) (hr2 : ∀ r ∈ R0', r.length ≤ 9223372036854775807) : dendronlaw13_DependGrids m0 i G0 R0' = some true := by
 obtain ⟨m, row, hs, ms, ml, mt, cs⟩ := Small_ok m0 [] hl ht (by simp)
 obtain ⟨b, h1, h2⟩ := Ok_ok (m := m) (k := 4) (by omega) (fun t ht => by have := mt t ht; omega) ms (by decide)
 have h9 : dendronlaw09_Few G0 8 = some ((G0.take 8).map cutCell) := Few09_ok G0 8 hg0 (by decide)
 obtain ⟨G, eG⟩ : ∃ G, G = (G0.take 8).map cutCell := ⟨_, rfl⟩
 have hGl : G.length ≤ 8 := by rw [eG]; simp; omega
 have hz : ∀ z ∈ G, SzR z.2 9 := by
   intro z hzm
   rw [eG] at hzm
   obtain ⟨z0, _, rfl⟩ := List.mem_map.1 hzm
   exact ⟨Nat.le_trans (cutR_sz 3 _).1 (by decide), Nat.le_trans (cutR_sz 3 _).2 (by decide)⟩
 rw [← eG] at h9
 have hA : dendronlaw09_All R0' 6 70 = some (cutRowsN 6 R0') := All09n_ok 6 (by decide) R0' hr hr2
 have hRl := cutRowsN_len 6 R0'
 have hRs := cutRowsN_sz 6 R0'
 obtain ⟨R, eR⟩ : ∃ R, R = cutRowsN 6 R0' := ⟨_, rfl⟩
 rw [← eR] at hA hRl hRs
 have hw := whyRows_ok h1 i R (by omega)
 obtain ⟨w, ew⟩ : ∃ w, w = (if featE b m i ≠ 0 then featE b m i else rowsE m R) := ⟨_, rfl⟩
 have hbad := AverageAll_bad h1 i G R (by omega)
 rw [← ew] at hw hbad
 have t0 : (!decide ((0 : Int) = 0)) = false := by decide
 have tr : ∀ x : Int, (!decide (x = x)) = false := fun x => by rw [decide_eq_true rfl]; rfl
 rw [dendronlaw13_DependGrids, hs, Option.bind_some, h9, Option.bind_some, hA, Option.bind_some]
 dsimp only
 by_cases he0 : featE b m i = 0
 · obtain ⟨hb, i0, i1⟩ := featE_zero he0
   subst hb
   have hg := h2.1 rfl
   obtain ⟨k, rfl⟩ := Int.eq_ofNat_of_zero_le i0
   have hC := CoverAll_ok h1 hg ms (by omega) mt i1 (G := G) (by omega) hz
   have hcl : ∀ (j : Nat) (hj : j < G.length), ∃ x, depend_Cover (m.1, m.2) (k : Int) G[j] = some (x, 0) ∧ ∃ hc : j < (G.map (fun z => canQ (sayM m (oneRow m k z) (2 ^ k)))).length, dendronref10_Is (G.map (fun z => canQ (sayM m (oneRow m k z) (2 ^ k))))[j] x = some true := by
     intro j hj
     refine ⟨_, Cover_ok h1 hg ms (by omega) mt i1 (hz _ (List.getElem_mem hj)), by rw [List.length_map]; exact hj, ?_⟩
     have hsz : SzQ (sayM m (oneRow m k G[j]) (2 ^ k)) (1 + m.2.length * 1048577) := sayM_sz hg ms mt (Nat.le_refl _)
     rw [List.getElem_map]
     exact is_self hsz (by omega) hsz (by omega) rfl
   have hm1 : ((G.map (fun z => canQ (sayM m (oneRow m k z) (2 ^ k)))).length : Int) = (G.length : Int) := by rw [List.length_map]
   by_cases he : w = 0
   · have her : rowsE m R = 0 := by
      rw [ew, if_neg (by simpa using he0)] at he; exact he
     have hD := AverageAll_ok h1 hg ms (by omega) mt i1 (G := G) (by omega) hz (by omega) hRs her
     have hal : ∀ (j : Nat) (hj : j < G.length), ∃ x, dendronlaw13_average (m.1, m.2) (k : Int) G[j] R = some x ∧ ∃ hc : j < (G.map (fun z => canQ (averQ m k z R))).length, dendronref10_Is (G.map (fun z => canQ (averQ m k z R)))[j] x = some true := by
      intro j hj
      refine ⟨_, average13_ok hg ms (by omega) mt i1 (hz _ (List.getElem_mem hj)) (by omega) hRs her, by rw [List.length_map]; exact hj, ?_⟩
      have hsz := averQ_sz (k := k) (z := G[j]) hg ms (by omega) (R := R) (by omega)
      rw [List.getElem_map]
      exact is_self hsz (by decide) hsz (by decide) rfl
     have hm2 : ((G.map (fun z => canQ (averQ m k z R))).length : Int) = (G.length : Int) := by rw [List.length_map]
     have hL := grids_lp m (k : Int) G R _ _ 0 0 (by omega) (fun _ => hcl) (fun _ => hal)
     rw [hC, Option.bind_some, hD, Option.bind_some, why13_ok h1, he0, Option.bind_some]
     dsimp only
     rw [t0, cond_false, hw, he, Option.bind_some, t0, cond_false, cond_false, cond_false, cnd rfl, hm1, tr, cond_false, cnd rfl, hm2, tr, cond_false, hL, Option.bind_some, law13_awake_ok]
     rfl
   · have hL := grids_lp m (k : Int) G R _ [] 0 w (by omega) (fun _ => hcl) (fun h => absurd h he)
     rw [hC, Option.bind_some, hbad he, Option.bind_some, why13_ok h1, he0, Option.bind_some]
     dsimp only
     rw [t0, cond_false, hw, Option.bind_some, tr, cond_false, cond_false, decide_eq_false he, Bool.not_false, cond_true]
     rw [show (!decide (((([] : List RAT).length : Nat) : Int) = 0)) = false by decide, cond_false, cnd rfl, hm1, tr, cond_false, cond_false, hL, Option.bind_some, law13_awake_ok]
     rfl
 · have hwne : w ≠ 0 := by rw [ew, if_pos he0]; exact he0
   have hL := grids_lp m i G R [] [] (featE b m i) w (by omega) (fun h => absurd h he0) (fun h => absurd h hwne)
   rw [CoverAll_bad h1 he0, Option.bind_some, hbad hwne, Option.bind_some, why13_ok h1, Option.bind_some]
   dsimp only
   rw [tr, cond_false, hw, Option.bind_some, tr, cond_false, decide_eq_false he0, decide_eq_false hwne, Bool.not_false, cond_true]
   rw [show (!decide (((([] : List RAT).length : Nat) : Int) = 0)) = false by decide, cond_false, cond_true, cond_false, cond_false, cond_false, hL, Option.bind_some, law13_awake_ok]
   rfl
end Go.Proofs.YtjjgbpeapgmhoaaGreatDoor.X
