/- Own work: part of the proof; the first line of each part says what it tells. -/
import Derived.Test.YtaonkcmflkmncaaGreatDoorLb7


namespace Go.Proofs.YtaonkcmflkmncaaGreatDoor.X
open Go
set_option linter.unusedVariables false
set_option linter.unusedSimpArgs false
theorem rMinus_ok {a b : List Int} (ha : Dig a) (hb : Dig b) (hl : a.length < 4398046511104) (hle : dd b ≤ dd a) : dendronref01_Minus a b = some (digs (dd a - dd b)) := by
 obtain ⟨r, ⟨p, rfl, hp, hpl, hpn⟩, hlp⟩ := lp_inv (step := dendronref01_Minus_s4) (fun i v => ∃ (p : List Int) (d : Nat), v = ((a, b, p, (d : Int), (i : Int), ()), ()) ∧ p.length = i ∧ Dig p ∧ d ≤ 1 ∧ dd p + dd (b.take i) = dd (a.take i) + 10000 ^ i * d)
  (fun r => ∃ p, r = ((p, ()), ()) ∧ p.length = a.length ∧ Dig p ∧ dd p = dd a - dd b) a.length (v := ((a, b, [], 0, 0, ()), ()))
  ⟨[], 0, rfl, rfl, Dig.nil, by omega, by simp⟩ (by omega) (by
   rintro i v hi ⟨p, d, rfl, hp, hpl, hd, hs⟩
   have b1 := ha.at hi
   have b2 := lget_dig hb i
   have q1 : isub .i64 (isub .i64 a[i] (lget b i)) (d : Int) = a[i] - lget b i - d := by
     have : isub .i64 a[i] (lget b i) = a[i] - lget b i := by rw [isub_i] <;> omega
     rw [this, isub_i] <;> omega
   have c0 : (i : Int) < ((a.length : Nat) : Int) := by omega
   have c1 : (0 : Int) ≤ (i : Int) := by omega
   by_cases hneg : a[i] - lget b i - d < 0
   · have q2 : iadd .i64 (a[i] - lget b i - d) 10000 = a[i] - lget b i - d + 10000 := by rw [iadd_i] <;> omega
     refine ⟨((a, b, p ++ [a[i] - lget b i - d + 10000], ((1 : Nat) : Int), ((i + 1 : Nat) : Int), ()), ()), ⟨_, 1, rfl, by simp [hp], Dig.append hpl (Dig.cons (by omega) Dig.nil), by omega, ?_⟩, fun g => ?_⟩
     · rw [dd_append, hp, dd_take_lget, dnnt hi, dd_one _ (by omega), Nat.pow_succ]
       have k1 : (a[i] - lget b i - d + 10000).toNat + (lget b i % 10000).toNat + d = (a[i] % 10000).toNat + 10000 * 1 := by omega
       have k2 : 10000 ^ i * ((a[i] - lget b i - d + 10000).toNat + (lget b i % 10000).toNat + d) = 10000 ^ i * ((a[i] % 10000).toNat + 10000 * 1) := by rw [k1]
       grind
     · rw [dendronref01_Minus_s4, cnd c0, cnd c1, Int.toNat_natCast, List.getElem?_eq_getElem hi, Option.bind_some, rdigit_ok, Option.bind_some, q1, cnd hneg, blt (by omega), cond_true, q2, iadd1 (by omega)]
       rfl
   · refine ⟨((a, b, p ++ [a[i] - lget b i - d], ((0 : Nat) : Int), ((i + 1 : Nat) : Int), ()), ()), ⟨_, 0, rfl, by simp [hp], Dig.append hpl (Dig.cons (by omega) Dig.nil), by omega, ?_⟩, fun g => ?_⟩
     · rw [dd_append, hp, dd_take_lget, dnnt hi, dd_one _ (by omega), Nat.pow_succ]
       have k1 : (a[i] - lget b i - d).toNat + (lget b i % 10000).toNat + d = (a[i] % 10000).toNat := by omega
       have k2 : 10000 ^ i * ((a[i] - lget b i - d).toNat + (lget b i % 10000).toNat + d) = 10000 ^ i * ((a[i] % 10000).toNat) := by rw [k1]
       grind
     · rw [dendronref01_Minus_s4, cnd c0, cnd c1, Int.toNat_natCast, List.getElem?_eq_getElem hi, Option.bind_some, rdigit_ok, Option.bind_some, q1, cnd' hneg, blt (by omega), cond_true, iadd1 (by omega)]
       rfl) (by
   rintro v ⟨p, d, rfl, hp, hpl, hd, hs⟩
   refine ⟨((p, ()), ()), ⟨p, rfl, hp, hpl, ?_⟩, fun g => by simp [dendronref01_Minus_s4]⟩
   rw [dd_take_of_lt (Nat.lt_of_le_of_lt hle (dd_lt a)), List.take_length] at hs
   have k1 := dd_lt p
   rw [hp] at k1
   have : d = 0 := by
     rcases Nat.eq_zero_or_pos d with h | h
     · exact h
     · have : d = 1 := by omega
       subst this
       omega
   subst this
   omega)
 rw [dendronref01_Minus, hlp, Option.bind_some, rTrim_ok hpl (by omega), hpn]
 rfl
theorem dmul_lt_sq {x y c u : Int} (hx : 0 ≤ x ∧ x < 10000) (hy : 0 ≤ y ∧ y < 10000) (hc : 0 ≤ c ∧ c < 10000) (hu : 0 ≤ u ∧ u < 10000) :
  0 ≤ x * y ∧ x * y < 100000000 ∧ u + x * y < 100000000 ∧ c + u + x * y < 100000000 := by
 have h0 : 0 ≤ x * y := Int.mul_nonneg hx.1 hy.1
 have h1 : x * y ≤ 9999 * 9999 := Int.mul_le_mul (by omega) (by omega) hy.1 (by decide)
 omega
theorem rTimes_inner {b a : List Int} {i : Nat} {u : List Int} {Z : Nat} (hb : Dig b) (ha : Dig a) (hi : i < a.length) (hu : Dig u) (hul : u.length = i + b.length) (hsz : i + b.length < 4611686018427387904) :
  ∃ (w : List Int) (c : Nat), lp dendronref01_Times_s7 K0 ((a, b, u ++ List.replicate Z 0, (i : Int), 0, 0, ()), ()) = some ((a, b, w ++ List.replicate Z 0, (i : Int), (c : Int), ()), ()) ∧
   w.length = i + b.length ∧ Dig w ∧ c < 10000 ∧ dd w + 10000 ^ (i + b.length) * c = dd u + 10000 ^ i * (a[i].toNat * dd b) := by
 have hx := ha.at hi
 generalize hxx : a[i] = x at *
 obtain ⟨r, ⟨w, c, rfl, h1, h2, h3, h4⟩, hlp⟩ := lp_inv (step := dendronref01_Times_s7)
  (fun k v => ∃ (w : List Int) (c : Nat), v = ((a, b, w ++ List.replicate Z 0, (i : Int), (c : Int), (k : Int), ()), ()) ∧ w.length = i + b.length ∧ Dig w ∧ c < 10000 ∧ dd w + 10000 ^ (i + k) * c = dd u + 10000 ^ i * (x.toNat * dd (b.take k)))
  (fun r => ∃ (w : List Int) (c : Nat), r = ((a, b, w ++ List.replicate Z 0, (i : Int), (c : Int), ()), ()) ∧ w.length = i + b.length ∧ Dig w ∧ c < 10000 ∧ dd w + 10000 ^ (i + b.length) * c = dd u + 10000 ^ i * (x.toNat * dd b))
  b.length (v := ((a, b, u ++ List.replicate Z 0, (i : Int), 0, 0, ()), ())) ⟨u, 0, rfl, hul, hu, by omega, by simp⟩ (by omega) (by
   rintro k v hk ⟨w, c, rfl, hw, hwl, hc, hs⟩
   have b1 := hb.at hk
   have hik : i + k < w.length := by omega
   have b2 := hwl.at hik
   have b3 : (0 : Int) ≤ c ∧ (c : Int) < 10000 := by omega
   obtain ⟨m0, m1, m2, m3⟩ := dmul_lt_sq hx b1 b3 b2
   have q1 : imul .i64 x b[k] = x * b[k] := by rw [imul_i] <;> omega
   have q2 : iadd .i64 (c : Int) w[i + k] = c + w[i + k] := by rw [iadd_i] <;> omega
   have q3 : iadd .i64 ((c : Int) + w[i + k]) (x * b[k]) = (c : Int) + w[i + k] + x * b[k] := by rw [iadd_i] <;> omega
   have q4 : iadd .i64 (i : Int) (k : Int) = ((i + k : Nat) : Int) := by rw [iadd_i] <;> omega
   have q5 : irem ((c : Int) + w[i + k] + x * b[k]) 10000 = ((c : Int) + w[i + k] + x * b[k]) % 10000 := irem_n (by omega)
   have q6 : iquo .i64 ((c : Int) + w[i + k] + x * b[k]) 10000 = (((((c : Int) + w[i + k] + x * b[k]) / 10000).toNat : Nat) : Int) := by rw [iquo_i (by omega) (by omega) (by omega)]; omega
   refine ⟨((a, b, w.set (i + k) (((c : Int) + w[i + k] + x * b[k]) % 10000) ++ List.replicate Z 0, (i : Int), (((((c : Int) + w[i + k] + x * b[k]) / 10000).toNat : Nat) : Int), ((k + 1 : Nat) : Int), ()), ()), ⟨_, _, rfl, by simpa using hw, hwl.set (by omega), by omega, ?_⟩, fun g => ?_⟩
   · have hset := dd_set hwl hik (y := ((c : Int) + w[i + k] + x * b[k]) % 10000) (by omega)
     rw [dnnt hk, show i + (k + 1) = i + k + 1 from rfl, Nat.pow_succ]
     have k1 : (((c : Int) + w[i + k] + x * b[k]) % 10000).toNat + 10000 * (((c : Int) + w[i + k] + x * b[k]) / 10000).toNat = c + (w[i + k].toNat + (x * b[k]).toNat) := by omega
     have k2 : 10000 ^ (i + k) * ((((c : Int) + w[i + k] + x * b[k]) % 10000).toNat + 10000 * (((c : Int) + w[i + k] + x * b[k]) / 10000).toNat) = 10000 ^ (i + k) * (c + (w[i + k].toNat + (x * b[k]).toNat)) := by rw [k1]
     have k3 : (x * b[k]).toNat = x.toNat * (b[k] % 10000).toNat := by
      rw [Int.toNat_mul hx.1 b1.1]; congr 2; omega
     rw [k3] at k2
     have k4 : 10000 ^ (i + k) = 10000 ^ i * 10000 ^ k := Nat.pow_add ..
     grind
   · have e5 : (w ++ List.replicate Z (0 : Int))[i + k]? = some w[i + k] := by rw [List.getElem?_append_left hik]; exact List.getElem?_eq_getElem hik
     have c0 : (k : Int) < ((b.length : Nat) : Int) := by omega
     have c2 : (0 : Int) ≤ (k : Int) := by omega
     have c3 : (0 : Int) ≤ (i : Int) := by omega
     have e6 : ((i + k : Nat) : Int) < (((w ++ List.replicate Z (0 : Int)).length : Nat) : Int) := by rw [List.length_append]; omega
     have e7 : (0 : Int) ≤ ((i + k : Nat) : Int) := by omega
     rw [dendronref01_Times_s7, cnd c0, q4, cnd2 e7 e6, Int.toNat_natCast, e5, Option.bind_some, cnd c3, Int.toNat_natCast, List.getElem?_eq_getElem hi, Option.bind_some, hxx, cnd c2, Int.toNat_natCast, List.getElem?_eq_getElem hk, Option.bind_some, cnd2 e7 e6, Option.bind_some, q1, q2, q3, q5, q6, List.set_append_left _ _ hik, iadd1 (by omega)]
     rfl) (by
   rintro v ⟨w, c, rfl, hw, hwl, hc, hs⟩
   rw [List.take_length] at hs
   exact ⟨((a, b, w ++ List.replicate Z 0, (i : Int), (c : Int), ()), ()), ⟨w, c, rfl, hw, hwl, hc, hs⟩, fun g => by simp [dendronref01_Times_s7]⟩)
 exact ⟨w, c, hlp, h1, h2, h3, h4⟩
theorem rTimes_ok {x y : List Int} (l1 : Dig x) (l2 : Dig y) (ha : x.length < 4398046511104) (hb : y.length < 4398046511104) : dendronref01_Times x y = some (digs (dd x * dd y)) := by
 have hN : iadd .i64 (x.length : Int) (y.length : Int) = ((x.length + y.length : Nat) : Int) := by rw [iadd_i] <;> omega
 rw [dendronref01_Times, hN]
 obtain ⟨r, ⟨p, rfl, hp, hpl, hpn⟩, hlp⟩ := lp_inv (step := dendronref01_Times_s3) (fun i v => ∃ p : List Int, v = ((x, y, p ++ List.replicate (x.length - i) 0, (i : Int), ()), ()) ∧ p.length = i + y.length ∧ Dig p ∧ dd p = dd (x.take i) * dd y)
  (fun r => ∃ p, r = ((p, ()), ()) ∧ p.length = x.length + y.length ∧ Dig p ∧ dd p = dd x * dd y) x.length (v := ((x, y, List.replicate (x.length + y.length) 0, 0, ()), ()))
  ⟨List.replicate y.length 0, by rw [List.replicate_append_replicate, Nat.sub_zero, Nat.add_comm]; rfl, by simp, Dig.zeros _, by simp [dd_zeros]⟩ (by omega) (by
   rintro i v hi ⟨p, rfl, hp, hpl, hs⟩
   obtain ⟨w, c, hin, hw, hwl, hc, hwn⟩ := rTimes_inner (Z := x.length - i) l2 l1 hi hpl hp (by omega)
   have b1 := l1.at hi
   refine ⟨((x, y, (w ++ [(c : Int)]) ++ List.replicate (x.length - (i + 1)) 0, ((i + 1 : Nat) : Int), ()), ()), ⟨_, rfl, by simp [hw]; omega, Dig.append hwl (Dig.cons (by omega) Dig.nil), ?_⟩, fun g => ?_⟩
   · rw [dd_append, hw, dd_one _ (by omega), dnnt hi, Int.toNat_natCast, hwn, hs]
     have : (x[i] % 10000).toNat = x[i].toNat := by omega
     rw [this]
     grind
   · have q4 : iadd .i64 (i : Int) (y.length : Int) = ((i + y.length : Nat) : Int) := by rw [iadd_i] <;> omega
     have c0 : (i : Int) < ((x.length : Nat) : Int) := by omega
     have e6 : ((i + y.length : Nat) : Int) < (((w ++ List.replicate (x.length - i) (0 : Int)).length : Nat) : Int) := by rw [List.length_append, List.length_replicate]; omega
     have e7 : (0 : Int) ≤ ((i + y.length : Nat) : Int) := by omega
     have e8 : i + y.length < (w ++ List.replicate (x.length - i) (0 : Int)).length := by omega
     have e9 : (w ++ List.replicate (x.length - i) (0 : Int)).set (i + y.length) (c : Int) = (w ++ [(c : Int)]) ++ List.replicate (x.length - (i + 1)) 0 := by
      have := set_mid (p := w) (i := i + y.length) (n := x.length + y.length) (z := 0) (c : Int) hw (by omega)
      rw [show x.length + y.length - (i + y.length) = x.length - i by omega, show x.length + y.length - (i + y.length + 1) = x.length - (i + 1) by omega] at this
      exact this
     rw [dendronref01_Times_s3, cnd c0, hin, Option.bind_some, q4, cnd2 e7 e6, Int.toNat_natCast, List.getElem?_eq_getElem e8, Option.bind_some, e9, iadd1 (by omega)]
     rfl) (by
   rintro v ⟨p, rfl, hp, hpl, hs⟩
   rw [List.take_length] at hs
   exact ⟨((p, ()), ()), ⟨p, rfl, hp, hpl, hs⟩, fun g => by simp [dendronref01_Times_s3]⟩)
 have g2 : ((x.length + y.length : Nat) : Int) ≤ 9223372036854775807 := by omega
 have g3 : (0 : Int) ≤ ((x.length + y.length : Nat) : Int) := by omega
 have g4 : ((8 : Nat) : Int) * ((x.length + y.length : Nat) : Int) ≤ 281474976710656 := by omega
 rw [decide_eq_true g2, decide_eq_true g3, decide_eq_true g4, decide_eq_true rfl, Int.toNat_natCast, hlp, Option.bind_some, rTrim_ok hpl (by omega), hpn]
 rfl
theorem rOver_inner {a q : List Int} {i : Int} {y R : Nat} (hy : (digs y).length < 1099511627776) (hR : (digs R).length < 1099511627776) (hRy : R < y * 10000) :
  lp dendronref01_Over_s12 K0 ((a, digs y, q, digs R, i, 0, 10000, ()), ()) = some ((a, digs y, q, digs R, i, ((R / y : Nat) : Int), ()), ()) := by
 have hy0 : 0 < y := by
  rcases Nat.eq_zero_or_pos y with h | h
  · subst h; omega
  · exact h
 obtain ⟨r, rfl, hlp⟩ := lp_wf (step := dendronref01_Over_s12) (fun s => ∃ lo hi : Nat, s = ((a, digs y, q, digs R, i, (lo : Int), (hi : Int), ()), ()) ∧ lo < hi ∧ hi ≤ 10000 ∧ y * lo ≤ R ∧ R < y * hi) (fun s => (s.1.2.2.2.2.2.2.1 - s.1.2.2.2.2.2.1).toNat)
  (fun r => r = ((a, digs y, q, digs R, i, ((R / y : Nat) : Int), ()), ())) (v := ((a, digs y, q, digs R, i, 0, 10000, ()), ())) ⟨0, 10000, rfl, by omega, by omega, by simp, hRy⟩ (by simp) (by
    rintro s ⟨lo, hi, rfl, hlt, hh, h1, h2⟩
    have e1 : isub .i64 (hi : Int) (lo : Int) = (hi : Int) - lo := by rw [isub_i] <;> omega
    by_cases hd : hi - lo ≤ 1
    · have : hi = lo + 1 := by omega
      subst this
      have hq : R / y = lo := by
        rw [Nat.div_eq_iff hy0]
        rw [Nat.mul_add, Nat.mul_one] at h2
        rw [Nat.mul_comm]; omega
      refine .inl ⟨_, rfl, fun g => ?_⟩
      rw [dendronref01_Over_s12, e1, cnd' (by omega), hq]
    · have e2 : iquo .i64 (iadd .i64 (lo : Int) (hi : Int)) 2 = (((lo + hi) / 2 : Nat) : Int) := by
        have : iadd .i64 (lo : Int) (hi : Int) = ((lo + hi : Nat) : Int) := by rw [iadd_i] <;> omega
        rw [this, iquo_i (by omega) (by omega) (by omega)]; omega
      have hmid : (lo + hi) / 2 < 10000 := by omega
      have hs := rSmall_ok (n := (lo + hi) / 2) (by omega)
      have hdl : (digs ((lo + hi) / 2)).length ≤ 1 := digs_len_le (by omega)
      have ht := rTimes_ok (digs_dig y) (digs_dig ((lo + hi) / 2)) (by omega) (by omega)
      rw [dd_digs, dd_digs] at ht
      have hml := digs_mul_len y ((lo + hi) / 2)
      have ho := rOrder_ok (n := y * ((lo + hi) / 2)) (m := R) (by omega)
      have hmlo : lo < (lo + hi) / 2 := by omega
      have hmhi : (lo + hi) / 2 < hi := by omega
      generalize (lo + hi) / 2 = mid at *
      have step : ∀ g, dendronref01_Over_s12 g ((a, digs y, q, digs R, i, (lo : Int), (hi : Int), ()), ()) = bif decide (ncmp (y * mid) R ≤ 0) then g ((a, digs y, q, digs R, i, (mid : Int), (hi : Int), ()), ()) else g ((a, digs y, q, digs R, i, (lo : Int), (mid : Int), ()), ()) := by
        intro g
        rw [dendronref01_Over_s12, e1, cnd (by omega), e2, hs, Option.bind_some, ht, Option.bind_some, ho, Option.bind_some]
      by_cases hc : y * mid ≤ R
      · have c : ncmp (y * mid) R ≤ 0 := by unfold ncmp; split <;> (try split) <;> omega
        exact .inr ⟨_, ⟨mid, hi, rfl, hmhi, hh, hc, h2⟩, by show ((hi : Int) - (mid : Int)).toNat < ((hi : Int) - (lo : Int)).toNat; omega, fun g => by rw [step, cnd c]⟩
      · have c : ¬ ncmp (y * mid) R ≤ 0 := by unfold ncmp; rw [if_neg (by omega), if_pos (by omega)]; decide
        exact .inr ⟨_, ⟨lo, mid, rfl, hmlo, by omega, h1, by omega⟩, by show ((mid : Int) - (lo : Int)).toNat < ((hi : Int) - (lo : Int)).toNat; omega, fun g => by rw [step, cnd' c]⟩)
 exact hlp
theorem pow_help {R y k : Nat} (h : R < y * 10000) (hy : y < 10000 ^ k) : R < 10000 ^ (k + 1) := by
 rw [Nat.pow_succ]
 exact Nat.lt_of_lt_of_le h (Nat.mul_le_mul_right _ (Nat.le_of_lt hy))
theorem rOver_ok {a : List Int} {y : Nat} (ha : Dig a) (hl : a.length < 1099511627776) (hy : (digs y).length < 1099511627775) (hy0 : 0 < y) : dendronref01_Over a (digs y) = some (digs (dd a / y), digs (dd a % y)) := by
 obtain ⟨r, ⟨s, c, rfl, hs, hsl, hc, hsn⟩, hlp⟩ := lp_wf (step := dendronref01_Over_s4)
  (fun v => ∃ (j : Nat) (s : List Int) (c : Nat), j ≤ a.length ∧ v = ((a, digs y, List.replicate j 0 ++ s, digs c, (j : Int) - 1, ()), ()) ∧ j + s.length = a.length ∧ Dig s ∧ c < y ∧ dd (a.drop j) = y * dd s + c)
  (fun v => (v.1.2.2.2.2.1 + 1).toNat)
  (fun r => ∃ (s : List Int) (c : Nat), r = ((s, digs c, ()), ()) ∧ s.length = a.length ∧ Dig s ∧ c < y ∧ dd a = y * dd s + c) (v := ((a, digs y, List.replicate a.length 0, [], (a.length : Int) - 1, ()), ()))
  ⟨a.length, [], 0, Nat.le_refl _, by simp [digs_zero], by simp, Dig.nil, hy0, by simp⟩ (by simp; omega) (by
   rintro v ⟨j, s, c, hj, rfl, hjl, hsl, hc, hn⟩
   cases j with
   | zero =>
    refine .inl ⟨((s, digs c, ()), ()), ⟨s, c, rfl, by omega, hsl, hc, by simpa using hn⟩, fun g => by simp [dendronref01_Over_s4]⟩
   | succ j =>
    have hja : j < a.length := by omega
    have b := ha.at hja
    have e3 : ((j + 1 : Nat) : Int) - 1 = (j : Int) := by omega
    rw [e3]
    obtain ⟨x, hx⟩ := Int.eq_ofNat_of_zero_le b.1
    have hx' : x < 10000 := by omega
    have hcl := digs_len_mono (Nat.le_of_lt hc)
    have htr := rTrim_ok (a := [a[j]] ++ digs c) (Dig.append (Dig.cons b Dig.nil) (digs_dig c)) (by simp; omega)
    have hval : dd ([a[j]] ++ digs c) = x + 10000 * c := by
      show dd (a[j] :: digs c) = _
      rw [dd, dd_digs]; omega
    rw [hval] at htr
    have hR : x + 10000 * c < y * 10000 := by omega
    have hRl : (digs (x + 10000 * c)).length < 1099511627776 := by
      have h5 : x + 10000 * c < 10000 ^ ((digs y).length + 1) := by
       have h6 := dd_lt (digs y)
       rw [dd_digs] at h6
       exact pow_help hR h6
      have := digs_len_le h5
      omega
    have hin := rOver_inner (a := a) (q := List.replicate (j + 1) 0 ++ s) (i := (j : Int)) (by omega) hRl hR
    have k1 := Nat.div_add_mod (x + 10000 * c) y
    have k5 := Nat.mod_lt (x + 10000 * c) hy0
    have hq : (x + 10000 * c) / y < 10000 := by rw [Nat.div_lt_iff_lt_mul hy0]; omega
    have hs1 := rSmall_ok (n := (x + 10000 * c) / y) (by omega)
    have hdl : (digs ((x + 10000 * c) / y)).length ≤ 1 := digs_len_le (by omega)
    have ht := rTimes_ok (digs_dig y) (digs_dig ((x + 10000 * c) / y)) (by omega) (by omega)
    rw [dd_digs, dd_digs] at ht
    have hm := rMinus_ok (digs_dig (x + 10000 * c)) (digs_dig (y * ((x + 10000 * c) / y))) (by omega) (by rw [dd_digs, dd_digs]; omega)
    rw [dd_digs, dd_digs] at hm
    have hrest : x + 10000 * c - y * ((x + 10000 * c) / y) = (x + 10000 * c) % y := by omega
    rw [hrest] at hm
    generalize (x + 10000 * c) / y = qd at *
    generalize (x + 10000 * c) % y = rr at *
    refine .inr ⟨((a, digs y, List.replicate j 0 ++ (qd : Int) :: s, digs rr, (j : Int) - 1, ()), ()), ⟨j, _, _, by omega, rfl, by simp; omega, Dig.cons (by omega) hsl, k5, ?_⟩, by simp, fun g => ?_⟩
    · rw [dd_drop a hja, hn, dd]
      have k2 : ((qd : Int) % 10000).toNat = qd := by omega
      have k3 : (a[j] % 10000).toNat = x := by omega
      rw [k2, k3]
      grind
    · have q5 : isub .i64 (j : Int) 1 = (j : Int) - 1 := by rw [isub_i] <;> omega
      have e5 : (List.replicate (j + 1) (0 : Int) ++ s).set j (qd : Int) = List.replicate j 0 ++ (qd : Int) :: s := by
       rw [List.replicate_succ', List.append_assoc, List.set_append_right _ _ (by simp)]
       simp
      have e6 : j < (List.replicate (j + 1) (0 : Int) ++ s).length := by simp; omega
      have e7 : ((j : Nat) : Int) < ((List.replicate (j + 1) (0 : Int) ++ s).length : Int) := by omega
      have e8 : (0 : Int) ≤ ((j : Nat) : Int) := by omega
      have c0 : (j : Int) ≥ 0 := by omega
      have c1 : (Nat.ble ((([a[j]] : List Int).length + (digs c).length) * 8) 140737488355328 && !false) = true := blt (by simp; omega)
      rw [dendronref01_Over_s4, cnd c0, cnd e8, Int.toNat_natCast, List.getElem?_eq_getElem hja, Option.bind_some, c1, cond_true, htr, Option.bind_some, hin, Option.bind_some, cnd2 e8 e7, Int.toNat_natCast, List.getElem?_eq_getElem e6, Option.bind_some, hs1, Option.bind_some, ht, Option.bind_some, hm, Option.bind_some, e5, q5])
 have g1 : ((8 : Nat) : Int) * (a.length : Int) ≤ 281474976710656 := by omega
 have g2 : (a.length : Int) ≤ 9223372036854775807 := by omega
 have g4 : (0 : Int) ≤ (a.length : Int) := by omega
 have g3 : isub .i64 (a.length : Int) 1 = (a.length : Int) - 1 := by rw [isub_i] <;> omega
 have k1 : dd a / y = dd s := by rw [hsn, Nat.mul_add_div hy0, Nat.div_eq_of_lt hc]; simp
 have k2 : dd a % y = c := by rw [hsn, Nat.mul_add_mod, Nat.mod_eq_of_lt hc]
 rw [k1, k2]
 rw [dendronref01_Over, decide_eq_true rfl, decide_eq_true g4, decide_eq_true g1, decide_eq_true g2, Int.toNat_natCast, g3, hlp]
 simp only [Bool.and_self, cond_true, Option.bind_some, rTrim_ok hsl (show s.length < 4611686018427387904 by omega)]
theorem lenN_lt {x y : Nat} (hy : y ≠ 0) (h : 2 * x ≤ y) : lenN x < lenN y := by
 unfold lenN
 by_cases hx : x = 0
 · rw [if_pos hx, if_neg hy]; omega
 · rw [if_neg hx, if_neg hy]
   have := log2_half hx h
   omega
theorem lenN_le {n k : Nat} (h : n < 2 ^ k) : lenN n ≤ k := by
 unfold lenN
 by_cases hx : n = 0
 · rw [if_pos hx]; omega
 · rw [if_neg hx]; have := (Nat.log2_lt hx).2 h; omega
theorem lenN_digs (n : Nat) : lenN n ≤ 14 * (digs n).length := by
 apply lenN_le
 have h1 := dd_lt (digs n)
 rw [dd_digs] at h1
 have h2 : 10000 ^ (digs n).length ≤ (2 ^ 14) ^ (digs n).length := Nat.pow_le_pow_left (by decide) _
 rw [← Nat.pow_mul] at h2
 omega
theorem rGcd_ok {x y : Nat} (hx : (digs x).length < 1099511627775) (hy : (digs y).length < 1099511627775) : dendronref01_Gcd (digs x) (digs y) = some (digs (Nat.gcd x y)) := by
 obtain ⟨r, rfl, hlp⟩ := lp_wf (step := dendronref01_Gcd_s1) (fun s => ∃ p q : Nat, s = ((digs p, digs q, ()), ()) ∧ (digs p).length < 1099511627775 ∧ (digs q).length < 1099511627775 ∧ Nat.gcd p q = Nat.gcd x y)
  (fun s => 2 * (lenN (dd s.1.1) + lenN (dd s.1.2.1)) + if dd s.1.1 < dd s.1.2.1 then 1 else 0) (fun r => r = ((digs (Nat.gcd x y), ()), ())) (v := ((digs x, digs y, ()), ()))
  ⟨x, y, rfl, hx, hy, rfl⟩ (by
   have h1 := lenN_digs x
   have h2 := lenN_digs y
   simp only [dd_digs]
   split <;> omega) (by
   rintro s ⟨p, q, rfl, hp, hq, hg⟩
   by_cases h0 : q = 0
   · subst h0
     refine .inl ⟨_, rfl, fun g => ?_⟩
     rw [Nat.gcd_zero_right] at hg
     rw [digs_zero, dendronref01_Gcd_s1, cnd' (by decide), ← hg]
   · have c0 : ((digs q).length : Int) > 0 := digs_pos_len.2 h0
     have ho := rOver_ok (digs_dig p) (by omega) hq (Nat.pos_of_ne_zero h0)
     rw [dd_digs] at ho
     have hml := Nat.mod_lt p (Nat.pos_of_ne_zero h0)
     refine .inr ⟨((digs q, digs (p % q), ()), ()), ⟨q, p % q, rfl, hq, Nat.lt_of_le_of_lt (digs_len_mono (Nat.le_of_lt hml)) hq, ?_⟩, ?_, fun g => ?_⟩
     · rw [← hg, Nat.gcd_comm q, ← Nat.gcd_rec, Nat.gcd_comm]
     · simp only [dd_digs]
       rw [if_neg (by omega)]
       by_cases hpq : p < q
       · rw [if_pos hpq, Nat.mod_eq_of_lt hpq]; omega
       · rw [if_neg hpq]
         have : 2 * (p % q) ≤ p := by
          have h1 := Nat.div_add_mod p q
          have h2 : 1 ≤ p / q := Nat.div_pos (by omega) (by omega)
          have h3 : q * 1 ≤ q * (p / q) := Nat.mul_le_mul_left _ h2
          omega
         have := lenN_lt (by omega) this
         omega
     · rw [dendronref01_Gcd_s1, cnd c0, ho, Option.bind_some])
 rw [dendronref01_Gcd, hlp]; rfl
theorem digs_of_limbs {n k : Nat} (h : n < 4294967296 ^ k) : (digs n).length ≤ 3 * k := by
 apply digs_len_le
 have : 4294967296 ^ k ≤ (10000 ^ 3) ^ k := Nat.pow_le_pow_left (by decide) _
 rw [← Nat.pow_mul] at this
 omega
theorem rFrom_ok {a : List Int} (hl : a.length < 274877906944) : dendronref01_From a = some (digs (nn a)) := by
 have hu := rSmall_ok (n := 4294967296) (by decide)
 obtain ⟨r, rfl, hlp⟩ := lp_wf (step := dendronref01_From_s4) (fun s => ∃ j : Nat, j ≤ a.length ∧ s = ((a, digs (nn (a.drop j)), digs 4294967296, (j : Int) - 1, ()), ())) (fun s => (s.1.2.2.2.1 + 1).toNat)
  (fun r => r = ((digs (nn a), ()), ())) (v := ((a, [], digs 4294967296, (a.length : Int) - 1, ()), ())) ⟨a.length, Nat.le_refl _, by rw [List.drop_length, nn_nil, digs_zero]⟩ (by simp; omega) (by
   rintro s ⟨j, hj, rfl⟩
   cases j with
   | zero => exact .inl ⟨_, rfl, fun g => by simp [dendronref01_From_s4]⟩
   | succ j =>
    have hja : j < a.length := by omega
    have e3 : ((j + 1 : Nat) : Int) - 1 = (j : Int) := by omega
    rw [e3]
    have hnl := nn_lt (a.drop (j + 1))
    rw [List.length_drop] at hnl
    have hd := digs_of_limbs hnl
    have hu2 : (digs 4294967296).length ≤ 3 := digs_len_le (by decide)
    have ht := rTimes_ok (digs_dig (nn (a.drop (j + 1)))) (digs_dig 4294967296) (by omega) (by omega)
    rw [dd_digs, dd_digs] at ht
    have hml := digs_mul_len (nn (a.drop (j + 1))) 4294967296
    have hw : IntKind.wrap .i64 (iand .u64 a[j] 4294967295) = (((a[j] % 4294967296).toNat : Nat) : Int) := by
     rw [iand_low, wrap_i (by omega) (by omega)]; omega
    have hs := rSmall_ok (n := (a[j] % 4294967296).toNat) (by omega)
    have hsl : (digs (a[j] % 4294967296).toNat).length ≤ 3 := digs_len_le (by omega)
    have hp := rPlus_ok (x := nn (a.drop (j + 1)) * 4294967296) (y := (a[j] % 4294967296).toNat) (by omega) (by omega)
    have hval : nn (a.drop (j + 1)) * 4294967296 + (a[j] % 4294967296).toNat = nn (a.drop j) := by rw [nn_drop a hja]; omega
    rw [hval] at hp
    refine .inr ⟨((a, digs (nn (a.drop j)), digs 4294967296, (j : Int) - 1, ()), ()), ⟨j, by omega, rfl⟩, by simp, fun g => ?_⟩
    have q5 : isub .i64 (j : Int) 1 = (j : Int) - 1 := by rw [isub_i] <;> omega
    have c0 : (j : Int) ≥ 0 := by omega
    have c1 : (0 : Int) ≤ (j : Int) := by omega
    rw [dendronref01_From_s4, cnd c0, ht, Option.bind_some, cnd c1, Int.toNat_natCast, List.getElem?_eq_getElem hja, Option.bind_some, hw, hs, Option.bind_some, hp, Option.bind_some, q5])
 have g3 : isub .i64 (a.length : Int) 1 = (a.length : Int) - 1 := by rw [isub_i] <;> omega
 rw [show ((4294967296 : Nat) : Int) = 4294967296 from rfl] at hu
 rw [dendronref01_From, hu, Option.bind_some, g3, hlp]; rfl
theorem rRight_ok {n : Nat} (hl : (limbs n).length < 4398046511104) : dendronref01_Right (limbs n) = some true := by
 have la := limbs_lim n
 have hc := (limbs_canon n).2
 generalize limbs n = a at *
 have key := lp_up (step := dendronref01_Right_s2) (fun i => ((a, (i : Int), ()), ())) a.length (r := .inl ((a, ()), ())) (by omega) (by
   intro g i hi
   have b := la.at hi
   have c0 : (i : Int) < ((a.length : Nat) : Int) := by omega
   have c1 : (0 : Int) ≤ (i : Int) := by omega
   rw [dendronref01_Right_s2, cnd c0, cnd c1, Int.toNat_natCast, List.getElem?_eq_getElem hi, Option.bind_some, cnd' (by omega), iadd1 (by omega)]
   rfl) (by
   intro g
   rw [dendronref01_Right_s2, cnd' (by omega)])
 have key' : lp dendronref01_Right_s2 K0 ((a, 0, ()), ()) = some (.inl ((a, ()), ())) := key
 rw [dendronref01_Right, key', Option.bind_some]
 by_cases h0 : a = []
 · subst h0; rfl
 · have hlen := List.length_pos_iff.2 h0
   have e : isub .i64 (a.length : Int) 1 = ((a.length - 1 : Nat) : Int) := by rw [isub_i] <;> omega
   have hlt : a.length - 1 < a.length := by omega
   have hne : a[a.length - 1] ≠ 0 := hc _ (by rw [List.getLast?_eq_getElem?]; exact List.getElem?_eq_getElem hlt)
   have c0 : ¬ ((a.length : Nat) : Int) = 0 := by omega
   have c1 : (0 : Int) ≤ ((a.length - 1 : Nat) : Int) := by omega
   simp only []
   rw [cnd' c0, e, cnd c1, Int.toNat_natCast, List.getElem?_eq_getElem hlt, Option.bind_some, decide_eq_false hne]
   rfl
def digsI (z : Int) : WH := (decide (z < 0), digs z.natAbs)
theorem rMake_ok (b : Bool) (n : Nat) : dendronref02_Make b (digs n) = some (digsI (if b then -(n : Int) else n)) := by
 cases b with
 | false =>
  show some (false, digs n) = some (digsI (n : Int))
  unfold digsI
  rw [decide_eq_false (by omega), Int.natAbs_natCast]
 | true =>
  show some (decide (((digs n).length : Int) > 0), digs n) = some (digsI (-(n : Int)))
  unfold digsI
  rw [Int.natAbs_neg, Int.natAbs_natCast]
  congr 2
  rw [decide_eq_decide, digs_pos_len]
  omega
theorem rITimes_ok {x y : Int} (hx : (digs x.natAbs).length < 1099511627776) (hy : (digs y.natAbs).length < 1099511627776) : dendronref02_Times (digsI x) (digsI y) = some (digsI (x * y)) := by
 have hm := rTimes_ok (digs_dig x.natAbs) (digs_dig y.natAbs) (by omega) (by omega)
 rw [dd_digs, dd_digs] at hm
 rw [dendronref02_Times]
 simp only [digsI, hm, Option.bind_some, rMake_ok]
 have key : (if (!decide (x < 0) == decide (y < 0)) = true then -(((x.natAbs * y.natAbs : Nat)) : Int) else ((x.natAbs * y.natAbs : Nat) : Int)) = x * y := by
  rw [Int.natCast_mul]
  by_cases h1 : x < 0 <;> by_cases h2 : y < 0
  · rw [show ((x.natAbs : Nat) : Int) = -x by omega, show ((y.natAbs : Nat) : Int) = -y by omega]; simp [h1, h2, Int.neg_mul_neg]
  · rw [show ((x.natAbs : Nat) : Int) = -x by omega, show ((y.natAbs : Nat) : Int) = y by omega]; simp [h1, h2, Int.neg_mul]
  · rw [show ((x.natAbs : Nat) : Int) = x by omega, show ((y.natAbs : Nat) : Int) = -y by omega]; simp [h1, h2, Int.mul_neg]
  · rw [show ((x.natAbs : Nat) : Int) = x by omega, show ((y.natAbs : Nat) : Int) = y by omega]; simp [h1, h2]
 exact congrArg (fun z => some (digsI z)) key
theorem rIOrder_ok {x y : Int} (hx : (digs x.natAbs).length < 4398046511104) (hy : (digs y.natAbs).length < 4398046511104) : dendronref02_Order (digsI x) (digsI y) = some (icmp x y) := by
 have e1 := rOrder_ok (n := x.natAbs) (m := y.natAbs) (by omega)
 have e2 := rOrder_ok (n := y.natAbs) (m := x.natAbs) (by omega)
 rw [dendronref02_Order]
 simp only [digsI, e1, e2]
 by_cases h1 : x < 0 <;> by_cases h2 : y < 0 <;> simp [h1, h2, icmp, ncmp] <;> (repeat' split) <;> omega
theorem rFromI_ok {a : WH} (h : a.2.length < 274877906944) : dendronref02_From a = some (digsI (wv a)) := by
 rw [dendronref02_From, rFrom_ok h, Option.bind_some, rMake_ok]; rfl
theorem rFromQ_ok {a : RAT} {n : Nat} (h : SzR a n) (hn : n < 91625968980) : ∃ (z : Int) (d : Nat), dendronref03_From a = some (digsI z, digs d) ∧ 0 < d ∧ rv a = mkRat z d ∧ (digs z.natAbs).length ≤ 3 * n + 1 ∧ (digs d).length ≤ 3 * n + 1 := by
 have h1 := h.1
 have h2 := h.2
 rw [dendronref03_From, rFrom_ok (by omega), Option.bind_some]
 by_cases h0 : nn a.2 = 0
 · refine ⟨0, 1, ?_, by omega, ?_, by simp [digs_zero], digs_len_le (by rw [Nat.pow_add]; have : 0 < 10000 ^ (3 * n) := Nat.pow_pos (by decide); omega)⟩
   · have s1 := rSmall_ok (n := 1) (by decide)
     have s0 := rSmall_ok (n := 0) (by decide)
     rw [show ((1 : Nat) : Int) = 1 from rfl] at s1
     rw [show ((0 : Nat) : Int) = 0 from rfl] at s0
     rw [h0, digs_zero, cnd (by rfl), dendronref03_Small, dendronref02_Small, cnd' (by decide), s0, Option.bind_some, rMake_ok, Option.bind_some, Option.bind_some, s1]
     rfl
   · rw [rv, h0]; simp
 · have hne : ¬ ((digs (nn a.2)).length : Int) = 0 := by rw [digs_len0]; exact h0
   refine ⟨wv a.1, nn a.2, ?_, Nat.pos_of_ne_zero h0, rfl, ?_, ?_⟩
   · rw [cnd' hne, rFromI_ok (by omega)]; rfl
   · rw [wv_natAbs]
     have := digs_of_limbs (nn_lt a.1.2)
     omega
   · have := digs_of_limbs (nn_lt a.2)
     omega
theorem Is_ok {q : Rat} {b : RAT} {n m : Nat} (hq : SzQ q n) (hn : n < 91625968980) (hb : SzR b m) (hm : m < 91625968980) : dendronref10_Is (canQ q) b = some (decide (q = rv b)) := by
 obtain ⟨z, d, hf, hd0, hv, hz, hd⟩ := rFromQ_ok hb hm
 have hr := hq.szR
 have r1 : (limbs q.num.natAbs).length ≤ n := hr.1
 have r2 : (limbs q.den).length ≤ n := hr.2
 have hnum := digs_of_limbs hq.1
 have hden := digs_of_limbs hq.2
 have f1 := rFrom_ok (a := limbs q.num.natAbs) (by omega)
 have f2 := rFrom_ok (a := limbs q.den) (by omega)
 rw [nn_limbs] at f1 f2
 have hg := rGcd_ok (x := q.num.natAbs) (y := q.den) (by omega) (by omega)
 rw [show Nat.gcd q.num.natAbs q.den = 1 from q.reduced] at hg
 have s1 := rSmall_ok (n := 1) (by decide)
 rw [show ((1 : Nat) : Int) = 1 from rfl] at s1
 have hl1 : (digs 1).length ≤ 1 := digs_len_le (by decide)
 have ho := rOrder_ok (n := 1) (m := 1) (by omega)
 have hcm : ncmp 1 1 = 0 := rfl
 have hdne : ¬ (((limbs q.den).length : Nat) : Int) = 0 := by rw [limbs_len0]; exact q.den_nz
 have hright : dendronref03_Right (canQ q) = some true := by
  have hfin : ((dendronref01_From (limbs q.num.natAbs)).bind fun r3 => (dendronref01_From (limbs q.den)).bind fun r4 => (dendronref01_Gcd r3 r4).bind fun r5 => (dendronref01_Small 1).bind fun r6 => (dendronref01_Order r5 r6).bind fun r7 => some (decide (r7 = 0))) = some true := by
    rw [f1, Option.bind_some, f2, Option.bind_some, hg, Option.bind_some, s1, Option.bind_some, ho, Option.bind_some, hcm]; rfl
  rw [show canQ q = ((decide (q.num < 0), limbs q.num.natAbs), limbs q.den) from rfl, dendronref03_Right, rRight_ok (show (limbs q.num.natAbs).length < 4398046511104 by omega), Option.bind_some, Bool.not_true, cond_false, rRight_ok (show (limbs q.den).length < 4398046511104 by omega), Option.bind_some, Bool.not_true, cond_false, cnd' hdne]
  by_cases hz0 : q.num.natAbs = 0
  · have hnn : ¬ q.num < 0 := by omega
    have hl0 : (((limbs q.num.natAbs).length : Nat) : Int) = 0 := limbs_len0.2 hz0
    rw [cnd hl0, cnd' hnn]
    exact hfin
  · have hl0 : ¬ (((limbs q.num.natAbs).length : Nat) : Int) = 0 := by rw [limbs_len0]; exact hz0
    rw [cnd' hl0]
    exact hfin
 have hfrom : dendronref03_From (canQ q) = some (digsI q.num, digs q.den) := by
  have hdne2 : ¬ (((digs q.den).length : Nat) : Int) = 0 := by rw [digs_len0]; exact q.den_nz
  have f3 := rFromI_ok (a := limbsI q.num) (by show (limbs _).length < _; omega)
  rw [wv_limbsI] at f3
  rw [dendronref03_From]
  simp only [canQ, f2, Option.bind_some, f3]
  exact cnd' hdne2
 have m1 := rITimes_ok (x := q.num) (y := (d : Int)) (by omega) (by rw [Int.natAbs_natCast]; omega)
 have m2 := rITimes_ok (x := z) (y := (q.den : Int)) (by omega) (by rw [Int.natAbs_natCast]; omega)
 have l1 := digs_mul_len q.num.natAbs d
 have l2 := digs_mul_len z.natAbs q.den
 have oo := rIOrder_ok (x := q.num * (d : Int)) (y := z * (q.den : Int)) (by rw [Int.natAbs_mul, Int.natAbs_natCast]; omega) (by rw [Int.natAbs_mul, Int.natAbs_natCast]; omega)
 have k1 := rMake_ok false d
 have k2 := rMake_ok false q.den
 have horder : dendronref03_Order (digsI q.num, digs q.den) (digsI z, digs d) = some (icmp (q.num * (d : Int)) (z * (q.den : Int))) := by
  rw [dendronref03_Order]
  simp only [dendronref03_den, k1, k2, Option.bind_some, Bool.false_eq_true, if_false, m1, m2, oo]
 have hiff : icmp (q.num * (d : Int)) (z * (q.den : Int)) = 0 ↔ q = rv b := by
  rw [hv]
  have h1 : icmp (q.num * (d : Int)) (z * (q.den : Int)) = 0 ↔ q.num * (d : Int) = z * (q.den : Int) := by
    unfold icmp; (repeat' split) <;> omega
  rw [h1]
  conv => rhs; rw [← Rat.mkRat_self q]
  rw [Rat.mkRat_eq_iff q.den_nz (by omega)]
 rw [dendronref10_Is, hf, Option.bind_some, dendronref03_Is, hright, Option.bind_some, cond_true, hfrom, Option.bind_some, horder, Option.bind_some, Option.bind_some]
 congr 1
 rw [decide_eq_decide]
 exact hiff
def rsum (f : Nat → Rat) : Nat → Rat
 | 0 => 0
 | n + 1 => rsum f n + f n
theorem rsum_congr {f g : Nat → Rat} {n : Nat} (h : ∀ i, i < n → f i = g i) : rsum f n = rsum g n := by
 induction n with
 | zero => rfl
 | succ n ih => simp only [rsum]; rw [ih (fun i hi => h i (by omega)), h n (by omega)]
theorem rsum_mul (f : Nat → Rat) (c : Rat) (n : Nat) : rsum (fun i => f i * c) n = rsum f n * c := by
 induction n with
 | zero => simp [rsum]
 | succ n ih => simp only [rsum, ih]; rw [Rat.add_mul]
theorem rsum_sz {f : Nat → Rat} {k n : Nat} (h : ∀ i, i < n → SzQ (f i) k) : SzQ (rsum f n) (1 + n * (k + 1)) := by
 induction n with
 | zero => simpa [rsum] using SzQ.zero
 | succ n ih =>
  have := (ih fun i hi => h i (by omega)).add (h n (by omega))
  simp only [rsum]
  exact this.mono (by rw [Nat.add_mul]; omega)
def fac : Nat → Nat
 | 0 => 1
 | n + 1 => (n + 1) * fac n
theorem fac_pos (n : Nat) : 0 < fac n := by
 induction n with
 | zero => decide
 | succ n ih => exact Nat.mul_pos (by omega) ih
def facts : List WH := (List.range 65).map fun n => limbsI (fac n : Nat)
theorem products_ok : weigh_products = some facts := by decide +kernel
def Tab (d st sm : Int) (f : List WH) : Prop := (d = 0 ∧ st = 0) ∨ (d = 1 ∧ st = 0 ∧ f = facts)
theorem New_ok : ∃ d st sm f, weigh_New = some (d, st, sm, f) ∧ Tab d st sm f := ⟨0, 0, 0, [], rfl, .inl ⟨rfl, rfl⟩⟩
theorem facts_get {n : Nat} (h : n < 65) : facts[n]? = some (limbsI (fac n : Nat)) := by
 simp [facts, h]
theorem at_ok {d st sm : Int} {f : List WH} (h : Tab d st sm f) {n : Nat} (hn : n ≤ 64) : weigh_at (n : Int) d st sm f = some (limbsI (fac n : Nat), 1, 0, sm, facts) := by
 have h0 : (0 : Int) ≤ (n : Int) := by omega
 have hg := facts_get (n := n) (by omega)
 rcases h with ⟨rfl, rfl⟩ | ⟨rfl, rfl, rfl⟩
 · rw [weigh_at, cnd h0, cnd rfl, cnd rfl, products_ok, Option.bind_some, Int.toNat_natCast, hg, Option.bind_some]
 · rw [weigh_at, cnd h0, cnd' (by decide), Int.toNat_natCast, hg, Option.bind_some]
theorem tab1 (sm : Int) : Tab 1 0 sm facts := .inr ⟨rfl, rfl, rfl⟩
theorem fac_le {n : Nat} (h : n ≤ 64) : fac n < 4294967296 ^ 10 := by
 have hm : ∀ a b, a ≤ b → fac a ≤ fac b := by
  intro a b hab
  induction hab with
  | refl => exact Nat.le_refl _
  | step _ ih =>
   refine Nat.le_trans ih ?_
   simp only [fac]
   exact Nat.le_mul_of_pos_left _ (by omega)
 have := hm n 64 h
 have h64 : fac 64 < 4294967296 ^ 10 := by decide +kernel
 omega
theorem fac_sz {n : Nat} (h : n ≤ 64) : SzQ ((fac n : Nat) : Rat) 10 := by
 have := fac_le h
 exact ⟨by simpa using this, by simp⟩
def quo (a b c : Nat) : Rat := ((fac a : Nat) : Rat) * ((fac b : Nat) : Rat) / ((fac c : Nat) : Rat)
theorem quo_sz {a b c : Nat} (ha : a ≤ 64) (hb : b ≤ 64) (hc : c ≤ 64) : SzQ (quo a b c) 30 := ((fac_sz ha).mul (fac_sz hb)).div (fac_sz hc)
theorem limbsI_lenk {n k : Nat} (h : n < 4294967296 ^ k) : (limbsI (n : Nat)).2.length ≤ k := by
 rw [limbsI_len]; exact limbs_len_le (by simpa using h)
theorem wv_nat (n : Nat) : wv (limbsI (n : Nat)) = (n : Int) := by
 simp [wv_limbsI]
theorem quotient_ok {d st sm : Int} {f : List WH} (h : Tab d st sm f) {a b c : Nat} (ha : a ≤ 64) (hb : b ≤ 64) (hc : c ≤ 64) :
  weigh_Table_quotient (a : Int) (b : Int) (c : Int) d st sm f = some (canQ (quo a b c), 1, 0, sm, facts) := by
 have hl : ∀ {n : Nat}, n ≤ 64 → (limbsI (fac n : Nat)).2.length < 1099511627776 := fun h => Nat.lt_of_le_of_lt (limbsI_lenk (fac_le h)) (by decide)
 have hm : whole_Mul (limbsI (fac a : Nat)) (limbsI (fac b : Nat)) = some (limbsI ((fac a * fac b : Nat) : Int)) := by
  have := wMul_ok (a := limbsI (fac a : Nat)) (b := limbsI (fac b : Nat)) (Nat.lt_of_lt_of_le (hl ha) (by decide)) (Nat.lt_of_lt_of_le (hl hb) (by decide))
  rw [this, wv_nat, wv_nat]; simp
 have hlen : (limbsI ((fac a * fac b : Nat) : Int)).2.length < 1099511627776 := by
  have h1 := fac_le ha
  have h2 := fac_le hb
  have : fac a * fac b < 4294967296 ^ 20 := by
   have := Nat.mul_lt_mul'' h1 h2
   rw [← Nat.pow_add] at this; exact this
  exact Nat.lt_of_le_of_lt (limbsI_lenk this) (by decide)
 have hmk := ratio_Make_ok hlen (hl hc)
 rw [wv_nat, wv_nat, if_neg (by have := fac_pos c; omega)] at hmk
 have hq : (((fac a * fac b : Nat) : Int) : Rat) / (((fac c : Nat) : Int) : Rat) = quo a b c := by
  simp [quo]; rfl
 rw [hq] at hmk
 rw [weigh_Table_quotient, at_ok h ha, Option.bind_some, at_ok (tab1 sm) hb, Option.bind_some, hm, Option.bind_some, at_ok (tab1 sm) hc, Option.bind_some, hmk, Option.bind_some]
def wq (s n : Nat) : Rat := quo s (n - s - 1) n
theorem wq_sz {s n : Nat} (hs : s < n) (hn : n ≤ 64) : SzQ (wq s n) 30 := quo_sz (by omega) (by omega) (by omega)
theorem Weight_ok {d st sm : Int} {f : List WH} (h : Tab d st sm f) {s n : Nat} (hs : s < n) (hn : n ≤ 64) :
  weigh_Table_Weight (s : Int) (n : Int) d st sm f = some (canQ (wq s n), 0, 1, 0, sm, facts) := by
 have e1 : isub .i64 (isub .i64 (n : Int) (s : Int)) 1 = ((n - s - 1 : Nat) : Int) := by
  rw [isub_i (x := (n : Int)) (y := (s : Int)) (by omega) (by omega), isub_i (by omega) (by omega)]; omega
 rw [weigh_Table_Weight, cnd' (by omega), cnd' (by omega), cnd' (by omega), cnd' (by omega), e1, quotient_ok h (by omega) (by omega) (by omega), Option.bind_some]
 rfl
def nin (u v : Nat) : Rat := if u = 0 then 0 else quo (u - 1) v (u + v)
def nout (u v : Nat) : Rat := if v = 0 then 0 else -quo u (v - 1) (u + v)
theorem nin_sz {u v : Nat} (h : u + v ≤ 64) : SzQ (nin u v) 30 := by
 unfold nin; split
 · exact SzQ.zero.mono (by decide)
 · exact quo_sz (by omega) (by omega) (by omega)
theorem nout_sz {u v : Nat} (h : u + v ≤ 64) : SzQ (nout u v) 30 := by
 unfold nout; split
 · exact SzQ.zero.mono (by decide)
 · exact (quo_sz (by omega) (by omega) (by omega)).neg
theorem Need_ok {d st sm : Int} {f : List WH} (h : Tab d st sm f) {u v : Nat} (huv : u + v ≤ 64) :
   ∃ d' st' sm' f', weigh_Table_Need (u : Int) (v : Int) d st sm f = some (canQ (nin u v), canQ (nout u v), 0, d', st', sm', f') ∧ Tab d' st' sm' f' := by
 have e0 : isub .i64 64 (u : Int) = ((64 - u : Nat) : Int) := by rw [isub_i (by omega) (by omega)]; omega
 have e1 : u ≠ 0 → isub .i64 (u : Int) 1 = ((u - 1 : Nat) : Int) := fun h => by rw [isub_i (by omega) (by omega)]; omega
 have e2 : v ≠ 0 → isub .i64 (v : Int) 1 = ((v - 1 : Nat) : Int) := fun h => by rw [isub_i (by omega) (by omega)]; omega
 have e3 : iadd .i64 (u : Int) (v : Int) = ((u + v : Nat) : Int) := by rw [iadd_i (by omega) (by omega)]; omega
 have hneg : v ≠ 0 → ratio_Neg (canQ (quo u (v - 1) (u + v))) = some (canQ (nout u v)) := fun hv => by
   rw [ratio_Neg_ok ((quo_sz (by omega) (by omega) (by omega)).sm (by decide)), rv_canQ, nout, if_neg hv]
 rw [weigh_Table_Need, cnd' (by omega), cnd' (by omega), cnd' (by omega), e0, cnd' (by omega), ratio_Zero_ok, Option.bind_some, Option.bind_some]
 by_cases hu : u = 0
 · rw [cnd' (by omega)]
   by_cases hv : v = 0
   · rw [cnd' (by omega)]
     exact ⟨d, st, sm, f, by rw [nin, if_pos hu, nout, if_pos hv], h⟩
   · rw [cnd (by omega), e2 hv, e3, quotient_ok h (by omega) (by omega) (by omega), Option.bind_some, hneg hv, Option.bind_some]
     exact ⟨1, 0, sm, facts, by rw [nin, if_pos hu], tab1 sm⟩
 · rw [cnd (by omega), e1 hu, e3, quotient_ok h (by omega) (by omega) (by omega), Option.bind_some]
   by_cases hv : v = 0
   · rw [cnd' (by omega)]
     exact ⟨1, 0, sm, facts, by rw [nin, if_neg hu, nout, if_pos hv], tab1 sm⟩
   · rw [cnd (by omega), e2 hv, quotient_ok (tab1 sm) (by omega) (by omega) (by omega), Option.bind_some, hneg hv, Option.bind_some]
     exact ⟨1, 0, sm, facts, by rw [nin, if_neg hu], tab1 sm⟩
def vabs (l : List RAT) (i : Nat) : Rat := rabs (vals l i)
def vsum (l : List RAT) : Rat := rsum (vabs l) l.length
def shareQ (l : List RAT) (i : Nat) : Rat := vabs l i / vsum l
def shareL (l : List RAT) (n : Nat) : List RAT := (List.range n).map fun i => canQ (shareQ l i)
@[simp] theorem shareL_len (l : List RAT) (n : Nat) : (shareL l n).length = n := by simp [shareL]
section
variable {l : List RAT} (hsz : ∀ x ∈ l, SzR x 2) (hlen : l.length ≤ 33)
include hsz
end
theorem All_true {a b : List RAT} {n m : Nat} (hn : n < 91625968980) (hm : m < 91625968980) (hb : ∀ x ∈ b, SzR x m) (hlen : a.length = b.length) (hl : a.length < 4398046511104)
  (h : ∀ i (hi : i < a.length) (hi' : i < b.length), ∃ q, SzQ q n ∧ a[i] = canQ q ∧ rv b[i] = q) : dendronref10_All a b = some true := by
 have c0 : ((a.length : Nat) : Int) = ((b.length : Nat) : Int) := by omega
 have key := lp_up (step := dendronref10_All_s4) (fun i => ((a, b, (i : Int), ()), ())) a.length (r := .inl ((), ())) (by omega) (by
  intro g i hi
  have hi' : i < b.length := by omega
  obtain ⟨q, hq, e, e2⟩ := h i hi hi'
  have d0 : (i : Int) < ((a.length : Nat) : Int) := by omega
  have d1 : (0 : Int) ≤ (i : Int) := by omega
  have his := Is_ok hq hn (hb _ (List.getElem_mem hi')) hm
  rw [e2, decide_eq_true rfl] at his
  rw [dendronref10_All_s4, cnd d0, cnd d1, Int.toNat_natCast, List.getElem?_eq_getElem hi, Option.bind_some, cnd d1, List.getElem?_eq_getElem hi', Option.bind_some, e, his, Option.bind_some, iadd1 (by omega)]
  rfl) (by
  intro g
  rw [dendronref10_All_s4, cnd' (by omega)])
 have key' : lp dendronref10_All_s4 K0 ((a, b, 0, ()), ()) = some (.inl ((), ())) := key
 rw [dendronref10_All, decide_eq_true c0, key']
 rfl
theorem lp_all' {V T : Type} {step : (V → Option T) → V → Option T} (f : Nat → V) (n : Nat) (ok : Nat → Prop) (bad : Nat → T) (fin : T)
  (hs : ∀ i, i < n → (ok i ∧ ∀ g, step g (f i) = g (f (i + 1))) ∨ (¬ ok i ∧ ∀ g, step g (f i) = some (bad i))) (he : ∀ g, step g (f n) = some fin) :
  ∀ (d i m : Nat), i + d = n → d < m → (∀ j, j < i → ok j) → ((∀ i, i < n → ok i) ∧ lp step m (f i) = some fin) ∨ ∃ j, j < n ∧ ¬ ok j ∧ lp step m (f i) = some (bad j) := by
 intro d
 induction d with
 | zero =>
  intro i m hi hm hok
  obtain ⟨m, rfl⟩ : ∃ k, m = k + 1 := ⟨m - 1, by omega⟩
  have : i = n := by omega
  subst this
  exact .inl ⟨hok, he _⟩
 | succ d ih =>
  intro i m hi hm hok
  obtain ⟨m, rfl⟩ : ∃ k, m = k + 1 := ⟨m - 1, by omega⟩
  rcases hs i (by omega) with ⟨h1, h2⟩ | ⟨h1, h2⟩
  · have := ih (i + 1) m (by omega) (by omega) (fun j hj => by
     by_cases e : j = i
     · subst e; exact h1
     · exact hok j (by omega))
    have e : lp step (m + 1) (f i) = lp step m (f (i + 1)) := h2 _
    rw [e]; exact this
  · exact .inr ⟨i, by omega, h1, h2 _⟩
theorem lp_all {V T : Type} {step : (V → Option T) → V → Option T} (f : Nat → V) (n : Nat) (ok : Nat → Prop) (bad : Nat → T) (fin : T) (hn : n < 18446744073709551616)
  (hs : ∀ i, i < n → (ok i ∧ ∀ g, step g (f i) = g (f (i + 1))) ∨ (¬ ok i ∧ ∀ g, step g (f i) = some (bad i))) (he : ∀ g, step g (f n) = some fin) :
  ((∀ i, i < n → ok i) ∧ lp step K0 (f 0) = some fin) ∨ ∃ i, i < n ∧ ¬ ok i ∧ lp step K0 (f 0) = some (bad i) :=
 lp_all' f n ok bad fin hs he n 0 K0 (by omega) hn (fun j h => by omega)
abbrev nLeaf (n : NODE) : Bool := n.1
abbrev nFeat (n : NODE) : Int := n.2.1
abbrev nCut (n : NODE) : RAT := n.2.2.1
abbrev nL (n : NODE) : Int := n.2.2.2.1
abbrev nR (n : NODE) : Int := n.2.2.2.2.1
abbrev nMiss (n : NODE) : Bool := n.2.2.2.2.2.1
abbrev nVal (n : NODE) : RAT := n.2.2.2.2.2.2.1
abbrev nCov (n : NODE) : RAT := n.2.2.2.2.2.2.2
def NSz (n : NODE) (k : Nat) : Prop := SzR (nCut n) k ∧ SzR (nVal n) k ∧ SzR (nCov n) k
def TSz (t : List NODE) (k : Nat) : Prop := ∀ n ∈ t, NSz n k
def RangesP (t : List NODE) (f : Int) : Prop := ∀ i (h : i < t.length), nLeaf t[i] = false → 0 ≤ nFeat t[i] ∧ nFeat t[i] < f ∧ 1 ≤ nL t[i] ∧ nL t[i] < t.length ∧ 1 ≤ nR t[i] ∧ nR t[i] < t.length
def CoversP (t : List NODE) : Prop := ∀ i (h : i < t.length), 0 < rv (nCov t[i])
def cov (t : List NODE) (i : Nat) : Rat := rv (nCov ((t[i]?).getD (false, 0, ((false, []), []), 0, 0, false, ((false, []), []), ((false, []), []))))
theorem cov_get {t : List NODE} {i : Nat} (h : i < t.length) : cov t i = rv (nCov t[i]) := by simp [cov, h]
def SumsP (t : List NODE) : Prop := ∀ i (h : i < t.length), nLeaf t[i] = false → rv (nCov t[i]) = cov t (nL t[i]).toNat + cov t (nR t[i]).toNat
theorem ranges_ok {t : List NODE} {f : Int} (hl : t.length < 4294967296) : ∃ a e, valid_ranges t f = some (a, e) ∧ (e = 0 ↔ RangesP t f) := by
 rcases lp_all (step := valid_ranges_s2) (fun i => ((t, f, t, ((t.length : Nat) : Int), (i : Int), ()), ())) t.length
   (fun i => ∀ h : i < t.length, nLeaf t[i] = false → 0 ≤ nFeat t[i] ∧ nFeat t[i] < f ∧ 1 ≤ nL t[i] ∧ nL t[i] < t.length ∧ 1 ≤ nR t[i] ∧ nR t[i] < t.length)
   (fun i => .inr (((i : Int), 8, ()), ())) (.inl ((), ())) (by omega) (by
    intro i hi
    have d0 : (i : Int) < ((t.length : Nat) : Int) := by omega
    have d1 : (0 : Int) ≤ (i : Int) := by omega
    have head : ∀ g, valid_ranges_s2 g ((t, f, t, ((t.length : Nat) : Int), (i : Int), ()), ()) = bif nLeaf t[i] then (g ((t, f, t, ((t.length : Nat) : Int), ((i + 1 : Nat) : Int), ()), ())) else (bif (decide (nFeat t[i] < 0)) then (some (.inr (((i : Int), 8, ()), ()))) else (bif (decide (nFeat t[i] ≥ f)) then (some (.inr (((i : Int), 8, ()), ()))) else (bif (decide (nL t[i] < 1)) then (some (.inr (((i : Int), 8, ()), ()))) else (bif (decide (nL t[i] ≥ (t.length : Int))) then (some (.inr (((i : Int), 8, ()), ()))) else (bif (decide (nR t[i] < 1)) then (some (.inr (((i : Int), 8, ()), ()))) else (bif (decide (nR t[i] ≥ (t.length : Int))) then (some (.inr (((i : Int), 8, ()), ()))) else (g ((t, f, t, ((t.length : Nat) : Int), ((i + 1 : Nat) : Int), ()), ())))))))) := by
     intro g
     rw [valid_ranges_s2, cnd d0, cnd d1, Int.toNat_natCast, List.getElem?_eq_getElem hi, Option.bind_some, iadd1 (by omega)]
     rfl
    cases hleaf : nLeaf t[i] with
    | true => exact .inl ⟨fun h h2 => absurd h2 (by rw [hleaf]; decide), fun g => by rw [head, hleaf]; rfl⟩
    | false =>
     by_cases h : 0 ≤ nFeat t[i] ∧ nFeat t[i] < f ∧ 1 ≤ nL t[i] ∧ nL t[i] < t.length ∧ 1 ≤ nR t[i] ∧ nR t[i] < t.length
     · refine .inl ⟨fun _ _ => h, fun g => ?_⟩
       obtain ⟨h1, h2, h3, h4, h5, h6⟩ := h
       rw [head, hleaf, cond_false, cnd' (by omega), cnd' (by omega), cnd' (by omega), cnd' (by omega), cnd' (by omega), cnd' (by omega)]
     · refine .inr ⟨fun h' => h (h' hi hleaf), fun g => ?_⟩
       rw [head, hleaf, cond_false]
       by_cases h1 : nFeat t[i] < 0
       · rw [cnd h1]
       by_cases h2 : nFeat t[i] ≥ f
       · rw [cnd' h1, cnd h2]
       by_cases h3 : nL t[i] < 1
       · rw [cnd' h1, cnd' h2, cnd h3]
       by_cases h4 : nL t[i] ≥ (t.length : Int)
       · rw [cnd' h1, cnd' h2, cnd' h3, cnd h4]
       by_cases h5 : nR t[i] < 1
       · rw [cnd' h1, cnd' h2, cnd' h3, cnd' h4, cnd h5]
       by_cases h6 : nR t[i] ≥ (t.length : Int)
       · rw [cnd' h1, cnd' h2, cnd' h3, cnd' h4, cnd' h5, cnd h6]
       exfalso; apply h; omega) (by
    intro g
    rw [valid_ranges_s2, cnd' (by omega)]) with ⟨h, hlp⟩ | ⟨i, hi, h, hlp⟩
 · have hlp : lp valid_ranges_s2 K0 ((t, f, t, ((t.length : Nat) : Int), 0, ()), ()) = some (.inl ((), ())) := hlp
   refine ⟨0, 0, by rw [valid_ranges, hlp]; rfl, ?_⟩
   exact ⟨fun _ i hi => h i hi hi, fun _ => rfl⟩
 · have hlp : lp valid_ranges_s2 K0 ((t, f, t, ((t.length : Nat) : Int), 0, ()), ()) = some (.inr (((i : Int), 8, ()), ())) := hlp
   refine ⟨(i : Int), 8, by rw [valid_ranges, hlp]; rfl, ?_⟩
   exact ⟨fun e => (by cases e), fun hp => absurd (fun hh => hp i hh) h⟩
theorem covers_ok {t : List NODE} (hl : t.length < 4294967296) {k : Nat} (hs : TSz t k) (hk : k < 1099511627776) : ∃ a e, valid_covers t = some (a, e) ∧ (e = 0 ↔ CoversP t) := by
 rcases lp_all (step := valid_covers_s2) (fun i => ((t, ((t.length : Nat) : Int), (i : Int), ()), ())) t.length (fun i => ∀ h : i < t.length, 0 < rv (nCov t[i]))
   (fun i => .inr (((i : Int), 12, ()), ())) (.inl ((), ())) (by omega) (by
    intro i hi
    have d0 : (i : Int) < ((t.length : Nat) : Int) := by omega
    have d1 : (0 : Int) ≤ (i : Int) := by omega
    have hsg := ratio_Sign_ok ((hs _ (List.getElem_mem hi)).2.2.sm hk)
    have head : ∀ g, valid_covers_s2 g ((t, ((t.length : Nat) : Int), (i : Int), ()), ()) = bif decide (rcmp (rv (nCov t[i])) 0 ≤ 0) then some (.inr (((i : Int), 12, ()), ())) else g ((t, ((t.length : Nat) : Int), ((i + 1 : Nat) : Int), ()), ()) := by
      intro g
      rw [valid_covers_s2, cnd d0, cnd d1, Int.toNat_natCast, List.getElem?_eq_getElem hi, Option.bind_some, hsg, Option.bind_some, iadd1 (by omega)]
      rfl
    by_cases h : 0 < rv (nCov t[i])
    · exact .inl ⟨fun _ => h, fun g => by rw [head, cnd' (fun h' => Rat.not_le.2 h (rcmp_le.1 h'))]⟩
    · exact .inr ⟨fun h' => h (h' hi), fun g => by rw [head, cnd (rcmp_le.2 (Rat.not_lt.1 h))]⟩) (by
    intro g
    rw [valid_covers_s2, cnd' (by omega)]) with ⟨h, hlp⟩ | ⟨i, hi, h, hlp⟩
 · have hlp : lp valid_covers_s2 K0 ((t, ((t.length : Nat) : Int), 0, ()), ()) = some (.inl ((), ())) := hlp
   exact ⟨0, 0, by rw [valid_covers, hlp]; rfl, fun _ i hi => h i hi hi, fun _ => rfl⟩
 · have hlp : lp valid_covers_s2 K0 ((t, ((t.length : Nat) : Int), 0, ()), ()) = some (.inr (((i : Int), 12, ()), ())) := hlp
   exact ⟨(i : Int), 12, by rw [valid_covers, hlp]; rfl, fun e => (by cases e), fun hp => absurd (fun hh => hp i hh) h⟩
theorem sums_ok {t : List NODE} {f : Int} (hl : t.length < 4294967296) {k : Nat} (hs : TSz t k) (hk : k < 500000000000) (hr : RangesP t f) : ∃ a e, valid_sums t = some (a, e) ∧ (e = 0 ↔ SumsP t) := by
 rcases lp_all (step := valid_sums_s2) (fun i => ((t, t, ((t.length : Nat) : Int), (i : Int), ()), ())) t.length (fun i => ∀ h : i < t.length, nLeaf t[i] = false → rv (nCov t[i]) = cov t (nL t[i]).toNat + cov t (nR t[i]).toNat)
   (fun i => .inr (((i : Int), 13, ()), ())) (.inl ((), ())) (by omega) (by
    intro i hi
    have d0 : (i : Int) < ((t.length : Nat) : Int) := by omega
    have d1 : (0 : Int) ≤ (i : Int) := by omega
    cases hleaf : nLeaf t[i] with
    | true =>
     refine .inl ⟨fun h h2 => absurd h2 (by rw [hleaf]; decide), fun g => ?_⟩
     rw [valid_sums_s2, cnd d0, cnd d1, Int.toNat_natCast, List.getElem?_eq_getElem hi, Option.bind_some, show t[i].1 = true from hleaf, iadd1 (by omega)]
     rfl
    | false =>
     obtain ⟨r1, r2, r3, r4, r5, r6⟩ := hr i hi hleaf
     have l1 : (nL t[i]).toNat < t.length := by omega
     have l2 : (nR t[i]).toNat < t.length := by omega
     have c1 : (0 : Int) ≤ nL t[i] := by omega
     have c2 : (0 : Int) ≤ nR t[i] := by omega
     have z1 := (hs _ (List.getElem_mem l1)).2.2
     have z2 := (hs _ (List.getElem_mem l2)).2.2
     have z0 := (hs _ (List.getElem_mem hi)).2.2
     have hadd := ratio_Add_ok (z1.sm (by omega)) (z2.sm (by omega))
     rw [← cov_get l1, ← cov_get l2] at hadd
     have zz : SzQ (cov t (nL t[i]).toNat + cov t (nR t[i]).toNat) (max k 1 + max k 1 + 1) := by
       rw [cov_get l1, cov_get l2]
       have y1 : SzR (nCov t[(nL t[i]).toNat]) (max k 1) := ⟨Nat.le_trans z1.1 (Nat.le_max_left _ _), Nat.le_trans z1.2 (Nat.le_max_left _ _)⟩
       have y2 : SzR (nCov t[(nR t[i]).toNat]) (max k 1) := ⟨Nat.le_trans z2.1 (Nat.le_max_left _ _), Nat.le_trans z2.2 (Nat.le_max_left _ _)⟩
       exact (y1.szQ (by omega)).add (y2.szQ (by omega))
     have hsame := ratio_Same_ok (z0.sm (by omega)) (zz.sm (by omega))
     rw [rv_canQ] at hsame
     have head : ∀ g, valid_sums_s2 g ((t, t, ((t.length : Nat) : Int), (i : Int), ()), ()) = bif (!decide (rv (nCov t[i]) = cov t (nL t[i]).toNat + cov t (nR t[i]).toNat)) then some (.inr (((i : Int), 13, ()), ())) else g ((t, t, ((t.length : Nat) : Int), ((i + 1 : Nat) : Int), ()), ()) := by
       intro g
       rw [valid_sums_s2, cnd d0, cnd d1, Int.toNat_natCast, List.getElem?_eq_getElem hi, Option.bind_some, show t[i].1 = false from hleaf, Bool.not_false, cond_true, cnd c1, List.getElem?_eq_getElem l1, Option.bind_some, cnd c2, List.getElem?_eq_getElem l2, Option.bind_some, hadd, Option.bind_some, hsame, Option.bind_some, iadd1 (by omega)]
       rfl
     by_cases h : rv (nCov t[i]) = cov t (nL t[i]).toNat + cov t (nR t[i]).toNat
     · exact .inl ⟨fun _ _ => h, fun g => by rw [head, decide_eq_true h]; rfl⟩
     · exact .inr ⟨fun h' => h (h' hi hleaf), fun g => by rw [head, decide_eq_false h]; rfl⟩) (by
    intro g
    rw [valid_sums_s2, cnd' (by omega)]) with ⟨h, hlp⟩ | ⟨i, hi, h, hlp⟩
 · have hlp : lp valid_sums_s2 K0 ((t, t, ((t.length : Nat) : Int), 0, ()), ()) = some (.inl ((), ())) := hlp
   exact ⟨0, 0, by rw [valid_sums, hlp]; rfl, fun _ i hi => h i hi hi, fun _ => rfl⟩
 · have hlp : lp valid_sums_s2 K0 ((t, t, ((t.length : Nat) : Int), 0, ()), ()) = some (.inr (((i : Int), 13, ()), ())) := hlp
   exact ⟨(i : Int), 13, by rw [valid_sums, hlp]; rfl, fun e => (by cases e), fun hp => absurd (fun hh => hp i hh) h⟩
def kids (t : List NODE) (i : Nat) : List Nat :=
 match t[i]? with
 | some n => if nLeaf n then [] else [(nL n).toNat, (nR n).toNat]
 | none => []
theorem kids_leaf {t : List NODE} {i : Nat} (h : i < t.length) (hl : nLeaf t[i] = true) : kids t i = [] := by
 have hl' : t[i].1 = true := hl
 simp [kids, h, hl']
theorem kids_split {t : List NODE} {i : Nat} (h : i < t.length) (hl : nLeaf t[i] = false) : kids t i = [(nL t[i]).toNat, (nR t[i]).toNat] := by
 have hl' : t[i].1 = false := hl
 simp [kids, h, hl']
def cnt (t : List NODE) (i j : Nat) : Nat := ((List.range i).flatMap (kids t)).count j
theorem cnt_zero (t : List NODE) (j : Nat) : cnt t 0 j = 0 := by simp [cnt]
theorem cnt_succ (t : List NODE) (i j : Nat) : cnt t (i + 1) j = cnt t i j + (kids t i).count j := by
 simp [cnt, List.range_succ, List.flatMap_append]
theorem cnt_le (t : List NODE) (i j : Nat) : cnt t i j ≤ 2 * i := by
 induction i with
 | zero => simp [cnt_zero]
 | succ i ih =>
  rw [cnt_succ]
  have h1 : (kids t i).count j ≤ (kids t i).length := List.count_le_length
  have h2 : (kids t i).length ≤ 2 := by
   unfold kids
   split
   · split <;> simp
   · simp
  omega
def Ranked (t : List NODE) : Prop := ∃ rk : Nat → Nat, ∀ i, i < t.length → rk i ≤ t.length ∧ ∀ c ∈ kids t i, rk c < rk i
def ShapeP (t : List NODE) : Prop := (∀ j, 0 < j → j < t.length → cnt t t.length j = 1) ∧ Ranked t
theorem nodup_len : ∀ {n : Nat} {V : List Nat}, V.Nodup → (∀ x ∈ V, x < n) → V.length ≤ n
 | 0, V, _, h => by
  cases V with
  | nil => simp
  | cons x V => have := h x List.mem_cons_self; omega
 | n + 1, V, hnd, h => by
  by_cases hm : n ∈ V
  · have h1 : (V.erase n).Nodup := hnd.sublist List.erase_sublist
    have h2 : ∀ x ∈ V.erase n, x < n := by
     intro x hx
     have := (List.Nodup.mem_erase_iff hnd).1 hx
     have := h x this.2
     omega
    have h3 := nodup_len h1 h2
    have h4 := List.length_erase_of_mem hm
    omega
  · have := nodup_len hnd (n := n) (fun x hx => by
     have := h x hx
     have : x ≠ n := fun e => hm (e ▸ hx)
     omega)
    omega
section
variable {t : List NODE} {f : Int}
theorem kids_lt (hr : RangesP t f) {i c : Nat} (hi : i < t.length) (hc : c ∈ kids t i) : 0 < c ∧ c < t.length := by
 cases hl : nLeaf t[i] with
 | true => rw [kids_leaf hi hl] at hc; cases hc
 | false =>
  obtain ⟨_, _, h1, h2, h3, h4⟩ := hr i hi hl
  rw [kids_split hi hl] at hc
  simp at hc
  rcases hc with rfl | rfl <;> omega
theorem cnt_split (t : List NODE) (j : Nat) {a n : Nat} (ha : a < n) : (kids t a).count j ≤ cnt t n j := by
 induction n with
 | zero => omega
 | succ n ih =>
  rw [cnt_succ]
  by_cases e : a = n
  · subst e; omega
  · have := ih (by omega); omega
theorem cnt_two (t : List NODE) (j : Nat) {a b n : Nat} (hab : a < b) (hb : b < n) : (kids t a).count j + (kids t b).count j ≤ cnt t n j := by
 induction n with
 | zero => omega
 | succ n ih =>
  rw [cnt_succ]
  by_cases e : b = n
  · subst e
    have := cnt_split t j hab
    omega
  · have := ih (by omega); omega
theorem parent_one (hc : ∀ j, 0 < j → j < t.length → cnt t t.length j = 1) (hr : RangesP t f) {a b j : Nat} (ha : a < t.length) (hb : b < t.length) (h1 : j ∈ kids t a) (h2 : j ∈ kids t b) : a = b := by
 obtain ⟨j0, jl⟩ := kids_lt hr ha h1
 have c1 := List.count_pos_iff.2 h1
 have c2 := List.count_pos_iff.2 h2
 have := hc j j0 jl
 rcases Nat.lt_trichotomy a b with h | h | h
 · have := cnt_two t j h hb; omega
 · exact h
 · have := cnt_two t j h ha; omega
theorem kids_nodup (hc : ∀ j, 0 < j → j < t.length → cnt t t.length j = 1) (hr : RangesP t f) {a : Nat} (ha : a < t.length) : (kids t a).Nodup := by
 rw [List.nodup_iff_count]
 intro j
 by_cases hj : j ∈ kids t a
 · obtain ⟨j0, jl⟩ := kids_lt hr ha hj
   have h1 := cnt_split t j ha
   have h2 := hc j j0 jl
   exact Nat.le_trans h1 (Nat.le_of_eq h2)
 · rw [List.count_eq_zero_of_not_mem hj]; omega
theorem has_parent (hc : ∀ j, 0 < j → j < t.length → cnt t t.length j = 1) {j : Nat} (h0 : 0 < j) (hj : j < t.length) : ∃ p, p < t.length ∧ j ∈ kids t p := by
 have h1 := hc j h0 hj
 have h2 : j ∈ (List.range t.length).flatMap (kids t) := List.count_pos_iff.1 (by rw [← cnt, h1]; omega)
 obtain ⟨p, hp, hm⟩ := List.mem_flatMap.1 h2
 exact ⟨p, by simpa using hp, hm⟩
end
structure Srch (t : List NODE) (V S : List Nat) : Prop where
 nd : (V ++ S).Nodup
 lt : ∀ x ∈ V ++ S, x < t.length
 par : ∀ c ∈ V ++ S, c ≠ 0 → ∃ p ∈ V, c ∈ kids t p
 kid : ∀ p ∈ V, ∀ c ∈ kids t p, c ∈ V ++ S
 root : 0 ∈ V ++ S
 ord : V.Pairwise fun a b => a ∉ kids t b
 self : ∀ x ∈ V, x ∉ kids t x
theorem Srch.init {t : List NODE} (h : 0 < t.length) : Srch t [] [0] where
 nd := by simp
 lt := by simpa using h
 par := by simp
 kid := by simp
 root := by simp
 ord := List.Pairwise.nil
 self := by simp
theorem Srch.step {t : List NODE} {f : Int} (hc : ∀ j, 0 < j → j < t.length → cnt t t.length j = 1) (hr : RangesP t f) {V S : List Nat} {x : Nat} (h : Srch t V (S ++ [x])) : Srch t (V ++ [x]) (S ++ kids t x) := by
 have hxlt : x < t.length := h.lt x (by simp)
 have hnd := h.nd
 rw [← List.append_assoc, List.nodup_append] at hnd
 obtain ⟨n1, n2, n3⟩ := hnd
 have hxVS : x ∉ V ++ S := fun hx => n3 x hx x (by simp) rfl
 have hnew : ∀ c ∈ kids t x, c ∉ V ++ (S ++ [x]) := by
   intro c hcx hmem
   obtain ⟨c0, cl⟩ := kids_lt hr hxlt hcx
   obtain ⟨p, hp, hcp⟩ := h.par c hmem (by omega)
   have := parent_one hc hr (h.lt p (List.mem_append_left _ hp)) hxlt hcp hcx
   subst this
   exact hxVS (List.mem_append_left _ hp)
 have hperm : ((V ++ [x]) ++ (S ++ kids t x)).Perm ((V ++ (S ++ [x])) ++ kids t x) := by
   have e1 : (V ++ [x]) ++ (S ++ kids t x) = V ++ ([x] ++ S) ++ kids t x := by simp
   have e2 : (V ++ (S ++ [x])) ++ kids t x = V ++ (S ++ [x]) ++ kids t x := rfl
   rw [e1, e2]
   exact List.Perm.append_right _ (List.Perm.append_left _ List.perm_append_comm)
 have hmem : ∀ y, y ∈ (V ++ [x]) ++ (S ++ kids t x) ↔ y ∈ V ++ (S ++ [x]) ∨ y ∈ kids t x := by
   intro y; rw [hperm.mem_iff, List.mem_append]
 refine ⟨?_, ?_, ?_, ?_, ?_, ?_, ?_⟩
 · rw [hperm.nodup_iff, List.nodup_append]
   exact ⟨h.nd, kids_nodup hc hr hxlt, fun a ha b hb e => hnew b hb (e ▸ ha)⟩
 · intro y hy
   rcases (hmem y).1 hy with hy | hy
   · exact h.lt y hy
   · exact (kids_lt hr hxlt hy).2
 · intro c hcm hc0
   rcases (hmem c).1 hcm with hy | hy
   · obtain ⟨p, hp, hcp⟩ := h.par c hy hc0
     exact ⟨p, List.mem_append_left _ hp, hcp⟩
   · exact ⟨x, by simp, hy⟩
 · intro p hp c hcp
   rw [hmem]
   rcases List.mem_append.1 hp with hp | hp
   · exact .inl (h.kid p hp c hcp)
   · simp at hp; subst hp; exact .inr hcp
 · rw [hmem]; exact .inl h.root
 · rw [List.pairwise_append]
   refine ⟨h.ord, by simp, fun a ha b hb => ?_⟩
   simp at hb; subst hb
   intro hak
   exact hnew a hak (List.mem_append_left _ ha)
 · intro y hy
   rcases List.mem_append.1 hy with hy | hy
   · exact h.self y hy
   · simp at hy; subst hy
     intro hk
     exact hnew y hk (by simp)
theorem Srch.ranked {t : List NODE} {V : List Nat} (h : Srch t V []) (hall : ∀ i, i < t.length → i ∈ V) : Ranked t := by
 have hnd : V.Nodup := by simpa using h.nd
 have hlen : V.length ≤ t.length := nodup_len hnd (fun x hx => h.lt x (by simpa using hx))
 refine ⟨fun i => V.length - V.idxOf i, fun i hi => ⟨by show V.length - V.idxOf i ≤ t.length; omega, fun c hc => ?_⟩⟩
 have hiV := hall i hi
 have hcV : c ∈ V := by simpa using h.kid i hiV c hc
 have h1 : V.idxOf i < V.length := List.idxOf_lt_length_iff.2 hiV
 have h2 : V.idxOf c < V.length := List.idxOf_lt_length_iff.2 hcV
 have g1 : V[V.idxOf i] = i := List.getElem_idxOf h1
 have g2 : V[V.idxOf c] = c := List.getElem_idxOf h2
 have hne : ¬ V.idxOf c ≤ V.idxOf i := by
  intro hle
  by_cases e : V.idxOf c = V.idxOf i
  · have : c = i := by rw [← g1, ← g2]; simp [e]
    subst this
    exact h.self c hiV hc
  · have := List.pairwise_iff_getElem.1 h.ord _ _ h2 h1 (by omega)
    rw [g1, g2] at this
    exact this hc
 show V.length - V.idxOf c < V.length - V.idxOf i
 omega
theorem Srch.all {t : List NODE} {V : List Nat} (h : Srch t V []) (hc : ∀ j, 0 < j → j < t.length → cnt t t.length j = 1) (hrk : Ranked t) : ∀ i, i < t.length → i ∈ V := by
 obtain ⟨rk, hrk⟩ := hrk
 have key : ∀ (d i : Nat), i < t.length → t.length - rk i ≤ d → i ∈ V := by
  intro d
  induction d with
  | zero =>
   intro i hi hd
   by_cases h0 : i = 0
   · subst h0; simpa using h.root
   · obtain ⟨p, hp, hm⟩ := has_parent hc (by omega) hi
     have h1 := (hrk p hp).1
     have h2 := (hrk p hp).2 i hm
     omega
  | succ d ih =>
   intro i hi hd
   by_cases h0 : i = 0
   · subst h0; simpa using h.root
   · obtain ⟨p, hp, hm⟩ := has_parent hc (by omega) hi
     have h1 := (hrk p hp).1
     have h2 := (hrk p hp).2 i hm
     have := ih p hp (by omega)
     simpa using h.kid p this i hm
 exact fun i hi => key _ i hi (Nat.le_refl _)
def cntL (t : List NODE) (i : Nat) : List Int := (List.range t.length).map fun j => ((cnt t i j : Nat) : Int)
@[simp] theorem cntL_len (t : List NODE) (i : Nat) : (cntL t i).length = t.length := by simp [cntL]
theorem cntL_get {t : List NODE} {i j : Nat} (h : j < t.length) : (cntL t i)[j]? = some ((cnt t i j : Nat) : Int) := by simp [cntL, h]
theorem cntL_step {t : List NODE} {i a b : Nat} (ha : a < t.length) (hb : b < t.length) (hk : kids t i = [a, b]) :
   ((cntL t i).set a (((cnt t i a : Nat) : Int) + 1))[b]? = some ((cnt t i b + (if a = b then 1 else 0) : Nat) : Int) ∧
   ((cntL t i).set a (((cnt t i a : Nat) : Int) + 1)).set b (((cnt t i b + (if a = b then 1 else 0) : Nat) : Int) + 1) = cntL t (i + 1) := by
 constructor
 · rw [List.getElem?_set]
   by_cases e : a = b
   · subst e; simp [ha]
   · rw [if_neg e, cntL_get hb]; simp [e]
 · apply List.ext_getElem?
   intro j
   by_cases hj : j < t.length
   · rw [cntL_get hj, cnt_succ, hk, List.getElem?_set, List.getElem?_set]
     by_cases e1 : b = j
     · subst e1
       by_cases e2 : a = b
       · subst e2; simp [ha]; omega
       · simp [hb, e2, List.count_cons]
     · by_cases e2 : a = j
       · subst e2; simp [ha, e1, List.count_cons]
       · rw [if_neg e1, if_neg e2, cntL_get hj]; simp [List.count_cons, e1, e2]
   · rw [List.getElem?_eq_none (by simp; omega), List.getElem?_eq_none (by simp; omega)]
theorem shape_count {t : List NODE} {f : Int} (hl : t.length < 4294967296) (hr : RangesP t f) :
  lp valid_shape_s3 K0 ((t, List.replicate t.length 0, t, ((t.length : Nat) : Int), 0, ()), ()) = some ((t, cntL t t.length, ()), ()) := by
 have e0 : cntL t 0 = List.replicate t.length 0 := by simp [cntL, cnt_zero, List.map_const']
 have := lp_up (step := valid_shape_s3) (fun i => ((t, cntL t i, t, ((t.length : Nat) : Int), (i : Int), ()), ())) t.length (r := ((t, cntL t t.length, ()), ())) (by omega) (by
  intro g i hi
  have d0 : (i : Int) < ((t.length : Nat) : Int) := by omega
  have d1 : (0 : Int) ≤ (i : Int) := by omega
  cases hleaf : nLeaf t[i] with
  | true =>
   have : cntL t (i + 1) = cntL t i := by
    unfold cntL
    congr 1
    funext j
    rw [cnt_succ, kids_leaf hi hleaf]; simp
   rw [valid_shape_s3, cnd d0, cnd d1, Int.toNat_natCast, List.getElem?_eq_getElem hi, Option.bind_some, show t[i].1 = true from hleaf, iadd1 (by omega), this]
   rfl
  | false =>
   obtain ⟨r1, r2, r3, r4, r5, r6⟩ := hr i hi hleaf
   have hk := kids_split hi hleaf
   have l1 : (nL t[i]).toNat < t.length := by omega
   have l2 : (nR t[i]).toNat < t.length := by omega
   have c1 : (0 : Int) ≤ nL t[i] := by omega
   have c2 : (0 : Int) ≤ nR t[i] := by omega
   have c3 : nL t[i] < ((cntL t i).length : Int) := by rw [cntL_len]; omega
   obtain ⟨s1, s2⟩ := cntL_step l1 l2 hk
   have b1 := cnt_le t i (nL t[i]).toNat
   have b2 := cnt_le t i (nR t[i]).toNat
   have e1 : iadd .i64 ((cnt t i (nL t[i]).toNat : Nat) : Int) 1 = ((cnt t i (nL t[i]).toNat : Nat) : Int) + 1 := iadd1 (by omega)
   have e2 : iadd .i64 ((cnt t i (nR t[i]).toNat + (if (nL t[i]).toNat = (nR t[i]).toNat then 1 else 0) : Nat) : Int) 1 = ((cnt t i (nR t[i]).toNat + (if (nL t[i]).toNat = (nR t[i]).toNat then 1 else 0) : Nat) : Int) + 1 := iadd1 (by split <;> omega)
   have c4 : nR t[i] < (((cntL t i).set (nL t[i]).toNat (((cnt t i (nL t[i]).toNat : Nat) : Int) + 1)).length : Int) := by rw [List.length_set, cntL_len]; omega
   rw [valid_shape_s3, cnd d0, cnd d1, Int.toNat_natCast, List.getElem?_eq_getElem hi, Option.bind_some, show t[i].1 = false from hleaf, Bool.not_false, cond_true, cnd2 c1 c3, cntL_get l1, Option.bind_some, cnd2 c1 c3, Option.bind_some, e1, cnd2 c2 c4, s1, Option.bind_some, cnd2 c2 c4, Option.bind_some, e2, s2, iadd1 (by omega)]
   rfl) (by
  intro g
  rw [valid_shape_s3, cnd' (by omega)])
 rw [← e0]
 exact this
theorem shape_search {t : List NODE} {f : Int} (hl : t.length < 4294967296) (h0 : 0 < t.length) (hr : RangesP t f) (hc : ∀ j, 0 < j → j < t.length → cnt t t.length j = 1) :
  ∃ V, Srch t V [] ∧ lp valid_shape_s17 K0 ((t, List.replicate t.length false, [0], ()), ()) = some ((usedOf t.length V, ()), ()) := by
 obtain ⟨r, ⟨V, hV, rfl⟩, hlp⟩ := lp_wf (step := valid_shape_s17) (fun s => ∃ V S : List Nat, Srch t V S ∧ s = ((t, usedOf t.length V, ints S, ()), ())) (fun s => t.length + 1 - (s.1.2.1.filter id).length)
  (fun r => ∃ V, Srch t V [] ∧ r = ((usedOf t.length V, ()), ())) (v := ((t, List.replicate t.length false, [0], ()), ()))
  ⟨[], [0], Srch.init h0, by simp [usedOf, ints, List.map_const']⟩ (by simp; omega) (by
   rintro s ⟨V, S, hS, rfl⟩
   rcases List.eq_nil_or_concat S with rfl | ⟨S', x, hSx⟩
   · exact .inl ⟨_, ⟨V, hS, rfl⟩, fun g => by rw [valid_shape_s17, cnd' (by simp [ints])]⟩
   · rw [List.concat_eq_append] at hSx
     subst hSx
     have hnd := hS.nd
     have hVl : (V ++ (S' ++ [x])).length ≤ t.length := nodup_len hnd hS.lt
     have hSl : S'.length + 1 ≤ t.length := by simp at hVl; omega
     have hxlt : x < t.length := hS.lt x (by simp)
     have hst := Srch.step hc hr hS
     have hxV : x ∉ V := by
       intro hx
       rw [List.nodup_append] at hnd
       exact hnd.2.2 x hx x (by simp) rfl
     have hcount : ∀ U : List Nat, U.Nodup → (∀ y ∈ U, y < t.length) → ((usedOf t.length U).filter id).length = U.length := by
       intro U hU hlt
       have e1 : ((usedOf t.length U).filter id).length = ((List.range t.length).filter fun j => decide (j ∈ U)).length := by
         unfold usedOf
         rw [List.filter_map, List.length_map]; rfl
       rw [e1]
       refine List.Perm.length_eq ?_
       rw [List.perm_iff_count]
       intro a
       have n1 : ((List.range t.length).filter fun j => decide (j ∈ U)).Nodup := List.Nodup.sublist List.filter_sublist List.nodup_range
       have m1 : a ∈ ((List.range t.length).filter fun j => decide (j ∈ U)) ↔ a ∈ U := by
         simp; exact hlt a
       by_cases ha : a ∈ U
       · rw [List.Nodup.count hU, if_pos ha, List.Nodup.count n1, if_pos (m1.2 ha)]
       · rw [List.count_eq_zero_of_not_mem ha, List.count_eq_zero_of_not_mem (fun h => ha (m1.1 h))]
     have hVnd : V.Nodup := (List.nodup_append.1 hnd).1
     have hm1 := hcount V hVnd (fun y hy => hS.lt y (List.mem_append_left _ hy))
     have hVx : (V ++ [x]).Nodup := (List.nodup_append.1 hst.nd).1
     have hm2 := hcount (V ++ [x]) hVx (fun y hy => hst.lt y (List.mem_append_left _ hy))
     refine .inr ⟨_, ⟨V ++ [x], S' ++ kids t x, hst, rfl⟩, ?_, fun g => ?_⟩
     · show t.length + 1 - ((usedOf t.length (V ++ [x])).filter id).length < t.length + 1 - ((usedOf t.length V).filter id).length
       rw [hm1, hm2]
       simp at hVl ⊢; omega
     · have hlen : (ints (S' ++ [x])).length = S'.length + 1 := by simp
       have e1 : isub .i64 ((S'.length + 1 : Nat) : Int) 1 = ((S'.length : Nat) : Int) := by rw [isub_i] <;> omega
       have c0 : ((S'.length + 1 : Nat) : Int) > 0 := by omega
       have c1 : (0 : Int) ≤ ((S'.length : Nat) : Int) := by omega
       have c2 : ((S'.length : Nat) : Int) < ((S'.length + 1 : Nat) : Int) := by omega
       have g1 : (ints (S' ++ [x]))[S'.length]? = some ((x : Nat) : Int) := by simp [ints]
       have c3 : (decide ((0 : Int) ≤ ((S'.length : Nat) : Int)) && decide (((S'.length : Nat) : Int) ≤ ((S'.length : Nat) : Int)) && decide (((S'.length : Nat) : Int) ≤ ((S'.length + 1 : Nat) : Int))) = true := by
         rw [decide_eq_true c1, decide_eq_true (Int.le_refl _), decide_eq_true (Int.le_of_lt c2)]; rfl
       have c4 : (0 : Int) ≤ ((x : Nat) : Int) := by omega
       have c5 : ((x : Nat) : Int) < ((usedOf t.length V).length : Int) := by simp; omega
       have e2 : (((S'.length : Nat) : Int) - 0).toNat = S'.length := by omega
       have e3 : (ints (S' ++ [x])).take S'.length = ints S' := by simp [ints]
       rw [valid_shape_s17, hlen, cnd c0, e1, cnd2 c1 c2, Int.toNat_natCast, g1, Option.bind_some, c3, cond_true, cnd2 c4 c5, Int.toNat_natCast, usedOf_get hxlt, Option.bind_some, cnd c4, List.getElem?_eq_getElem hxlt, Option.bind_some, usedOf_set hxlt, e2, e3]
       cases hleaf : nLeaf t[x] with
       | true =>
         rw [show t[x].1 = true from hleaf, kids_leaf hxlt hleaf, List.append_nil]
         rfl
       | false =>
         obtain ⟨r1, r2, r3, r4, r5, r6⟩ := hr x hxlt hleaf
         have q1 : (((nL t[x]).toNat : Nat) : Int) = nL t[x] := by omega
         have q2 : (((nR t[x]).toNat : Nat) : Int) = nR t[x] := by omega
         have e4 : ints (S' ++ kids t x) = ints S' ++ [nL t[x], nR t[x]] := by
          rw [kids_split hxlt hleaf]
          simp only [ints, List.map_append, List.map_cons, List.map_nil, q1, q2]
         have hb8 : ((ints S').length + 2) * 8 ≤ 140737488355328 := by rw [ints_len]; omega
         rw [show t[x].1 = false from hleaf, blt hb8, cond_true, Bool.not_false, cond_true, e4])
 exact ⟨V, hV, hlp⟩
theorem shape_ok {t : List NODE} {f : Int} (hl : t.length < 4294967296) (h0 : 0 < t.length) (hr : RangesP t f) : ∃ a e, valid_shape t = some (a, e) ∧ (e = 0 ↔ ShapeP t) := by
 have hcount := shape_count hl hr
 have gd : (decide ((t.length : Int) = (t.length : Int)) && decide (0 ≤ (t.length : Int)) && decide (((8 : Nat) : Int) * (t.length : Int) ≤ 281474976710656) && decide ((t.length : Int) ≤ 9223372036854775807)) = true := by
   have h1 : (0 : Int) ≤ (t.length : Int) := by omega
   have h2 : ((8 : Nat) : Int) * (t.length : Int) ≤ 281474976710656 := by omega
   have h3 : (t.length : Int) ≤ 9223372036854775807 := by omega
   rw [decide_eq_true h1, decide_eq_true h2, decide_eq_true h3, decide_eq_true rfl]; rfl
 have gd1 : (decide ((t.length : Int) = (t.length : Int)) && decide (0 ≤ (t.length : Int)) && decide (((1 : Nat) : Int) * (t.length : Int) ≤ 281474976710656) && decide ((t.length : Int) ≤ 9223372036854775807)) = true := by
   have h1 : (0 : Int) ≤ (t.length : Int) := by omega
   have h2 : ((1 : Nat) : Int) * (t.length : Int) ≤ 281474976710656 := by omega
   have h3 : (t.length : Int) ≤ 9223372036854775807 := by omega
   rw [decide_eq_true h1, decide_eq_true h2, decide_eq_true h3, decide_eq_true rfl]; rfl
 rw [valid_shape, gd, cond_true, Int.toNat_natCast, hcount, Option.bind_some, cntL_len]
 rcases lp_all (step := valid_shape_s10) (fun i => ((t, cntL t t.length, ((t.length : Nat) : Int), (i : Int), ()), ())) t.length (fun i => i = 0 ∨ cnt t t.length i = 1) (fun i => .inr (((i : Int), 11, ()), ())) (.inl ((t, ()), ())) (by omega) (by
     intro i hi
     have d0 : (i : Int) < ((t.length : Nat) : Int) := by omega
     have d1 : (0 : Int) ≤ (i : Int) := by omega
     have d2 : (i : Int) < ((cntL t t.length).length : Int) := by rw [cntL_len]; omega
     by_cases hi0 : i = 0
     · refine .inl ⟨.inl hi0, fun g => ?_⟩
       rw [valid_shape_s10, cnd d0, cnd2 d1 d2, Int.toNat_natCast, cntL_get hi, Option.bind_some, cnd' (by omega), iadd1 (by omega)]
       rfl
     · by_cases h1 : cnt t t.length i = 1
       · refine .inl ⟨.inr h1, fun g => ?_⟩
         rw [valid_shape_s10, cnd d0, cnd2 d1 d2, Int.toNat_natCast, cntL_get hi, Option.bind_some, cnd (by omega), decide_eq_true (by omega), iadd1 (by omega)]
         rfl
       · refine .inr ⟨fun h => by rcases h with h | h <;> contradiction, fun g => ?_⟩
         rw [valid_shape_s10, cnd d0, cnd2 d1 d2, Int.toNat_natCast, cntL_get hi, Option.bind_some, cnd (by omega), decide_eq_false (by omega)]
         rfl) (by
     intro g
     rw [valid_shape_s10, cnd' (by omega)]) with ⟨h, hlp⟩ | ⟨i, hi, h, hlp⟩
 · have hlp : lp valid_shape_s10 K0 ((t, cntL t t.length, ((t.length : Nat) : Int), 0, ()), ()) = some (.inl ((t, ()), ())) := hlp
   have hc : ∀ j, 0 < j → j < t.length → cnt t t.length j = 1 := fun j h1 h2 => by
     rcases h j h2 with h3 | h3
     · omega
     · exact h3
   obtain ⟨V, hV, hlp2⟩ := shape_search hl h0 hr hc
   rw [hlp, Option.bind_some]
   dsimp only
   rw [gd1, cond_true, Int.toNat_natCast, hlp2, Option.bind_some]
   dsimp only
   rw [usedOf_len]
   rcases lp_all (step := valid_shape_s25) (fun i => ((usedOf t.length V, ((t.length : Nat) : Int), (i : Int), ()), ())) t.length (fun i => i ∈ V) (fun i => .inr (((i : Int), 11, ()), ())) (.inl ((), ())) (by omega) (by
       intro i hi
       have d0 : (i : Int) < ((t.length : Nat) : Int) := by omega
       have d1 : (0 : Int) ≤ (i : Int) := by omega
       have d2 : (i : Int) < ((usedOf t.length V).length : Int) := by rw [usedOf_len]; omega
       by_cases hiV : i ∈ V
       · refine .inl ⟨hiV, fun g => ?_⟩
         rw [valid_shape_s25, cnd d0, cnd2 d1 d2, Int.toNat_natCast, usedOf_get hi, Option.bind_some, decide_eq_true hiV, iadd1 (by omega)]
         rfl
       · refine .inr ⟨hiV, fun g => ?_⟩
         rw [valid_shape_s25, cnd d0, cnd2 d1 d2, Int.toNat_natCast, usedOf_get hi, Option.bind_some, decide_eq_false hiV]
         rfl) (by
       intro g
       rw [valid_shape_s25, cnd' (by omega)]) with ⟨h2, hlp3⟩ | ⟨i, hi, h2, hlp3⟩
   · have hlp3 : lp valid_shape_s25 K0 ((usedOf t.length V, ((t.length : Nat) : Int), 0, ()), ()) = some (.inl ((), ())) := hlp3
     rw [hlp3]
     exact ⟨0, 0, rfl, fun _ => ⟨hc, hV.ranked h2⟩, fun _ => rfl⟩
   · have hlp3 : lp valid_shape_s25 K0 ((usedOf t.length V, ((t.length : Nat) : Int), 0, ()), ()) = some (.inr (((i : Int), 11, ()), ())) := hlp3
     rw [hlp3]
     exact ⟨(i : Int), 11, rfl, fun e => (by cases e), fun hp => absurd (hV.all hc hp.2 i hi) h2⟩
 · have hlp : lp valid_shape_s10 K0 ((t, cntL t t.length, ((t.length : Nat) : Int), 0, ()), ()) = some (.inr (((i : Int), 11, ()), ())) := hlp
   rw [hlp]
   refine ⟨(i : Int), 11, rfl, fun e => (by cases e), fun hp => ?_⟩
   exfalso; apply h
   by_cases hi0 : i = 0
   · exact .inl hi0
   · exact .inr (hp.1 i (by omega) hi)
theorem lp_allh' {V T : Type} {step : (V → Option T) → V → Option T} (f : Nat → V) (n : Nat) (ok : Nat → Prop) (Q : T → Prop) (fin : T)
  (hs : ∀ i, i < n → (∀ j, j < i → ok j) → (ok i ∧ ∀ g, step g (f i) = g (f (i + 1))) ∨ (¬ ok i ∧ ∃ r, Q r ∧ ∀ g, step g (f i) = some r)) (he : ∀ g, step g (f n) = some fin) :
  ∀ (d i m : Nat), i + d = n → d < m → (∀ j, j < i → ok j) → ((∀ i, i < n → ok i) ∧ lp step m (f i) = some fin) ∨ (¬ (∀ i, i < n → ok i) ∧ ∃ r, Q r ∧ lp step m (f i) = some r) := by
 intro d
 induction d with
 | zero =>
  intro i m hi hm hok
  obtain ⟨m, rfl⟩ : ∃ k, m = k + 1 := ⟨m - 1, by omega⟩
  have : i = n := by omega
  subst this
  exact .inl ⟨hok, he _⟩
 | succ d ih =>
  intro i m hi hm hok
  obtain ⟨m, rfl⟩ : ∃ k, m = k + 1 := ⟨m - 1, by omega⟩
  rcases hs i (by omega) hok with ⟨h1, h2⟩ | ⟨h1, r, h2, h3⟩
  · have := ih (i + 1) m (by omega) (by omega) (fun j hj => by
     by_cases e : j = i
     · subst e; exact h1
     · exact hok j (by omega))
    have e : lp step (m + 1) (f i) = lp step m (f (i + 1)) := h2 _
    rw [e]; exact this
  · exact .inr ⟨fun h => h1 (h i (by omega)), r, h2, h3 _⟩
theorem lp_allh {V T : Type} {step : (V → Option T) → V → Option T} (f : Nat → V) (n : Nat) (ok : Nat → Prop) (Q : T → Prop) (fin : T) (hn : n < 18446744073709551616)
  (hs : ∀ i, i < n → (∀ j, j < i → ok j) → (ok i ∧ ∀ g, step g (f i) = g (f (i + 1))) ∨ (¬ ok i ∧ ∃ r, Q r ∧ ∀ g, step g (f i) = some r)) (he : ∀ g, step g (f n) = some fin) :
  ((∀ i, i < n → ok i) ∧ lp step K0 (f 0) = some fin) ∨ (¬ (∀ i, i < n → ok i) ∧ ∃ r, Q r ∧ lp step K0 (f 0) = some r) :=
 lp_allh' f n ok Q fin hs he n 0 K0 (by omega) hn (fun j h => by omega)
def NodeFits (n : NODE) : Prop := 0 ≤ nFeat n ∧ nFeat n ≤ 64 ∧ 0 ≤ nL n ∧ nL n ≤ 255 ∧ 0 ≤ nR n ∧ nR n ≤ 255
def TreeFits (t : List NODE) : Prop := 1 ≤ t.length ∧ t.length ≤ 255 ∧ ∀ i (h : i < t.length), NodeFits t[i]
def FitsP (m : MODEL) : Prop := 0 ≤ m.1 ∧ m.1 ≤ 64 ∧ m.2.length ≤ 64 ∧ ∀ i (h : i < m.2.length), TreeFits m.2[i]
theorem fits_inner (a : List (List NODE)) (b c : Int) {t : List NODE} (hl : t.length < 4294967296) :
   ((∀ i (h : i < t.length), NodeFits t[i]) ∧ lp model_Fits_s9 K0 ((a, b, c, t, ((t.length : Nat) : Int), 0, ()), ()) = some (.inl ((a, b, c, ()), ()))) ∨
   (¬ (∀ i (h : i < t.length), NodeFits t[i]) ∧ lp model_Fits_s9 K0 ((a, b, c, t, ((t.length : Nat) : Int), 0, ()), ()) = some (.inr ((false, ()), ()))) := by
 rcases lp_all (step := model_Fits_s9) (fun i => ((a, b, c, t, ((t.length : Nat) : Int), (i : Int), ()), ())) t.length (fun i => ∀ h : i < t.length, NodeFits t[i]) (fun i => .inr ((false, ()), ())) (.inl ((a, b, c, ()), ())) (by omega) (by
    intro i hi
    have d0 : (i : Int) < ((t.length : Nat) : Int) := by omega
    have d1 : (0 : Int) ≤ (i : Int) := by omega
    have head : ∀ g, model_Fits_s9 g ((a, b, c, t, ((t.length : Nat) : Int), (i : Int), ()), ()) = bif (decide (nFeat t[i] < 0)) then (some (.inr ((false, ()), ()))) else (bif (decide (nFeat t[i] > 64)) then (some (.inr ((false, ()), ()))) else (bif (decide (nL t[i] < 0)) then (some (.inr ((false, ()), ()))) else (bif (decide (nL t[i] > 255)) then (some (.inr ((false, ()), ()))) else (bif (decide (nR t[i] < 0)) then (some (.inr ((false, ()), ()))) else (bif (decide (nR t[i] > 255)) then (some (.inr ((false, ()), ()))) else (g ((a, b, c, t, ((t.length : Nat) : Int), ((i + 1 : Nat) : Int), ()), ()))))))) := by
      intro g
      rw [model_Fits_s9, cnd d0, cnd d1, Int.toNat_natCast, List.getElem?_eq_getElem hi, Option.bind_some, iadd1 (by omega)]
      rfl
    by_cases h : NodeFits t[i]
    · refine .inl ⟨fun _ => h, fun g => ?_⟩
      obtain ⟨h1, h2, h3, h4, h5, h6⟩ := h
      rw [head, cnd' (by omega), cnd' (by omega), cnd' (by omega), cnd' (by omega), cnd' (by omega), cnd' (by omega)]
    · refine .inr ⟨fun h' => h (h' hi), fun g => ?_⟩
      rw [head]
      by_cases h1 : nFeat t[i] < 0
      · rw [cnd h1]
      by_cases h2 : nFeat t[i] > 64
      · rw [cnd' h1, cnd h2]
      by_cases h3 : nL t[i] < 0
      · rw [cnd' h1, cnd' h2, cnd h3]
      by_cases h4 : nL t[i] > 255
      · rw [cnd' h1, cnd' h2, cnd' h3, cnd h4]
      by_cases h5 : nR t[i] < 0
      · rw [cnd' h1, cnd' h2, cnd' h3, cnd' h4, cnd h5]
      by_cases h6 : nR t[i] > 255
      · rw [cnd' h1, cnd' h2, cnd' h3, cnd' h4, cnd' h5, cnd h6]
      exfalso; apply h; unfold NodeFits; omega) (by
    intro g
    rw [model_Fits_s9, cnd' (by omega)]) with ⟨h, hlp⟩ | ⟨i, hi, h, hlp⟩
 · exact .inl ⟨fun i hi => h i hi hi, hlp⟩
 · exact .inr ⟨fun hh => h (fun hi => hh i hi), hlp⟩
theorem Fits_ok {m : MODEL} (hl : m.2.length < 4294967296) (ht : ∀ t ∈ m.2, t.length < 4294967296) : ∃ b, model_Fits m = some b ∧ (b = true ↔ FitsP m) := by
 unfold model_Fits
 by_cases h1 : m.1 < 0
 · exact ⟨false, by rw [cnd h1], fun h => (by cases h), fun h => by have := h.1; omega⟩
 by_cases h2 : m.1 > 64
 · exact ⟨false, by rw [cnd' h1, cnd h2], fun h => (by cases h), fun h => by have := h.2.1; omega⟩
 by_cases h3 : ((m.2.length : Nat) : Int) > 64
 · exact ⟨false, by rw [cnd' h1, cnd' h2, cnd h3], fun h => (by cases h), fun h => by have := h.2.2.1; omega⟩
 rw [cnd' h1, cnd' h2, cnd' h3]
 rcases lp_all (step := model_Fits_s4) (fun i => ((m.2, ((m.2.length : Nat) : Int), (i : Int), ()), ())) m.2.length (fun i => ∀ h : i < m.2.length, TreeFits m.2[i]) (fun i => .inr ((false, ()), ())) (.inl ((), ())) (by omega) (by
    intro i hi
    have d0 : (i : Int) < ((m.2.length : Nat) : Int) := by omega
    have d1 : (0 : Int) ≤ (i : Int) := by omega
    have hti := ht _ (List.getElem_mem hi)
    by_cases g1 : ((m.2[i].length : Nat) : Int) < 1
    · refine .inr ⟨fun h => by have := (h hi).1; omega, fun g => ?_⟩
      rw [model_Fits_s4, cnd d0, cnd d1, Int.toNat_natCast, List.getElem?_eq_getElem hi, Option.bind_some, cnd g1]
    by_cases g2 : ((m.2[i].length : Nat) : Int) > 255
    · refine .inr ⟨fun h => by have := (h hi).2.1; omega, fun g => ?_⟩
      rw [model_Fits_s4, cnd d0, cnd d1, Int.toNat_natCast, List.getElem?_eq_getElem hi, Option.bind_some, cnd' g1, cnd g2]
    rcases fits_inner m.2 ((m.2.length : Nat) : Int) (i : Int) hti with ⟨h, hlp⟩ | ⟨h, hlp⟩
    · refine .inl ⟨fun _ => ⟨by omega, by omega, h⟩, fun g => ?_⟩
      rw [model_Fits_s4, cnd d0, cnd d1, Int.toNat_natCast, List.getElem?_eq_getElem hi, Option.bind_some, cnd' g1, cnd' g2, hlp, Option.bind_some]
      dsimp only
      rw [iadd1 (by omega)]
      rfl
    · refine .inr ⟨fun hh => h (hh hi).2.2, fun g => ?_⟩
      rw [model_Fits_s4, cnd d0, cnd d1, Int.toNat_natCast, List.getElem?_eq_getElem hi, Option.bind_some, cnd' g1, cnd' g2, hlp, Option.bind_some]) (by
    intro g
    rw [model_Fits_s4, cnd' (by omega)]) with ⟨h, hlp⟩ | ⟨i, hi, h, hlp⟩
 · have hlp : lp model_Fits_s4 K0 ((m.2, ((m.2.length : Nat) : Int), 0, ()), ()) = some (.inl ((), ())) := hlp
   exact ⟨true, by rw [hlp]; rfl, fun _ => ⟨by omega, by omega, by omega, fun i hi => h i hi hi⟩, fun _ => rfl⟩
 · have hlp : lp model_Fits_s4 K0 ((m.2, ((m.2.length : Nat) : Int), 0, ()), ()) = some (.inr ((false, ()), ())) := hlp
   exact ⟨false, by rw [hlp]; rfl, fun h' => (by cases h'), fun hp => absurd (fun hh => hp.2.2.2 i hh) h⟩
def RuleP (f : Int) : Nat → List NODE → Prop
 | 0, t => RangesP t f
 | 1, t => ShapeP t
 | 2, t => CoversP t
 | _, t => SumsP t
def Good (m : MODEL) : Prop := FitsP m ∧ ∀ r, r < 4 → ∀ i (h : i < m.2.length), RuleP m.1 r m.2[i]
theorem Good.ranges {m : MODEL} (h : Good m) {i : Nat} (hi : i < m.2.length) : RangesP m.2[i] m.1 := h.2 0 (by decide) i hi
theorem Good.shape {m : MODEL} (h : Good m) {i : Nat} (hi : i < m.2.length) : ShapeP m.2[i] := h.2 1 (by decide) i hi
theorem Good.covers {m : MODEL} (h : Good m) {i : Nat} (hi : i < m.2.length) : CoversP m.2[i] := h.2 2 (by decide) i hi
def MSz (m : MODEL) (k : Nat) : Prop := ∀ t ∈ m.2, TSz t k
theorem check_inner {m : MODEL} {k : Nat} (hf : FitsP m) (hs : MSz m k) (hk : k < 500000000000) {r : Nat} (hr : r < 4) (hlow : ∀ r', r' < r → ∀ i (h : i < m.2.length), RuleP m.1 r' m.2[i]) (z : Int × Int × Int × Int) :
   ((∀ i (h : i < m.2.length), RuleP m.1 r m.2[i]) ∧ lp valid_Check_s7 K0 (((r : Int), (r : Int), m.2, ((m.2.length : Nat) : Int), 0, ()), ((m.1, m.2, ()), (z.1, z.2.1, z.2.2.1, z.2.2.2, ()), ())) = some (.inl (((r : Int), ()), ((m.1, m.2, ()), (z.1, z.2.1, z.2.2.1, z.2.2.2, ()), ())))) ∨
   (¬ (∀ i (h : i < m.2.length), RuleP m.1 r m.2[i]) ∧ ∃ e a b c, e ≠ 0 ∧ lp valid_Check_s7 K0 (((r : Int), (r : Int), m.2, ((m.2.length : Nat) : Int), 0, ()), ((m.1, m.2, ()), (z.1, z.2.1, z.2.2.1, z.2.2.2, ()), ())) = some (.inr ((), ((e, a, b, c, ()), ())))) := by
 have hlen := hf.2.2.1
 have ans : ∀ i (h : i < m.2.length), ∃ a e, (e = 0 ↔ RuleP m.1 r m.2[i]) ∧ ∀ g, valid_Check_s7 g (((r : Int), (r : Int), m.2, ((m.2.length : Nat) : Int), (i : Int), ()), ((m.1, m.2, ()), (z.1, z.2.1, z.2.2.1, z.2.2.2, ()), ())) =
     bif (!decide (e = 0)) then some (.inr ((), ((e, 0, (i : Int), a, ()), ()))) else g (((r : Int), (r : Int), m.2, ((m.2.length : Nat) : Int), ((i + 1 : Nat) : Int), ()), ((m.1, m.2, ()), (z.1, z.2.1, z.2.2.1, z.2.2.2, ()), ())) := by
   intro i hi
   have d0 : (i : Int) < ((m.2.length : Nat) : Int) := by omega
   have d1 : (0 : Int) ≤ (i : Int) := by omega
   have htf := hf.2.2.2 i hi
   have htl : m.2[i].length < 4294967296 := by have := htf.2.1; omega
   have ht0 : 0 < m.2[i].length := htf.1
   have hts := hs _ (List.getElem_mem hi)
   match r, hr with
   | 0, _ =>
     obtain ⟨a, e, h1, h2⟩ := ranges_ok (f := m.1) htl
     refine ⟨a, e, h2, fun g => ?_⟩
     rw [valid_Check_s7, cnd d0, cnd d1, Int.toNat_natCast, List.getElem?_eq_getElem hi, Option.bind_some, cnd (by rfl), h1, Option.bind_some, iadd1 (by omega)]
     rfl
   | 1, _ =>
     obtain ⟨a, e, h1, h2⟩ := shape_ok htl ht0 (hlow 0 (by decide) i hi)
     refine ⟨a, e, h2, fun g => ?_⟩
     rw [valid_Check_s7, cnd d0, cnd d1, Int.toNat_natCast, List.getElem?_eq_getElem hi, Option.bind_some, cnd' (by decide), cnd (by rfl), h1, Option.bind_some, iadd1 (by omega)]
     rfl
   | 2, _ =>
     obtain ⟨a, e, h1, h2⟩ := covers_ok htl hts (by omega)
     refine ⟨a, e, h2, fun g => ?_⟩
     rw [valid_Check_s7, cnd d0, cnd d1, Int.toNat_natCast, List.getElem?_eq_getElem hi, Option.bind_some, cnd' (by decide), cnd' (by decide), cnd (by rfl), h1, Option.bind_some, iadd1 (by omega)]
     rfl
   | 3, _ =>
     obtain ⟨a, e, h1, h2⟩ := sums_ok htl hts hk (hlow 0 (by decide) i hi)
     refine ⟨a, e, h2, fun g => ?_⟩
     rw [valid_Check_s7, cnd d0, cnd d1, Int.toNat_natCast, List.getElem?_eq_getElem hi, Option.bind_some, cnd' (by decide), cnd' (by decide), cnd' (by decide), cnd (by rfl), h1, Option.bind_some, iadd1 (by omega)]
     rfl
 have ans2 : ∀ i, ∃ a e, ∀ h : i < m.2.length, (e = 0 ↔ RuleP m.1 r m.2[i]) ∧ ∀ g, valid_Check_s7 g (((r : Int), (r : Int), m.2, ((m.2.length : Nat) : Int), (i : Int), ()), ((m.1, m.2, ()), (z.1, z.2.1, z.2.2.1, z.2.2.2, ()), ())) =
     bif (!decide (e = 0)) then some (.inr ((), ((e, 0, (i : Int), a, ()), ()))) else g (((r : Int), (r : Int), m.2, ((m.2.length : Nat) : Int), ((i + 1 : Nat) : Int), ()), ((m.1, m.2, ()), (z.1, z.2.1, z.2.2.1, z.2.2.2, ()), ())) := by
   intro i
   by_cases h : i < m.2.length
   · obtain ⟨a, e, h1, h2⟩ := ans i h
     exact ⟨a, e, fun _ => ⟨h1, h2⟩⟩
   · exact ⟨0, 0, fun h' => absurd h' h⟩
 have A := fun i => (ans2 i).choose
 let E : Nat → Int := fun i => (ans2 i).choose_spec.choose
 have hE : ∀ i (h : i < m.2.length), (E i = 0 ↔ RuleP m.1 r m.2[i]) ∧ ∀ g, valid_Check_s7 g (((r : Int), (r : Int), m.2, ((m.2.length : Nat) : Int), (i : Int), ()), ((m.1, m.2, ()), (z.1, z.2.1, z.2.2.1, z.2.2.2, ()), ())) =
     bif (!decide (E i = 0)) then some (.inr ((), ((E i, 0, (i : Int), (ans2 i).choose, ()), ()))) else g (((r : Int), (r : Int), m.2, ((m.2.length : Nat) : Int), ((i + 1 : Nat) : Int), ()), ((m.1, m.2, ()), (z.1, z.2.1, z.2.2.1, z.2.2.2, ()), ())) := fun i h => (ans2 i).choose_spec.choose_spec h
 rcases lp_all (step := valid_Check_s7) (fun i => (((r : Int), (r : Int), m.2, ((m.2.length : Nat) : Int), (i : Int), ()), ((m.1, m.2, ()), (z.1, z.2.1, z.2.2.1, z.2.2.2, ()), ()))) m.2.length (fun i => E i = 0) (fun i => .inr ((), ((E i, 0, (i : Int), (ans2 i).choose, ()), ()))) (.inl (((r : Int), ()), ((m.1, m.2, ()), (z.1, z.2.1, z.2.2.1, z.2.2.2, ()), ()))) (by omega) (by
     intro i hi
     obtain ⟨h1, h2⟩ := hE i hi
     by_cases h0 : E i = 0
     · exact .inl ⟨h0, fun g => by rw [h2, decide_eq_true h0]; rfl⟩
     · exact .inr ⟨h0, fun g => by rw [h2, decide_eq_false h0]; rfl⟩) (by
     intro g
     rw [valid_Check_s7, cnd' (by omega)]) with ⟨h, hlp⟩ | ⟨i, hi, h, hlp⟩
 · exact .inl ⟨fun i hi => (hE i hi).1.1 (h i hi), hlp⟩
 · exact .inr ⟨fun hh => h ((hE i hi).1.2 (hh i hi)), E i, 0, (i : Int), _, h, hlp⟩
theorem Ok_ok {m : MODEL} {k : Nat} (hl : m.2.length < 4294967296) (ht : ∀ t ∈ m.2, t.length < 4294967296) (hs : MSz m k) (hk : k < 500000000000) : ∃ b, valid_Ok m = some b ∧ (b = true ↔ Good m) := by
 obtain ⟨b, hb, hbf⟩ := Fits_ok hl ht
 cases b with
 | false =>
  have hnf : ¬ FitsP m := fun h => by have := hbf.2 h; cases this
  refine ⟨false, ?_, fun h => (by cases h), fun h => absurd h.1 hnf⟩
  rw [valid_Ok, valid_Check, hb, Option.bind_some]
  rfl
 | true =>
  have hf := hbf.1 rfl
  rcases lp_allh (step := valid_Check_s4) (fun r => (((r : Int), ()), ((m.1, m.2, ()), (0, 0, 0, 0, ()), ()))) 4 (fun r => ∀ i (h : i < m.2.length), RuleP m.1 r m.2[i]) (fun r => ∃ e a b c, e ≠ 0 ∧ r = .inr ((), ((e, a, b, c, ()), ()))) (.inl ((), ((0, 0, 0, 0, ()), ()))) (by omega) (by
     intro r hr hlow
     have d0 : (r : Int) < 4 := by omega
     rcases check_inner hf hs hk hr (fun r' hr' => hlow r' hr') (0, 0, 0, 0) with ⟨h1, h2⟩ | ⟨h1, e, a, b, c, h2, h3⟩
     · refine .inl ⟨h1, fun g => ?_⟩
       rw [valid_Check_s4, cnd d0, h2, Option.bind_some]
       dsimp only
       rw [iadd1 (by omega)]
       rfl
     · refine .inr ⟨h1, _, ⟨e, a, b, c, h2, rfl⟩, fun g => ?_⟩
       rw [valid_Check_s4, cnd d0, h3, Option.bind_some]) (by
     intro g
     rw [valid_Check_s4, cnd' (by decide)]) with ⟨h, hlp⟩ | ⟨h, r, ⟨e, a, b, c, he, rfl⟩, hlp⟩
  · have hlp : lp valid_Check_s4 K0 (((0 : Int), ()), ((m.1, m.2, ()), (0, 0, 0, 0, ()), ())) = _ := hlp
    refine ⟨true, ?_, fun _ => ⟨hf, h⟩, fun _ => rfl⟩
    rw [valid_Ok, valid_Check, hb, Option.bind_some, Bool.not_true, cond_false, hlp]
    rfl
  · have hlp : lp valid_Check_s4 K0 (((0 : Int), ()), ((m.1, m.2, ()), (0, 0, 0, 0, ()), ())) = _ := hlp
    refine ⟨false, ?_, fun h' => (by cases h'), fun hg => absurd hg.2 h⟩
    rw [valid_Ok, valid_Check, hb, Option.bind_some, Bool.not_true, cond_false, hlp, Option.bind_some]
    dsimp only
    rw [Option.bind_some, decide_eq_false he]
    rfl
theorem number07_ok (a : RAT) : dendronlaw07_number a = some (cutR 4 a) := by
 obtain ⟨⟨s, x⟩, y⟩ := a
 unfold dendronlaw07_number cutR
 by_cases h1 : 4 < x.length
 · have c1 : ((x.length : Nat) : Int) > 4 := by omega
   have c2 : (4 : Int) ≤ ((x.length : Nat) : Int) := by omega
   by_cases h2 : 4 < y.length
   · have c3 : ((y.length : Nat) : Int) > 4 := by omega
     have c4 : (4 : Int) ≤ ((y.length : Nat) : Int) := by omega
     rw [cnd c1, cnd c2, cnd c3, cnd c4]
   · have c3 : ¬ ((y.length : Nat) : Int) > 4 := by omega
     rw [cnd c1, cnd c2, cnd' c3, List.take_of_length_le (l := y) (by omega)]
 · have c1 : ¬ ((x.length : Nat) : Int) > 4 := by omega
   by_cases h2 : 4 < y.length
   · have c3 : ((y.length : Nat) : Int) > 4 := by omega
     have c4 : (4 : Int) ≤ ((y.length : Nat) : Int) := by omega
     rw [cnd' c1, cnd c3, cnd c4, List.take_of_length_le (l := x) (by omega)]
   · have c3 : ¬ ((y.length : Nat) : Int) > 4 := by omega
     rw [cnd' c1, cnd' c3, List.take_of_length_le (l := x) (by omega), List.take_of_length_le (l := y) (by omega)]
def cutNode (n : NODE) : NODE := (n.1, n.2.1, cutR 4 n.2.2.1, n.2.2.2.1, n.2.2.2.2.1, n.2.2.2.2.2.1, cutR 4 n.2.2.2.2.2.2.1, cutR 4 n.2.2.2.2.2.2.2)
def cutTree (t : List NODE) : List NODE := (t.take 15).map cutNode
def cutM (m : MODEL) : MODEL := (m.1, (m.2.take 6).map cutTree)
theorem cutNode_sz (n : NODE) : NSz (cutNode n) 4 := ⟨cutR_sz 4 _, cutR_sz 4 _, cutR_sz 4 _⟩
theorem cutTree_sz (t : List NODE) : TSz (cutTree t) 4 := by
 intro n hn
 obtain ⟨x, _, rfl⟩ := List.mem_map.1 hn
 exact cutNode_sz x
theorem cutTree_len (t : List NODE) : (cutTree t).length ≤ 15 := by simp [cutTree]; omega
theorem cutM_sz (m : MODEL) : MSz (cutM m) 4 := by
 intro t ht
 obtain ⟨x, _, rfl⟩ := List.mem_map.1 ht
 exact cutTree_sz x
theorem cutM_tlen (m : MODEL) : ∀ t ∈ (cutM m).2, t.length ≤ 15 := by
 intro t ht
 obtain ⟨x, _, rfl⟩ := List.mem_map.1 ht
 exact cutTree_len x
theorem Few07_inner {m : MODEL} {i : Nat} (hi : i < m.2.length) (hl : m.2[i].length ≤ 9223372036854775807) (hi2 : i < 4611686018427387904) (z w : Int × List (List NODE)) :
  lp dendronlaw07_Few_s7 K0 (((i : Int), [], 0, ()), ((m.1, m.2, ()), (z.1, z.2, ()), (w.1, w.2, ()), ())) = some (((i : Int), cutTree m.2[i], ()), ((m.1, m.2, ()), (z.1, z.2, ()), (w.1, w.2, ()), ())) := by
 have hn : min m.2[i].length 15 ≤ m.2[i].length := Nat.min_le_left _ _
 exact lp_up (step := dendronlaw07_Few_s7) (fun k => (((i : Int), (m.2[i].take k).map cutNode, (k : Int), ()), ((m.1, m.2, ()), (z.1, z.2, ()), (w.1, w.2, ()), ()))) (min m.2[i].length 15) (by omega) (by
  intro g k hk
  have h1 : k < m.2[i].length := by omega
  have d0 : (0 : Int) ≤ (i : Int) := by omega
  have d1 : (k : Int) < ((m.2[i].length : Nat) : Int) := by omega
  have d2 : (k : Int) < 15 := by omega
  have d3 : (0 : Int) ≤ (k : Int) := by omega
  have d4 : (((m.2[i].take k).map cutNode).length + 1) * 208 ≤ 140737488355328 := by simp; omega
  rw [dendronlaw07_Few_s7, cnd d0, Int.toNat_natCast, List.getElem?_eq_getElem hi, Option.bind_some, cnd d1, cnd d2, cnd d0, Option.bind_some, cnd d3, Int.toNat_natCast, List.getElem?_eq_getElem h1, Option.bind_some, number07_ok, Option.bind_some, number07_ok, Option.bind_some, number07_ok, Option.bind_some, blt d4, cond_true, iadd1 (by omega), map_take_succ _ h1]
  rfl) (by
  intro g
  have d0 : (0 : Int) ≤ (i : Int) := by omega
  by_cases h : m.2[i].length ≤ 15
  · have c1 : ¬ ((min m.2[i].length 15 : Nat) : Int) < ((m.2[i].length : Nat) : Int) := by omega
    rw [dendronlaw07_Few_s7, cnd d0, Int.toNat_natCast, List.getElem?_eq_getElem hi, Option.bind_some, cnd' c1, Nat.min_eq_left h, List.take_of_length_le (Nat.le_refl _), cutTree, List.take_of_length_le h]
  · have c1 : ((min m.2[i].length 15 : Nat) : Int) < ((m.2[i].length : Nat) : Int) := by omega
    have c2 : ¬ ((min m.2[i].length 15 : Nat) : Int) < 15 := by omega
    rw [dendronlaw07_Few_s7, cnd d0, Int.toNat_natCast, List.getElem?_eq_getElem hi, Option.bind_some, cnd c1, cnd' c2, Nat.min_eq_right (by omega), cutTree])
theorem Few07_ok (m : MODEL) (hl : m.2.length ≤ 9223372036854775807) (ht : ∀ t ∈ m.2, t.length ≤ 9223372036854775807) : dendronlaw07_Few m = some (cutM m) := by
 have hn : min m.2.length 6 ≤ m.2.length := Nat.min_le_left _ _
 have key := lp_up (step := dendronlaw07_Few_s3) (fun i => (((i : Int), ()), ((m.1, m.2, ()), (0, [], ()), (m.1, (m.2.take i).map cutTree, ()), ()))) (min m.2.length 6) (r := ((), ((0, [], ()), (m.1, (m.2.take 6).map cutTree, ()), ()))) (by omega) (by
  intro g i hi
  have h1 : i < m.2.length := by omega
  have d0 : (i : Int) < ((m.2.length : Nat) : Int) := by omega
  have d1 : (i : Int) < 6 := by omega
  have hin := Few07_inner h1 (ht _ (List.getElem_mem h1)) (by omega) (0, []) (m.1, (m.2.take i).map cutTree)
  have d4 : (((m.2.take i).map cutTree).length + 1) * 24 ≤ 140737488355328 := by simp; omega
  rw [dendronlaw07_Few_s3, cnd d0, cnd d1, hin, Option.bind_some, blt d4, cond_true, iadd1 (by omega), map_take_succ _ h1]
  rfl) (by
  intro g
  by_cases h : m.2.length ≤ 6
  · have c1 : ¬ ((min m.2.length 6 : Nat) : Int) < ((m.2.length : Nat) : Int) := by omega
    rw [dendronlaw07_Few_s3, cnd' c1, Nat.min_eq_left h, List.take_of_length_le (Nat.le_refl _), List.take_of_length_le h]
  · have c1 : ((min m.2.length 6 : Nat) : Int) < ((m.2.length : Nat) : Int) := by omega
    have c2 : ¬ ((min m.2.length 6 : Nat) : Int) < 6 := by omega
    rw [dendronlaw07_Few_s3, cnd c1, cnd' c2, Nat.min_eq_right (by omega)])
 have key' : lp dendronlaw07_Few_s3 K0 ((0, ()), ((m.1, m.2, ()), (0, [], ()), (m.1, [], ()), ())) = _ := key
 rw [dendronlaw07_Few, key']
 rfl
inductive TR where
 | leaf (i : Nat)
 | split (i : Nat) (l r : TR)
def TR.top : TR → Nat
 | .leaf i => i
 | .split i _ _ => i
def TR.size : TR → Nat
 | .leaf _ => 1
 | .split _ l r => 1 + l.size + r.size
def TR.deep : TR → Nat
 | .leaf _ => 1
 | .split _ l r => 1 + max l.deep r.deep
def Is (t : List NODE) (f : Int) : TR → Prop
 | .leaf i => ∃ h : i < t.length, nLeaf t[i] = true
 | .split i l r => ∃ h : i < t.length, nLeaf t[i] = false ∧ 0 ≤ nFeat t[i] ∧ nFeat t[i] < f ∧ nL t[i] = (l.top : Int) ∧ nR t[i] = (r.top : Int) ∧ Is t f l ∧ Is t f r
theorem tree_at {t : List NODE} {f : Int} (hr : RangesP t f) (hrk : Ranked t) : ∀ i, i < t.length → ∃ T, Is t f T ∧ T.top = i ∧ T.deep ≤ t.length + 1 := by
 obtain ⟨rk, hrk⟩ := hrk
 have key : ∀ (d i : Nat), i < t.length → rk i ≤ d → ∃ T, Is t f T ∧ T.top = i ∧ T.deep ≤ rk i + 1 := by
  intro d
  induction d with
  | zero =>
   intro i hi hd
   cases hl : nLeaf t[i] with
   | true => exact ⟨.leaf i, ⟨hi, hl⟩, rfl, by simp [TR.deep]⟩
   | false =>
    have := (hrk i hi).2 (nL t[i]).toNat (by rw [kids_split hi hl]; simp)
    omega
  | succ d ih =>
   intro i hi hd
   cases hl : nLeaf t[i] with
   | true => exact ⟨.leaf i, ⟨hi, hl⟩, rfl, by simp [TR.deep]⟩
   | false =>
    obtain ⟨r1, r2, r3, r4, r5, r6⟩ := hr i hi hl
    have k1 := (hrk i hi).2 (nL t[i]).toNat (by rw [kids_split hi hl]; simp)
    have k2 := (hrk i hi).2 (nR t[i]).toNat (by rw [kids_split hi hl]; simp)
    obtain ⟨L, hL, hLt, hLd⟩ := ih (nL t[i]).toNat (by omega) (by omega)
    obtain ⟨R, hR, hRt, hRd⟩ := ih (nR t[i]).toNat (by omega) (by omega)
    refine ⟨.split i L R, ⟨hi, hl, r1, r2, by rw [hLt]; omega, by rw [hRt]; omega, hL, hR⟩, rfl, ?_⟩
    simp only [TR.deep]
    omega
 intro i hi
 obtain ⟨T, h1, h2, h3⟩ := key (rk i) i hi (Nat.le_refl _)
 have := (hrk i hi).1
 exact ⟨T, h1, h2, by omega⟩
theorem Good.tree {m : MODEL} (h : Good m) {i : Nat} (hi : i < m.2.length) : ∃ T, Is m.2[i] m.1 T ∧ T.top = 0 ∧ T.deep ≤ m.2[i].length + 1 :=
 tree_at (h.ranges hi) (h.shape hi).2 0 (h.1.2.2.2 i hi).1
abbrev zR : RAT := ((false, []), [])
abbrev zN : NODE := (false, 0, zR, 0, 0, false, zR, zR)
def nodeAt (t : List NODE) (i : Nat) : NODE := (t[i]?).getD zN
theorem nodeAt_get {t : List NODE} {i : Nat} (h : i < t.length) : nodeAt t i = t[i] := by simp [nodeAt, h]
def cellAt (row : List CELL) (i : Nat) : CELL := (row[i]?).getD (false, zR)
theorem cellAt_get {row : List CELL} {i : Nat} (h : i < row.length) : cellAt row i = row[i] := by simp [cellAt, h]
def goes (n : NODE) (c : CELL) : Bool := if c.1 then nMiss n else decide (rv c.2 < rv (nCut n))
def goL (t : List NODE) (row : List CELL) (i : Nat) : Bool := goes (nodeAt t i) (cellAt row (nFeat (nodeAt t i)).toNat)
def wayT (t : List NODE) (row : List CELL) : TR → List Nat
 | .leaf i => [i]
 | .split i l r => i :: if goL t row i then wayT t row l else wayT t row r
def endT (t : List NODE) (row : List CELL) : TR → Nat
 | .leaf i => i
 | .split i l r => if goL t row i then endT t row l else endT t row r
theorem wayT_last (t : List NODE) (row : List CELL) (T : TR) : (wayT t row T).getLast? = some (endT t row T) := by
 induction T with
 | leaf i => rfl
 | split i l r ihl ihr =>
  simp only [wayT, endT, List.getLast?_cons]
  by_cases h : goL t row i = true
  · rw [if_pos h, if_pos h, ihl]; rfl
  · rw [if_neg h, if_neg h, ihr]; rfl
theorem wayT_len (t : List NODE) (row : List CELL) (T : TR) : (wayT t row T).length ≤ T.deep := by
 induction T with
 | leaf i => simp [wayT, TR.deep]
 | split i l r ihl ihr =>
  simp only [wayT, TR.deep, List.length_cons]
  split <;> omega
theorem endT_lt {t : List NODE} {f : Int} {row : List CELL} {T : TR} (h : Is t f T) : endT t row T < t.length := by
 induction T with
 | leaf i => exact h.1
 | split i l r ihl ihr =>
  obtain ⟨h1, _, _, _, _, _, h2, h3⟩ := h
  simp only [endT]
  split
  · exact ihl h2
  · exact ihr h3
theorem Is.top_lt {t : List NODE} {f : Int} {T : TR} (h : Is t f T) : T.top < t.length := by
 cases T with
 | leaf i => exact h.1
 | split i l r => exact h.1
theorem TR.size_lt (T : TR) : T.size < 2 ^ T.deep := by
 induction T with
 | leaf i => simp [TR.size, TR.deep]
 | split i l r ihl ihr =>
  simp only [TR.size, TR.deep]
  have h1 : 2 ^ l.deep ≤ 2 ^ max l.deep r.deep := Nat.pow_le_pow_right (by decide) (Nat.le_max_left _ _)
  have h2 : 2 ^ r.deep ≤ 2 ^ max l.deep r.deep := Nat.pow_le_pow_right (by decide) (Nat.le_max_right _ _)
  rw [Nat.add_comm 1 (max l.deep r.deep), Nat.pow_succ]
  omega
theorem TR.size_le {T : TR} (h : T.deep ≤ 16) : T.size < 65536 := by
 have h1 := T.size_lt
 have h2 : 2 ^ T.deep ≤ 2 ^ 16 := Nat.pow_le_pow_right (by decide) h
 omega
theorem TR.deep_pos (T : TR) : 0 < T.deep := by cases T <;> simp [TR.deep] <;> omega
def predT (t : List NODE) (row : List CELL) (T : TR) : Rat := rv (nVal (nodeAt t (endT t row T)))
theorem TSz.at {t : List NODE} {k : Nat} (h : TSz t k) {i : Nat} (hi : i < t.length) : NSz (nodeAt t i) k := by rw [nodeAt_get hi]; exact h _ (List.getElem_mem hi)
theorem predT_sz {t : List NODE} {f : Int} {row : List CELL} {T : TR} (hs : TSz t 4) (h : Is t f T) : SzQ (predT t row T) 4 := (hs.at (endT_lt h)).2.1.szQ (by decide)
theorem cov_sz {t : List NODE} (hs : TSz t 4) {i : Nat} (hi : i < t.length) : SzQ (cov t i) 4 := (hs.at hi).2.2.szQ (by decide)
def mkT (t : List NODE) : Nat → Nat → TR
 | 0, i => .leaf i
 | d + 1, i => if nLeaf (nodeAt t i) then .leaf i else .split i (mkT t d (nL (nodeAt t i)).toNat) (mkT t d (nR (nodeAt t i)).toNat)
theorem mkT_eq {t : List NODE} {f : Int} : ∀ (d : Nat) (T : TR), Is t f T → T.deep ≤ d → mkT t d T.top = T := by
 intro d
 induction d with
 | zero => intro T _ h; have := T.deep_pos; omega
 | succ d ih =>
  intro T h hd
  cases T with
  | leaf i =>
   obtain ⟨h1, h2⟩ := h
   simp only [TR.top, mkT, nodeAt_get h1, h2, if_true]
  | split i l r =>
   obtain ⟨h1, h2, _, _, h3, h4, h5, h6⟩ := h
   simp only [TR.deep] at hd
   show mkT t (d + 1) i = _
   rw [mkT, nodeAt_get h1, h2, h3, h4, Int.toNat_natCast, Int.toNat_natCast, ih l h5 (by omega), ih r h6 (by omega)]
   rfl
def treeOf (t : List NODE) : TR := mkT t (t.length + 1) 0
theorem Good.treeOf {m : MODEL} (h : Good m) {i : Nat} (hi : i < m.2.length) : Is m.2[i] m.1 (treeOf m.2[i]) ∧ (treeOf m.2[i]).top = 0 ∧ (treeOf m.2[i]).deep ≤ m.2[i].length + 1 := by
 obtain ⟨T, h1, h2, h3⟩ := h.tree hi
 have : X.treeOf m.2[i] = T := by rw [X.treeOf, ← h2]; exact mkT_eq _ T h1 h3
 rw [this]; exact ⟨h1, h2, h3⟩
def treeAt (m : MODEL) (i : Nat) : List NODE := (m.2[i]?).getD []
theorem treeAt_get {m : MODEL} {i : Nat} (h : i < m.2.length) : treeAt m i = m.2[i] := by simp [treeAt, h]
def predM (m : MODEL) (row : List CELL) : Rat := rsum (fun i => predT (treeAt m i) row (treeOf (treeAt m i))) m.2.length
theorem MSz.at {m : MODEL} {k : Nat} (h : MSz m k) {i : Nat} (hi : i < m.2.length) : TSz (treeAt m i) k := by rw [treeAt_get hi]; exact h _ (List.getElem_mem hi)
theorem Good.isAt {m : MODEL} (h : Good m) {i : Nat} (hi : i < m.2.length) : Is (treeAt m i) m.1 (X.treeOf (treeAt m i)) := by rw [treeAt_get hi]; exact (h.treeOf hi).1
theorem predT_at {m : MODEL} {row : List CELL} (h : Good m) (hs : MSz m 4) {i : Nat} (hi : i < m.2.length) : SzQ (predT (treeAt m i) row (treeOf (treeAt m i))) 4 := predT_sz (hs.at hi) (h.isAt hi)
theorem deep16 {m : MODEL} (h : Good m) (hl : ∀ t ∈ m.2, t.length ≤ 15) {i : Nat} (hi : i < m.2.length) : (treeOf (treeAt m i)).deep ≤ 16 := by
 rw [treeAt_get hi]
 have := (h.treeOf hi).2.2
 have := hl _ (List.getElem_mem hi)
 omega
theorem predM_sz {m : MODEL} {row : List CELL} (h : Good m) (hs : MSz m 4) {n : Nat} (hn : n ≤ m.2.length) : SzQ (rsum (fun i => predT (treeAt m i) row (treeOf (treeAt m i))) n) (1 + n * 5) :=
 rsum_sz fun i hi => predT_at h hs (by omega)
def CSz (row : List CELL) (k : Nat) : Prop := ∀ c ∈ row, SzR c.2 k
theorem goes_ok {n : NODE} {c : CELL} {k j : Nat} (hn : SzR (nCut n) k) (hk : k < 1099511627776) (hc : SzR c.2 j) (hj : j < 1099511627776) : route_goes n c = some (goes n c) := by
 unfold route_goes goes
 cases h : c.1 with
 | true => rfl
 | false =>
  rw [cond_false, ratio_Cmp_ok (hc.sm hj) (hn.sm hk), Option.bind_some, if_neg (by decide)]
  congr 1
  by_cases h : rv c.2 < rv (nCut n)
  · rw [decide_eq_true (rcmp_neg.2 h), decide_eq_true h]
  · rw [decide_eq_false (fun e => h (rcmp_neg.1 e)), decide_eq_false h]
theorem Left_ok {n : NODE} {c : CELL} {k j : Nat} (hn : SzR (nCut n) k) (hk : k < 1099511627776) (hc : SzR c.2 j) (hj : j < 1099511627776) : route_Left n c = some (!nLeaf n && goes n c) := by
 unfold route_Left
 rw [goes_ok hn hk hc hj]
 show _ = some (!n.1 && goes n c)
 cases h : n.1 with
 | true => rfl
 | false => rfl
theorem left10_ok {n : NODE} {c : CELL} {k j : Nat} (hn : SzR (nCut n) k) (hk : k < 1099511627776) (hc : SzR c.2 j) (hj : j < 1099511627776) : dendronlaw10_left n c = some (!nLeaf n && goes n c) := by
 have h1 : ∀ b, c.1 = false → goes n c = b → (ratio_Cmp c.2 (nCut n)).bind (fun r1 => some (decide (r1 < 0))) = some b := by
  intro b hf h
  have := goes_ok hn hk hc hj
  rw [route_goes, hf, cond_false, h] at this
  exact this
 unfold dendronlaw10_left
 show _ = some (!n.1 && goes n c)
 cases h : n.1 with
 | true => rfl
 | false =>
  rw [cond_false]
  cases hc1 : c.1 with
  | true =>
   rw [cond_true]
   have hg : goes n c = nMiss n := by rw [goes, hc1]; rfl
   rw [hg]
   show _ = some (!false && n.2.2.2.2.2.1)
   cases hm : n.2.2.2.2.2.1 with
   | true => rfl
   | false => rfl
  | false =>
   rw [cond_false, Bool.not_false, cond_true, h1 _ hc1 rfl]
   rfl
theorem goL_ok {t : List NODE} {f : Int} {row : List CELL} {i : Nat} (hs : TSz t 4) (hc : CSz row 9) (hi : i < t.length) (h0 : 0 ≤ nFeat t[i]) (h1 : nFeat t[i] < (row.length : Int)) :
  ∃ c, row[(nFeat t[i]).toNat]? = some c ∧ SzR c.2 9 ∧ goes t[i] c = goL t row i := by
 have hlt : (nFeat t[i]).toNat < row.length := by omega
 refine ⟨row[(nFeat t[i]).toNat], List.getElem?_eq_getElem hlt, hc _ (List.getElem_mem hlt), ?_⟩
 rw [goL, nodeAt_get hi, cellAt_get hlt]
theorem Way10_ok {t : List NODE} {row : List CELL} (hs : TSz t 4) (hc : CSz row 9) : ∀ (n : Nat) (T : TR), Is t (row.length : Int) T → T.deep ≤ n → T.deep ≤ 1000000 → dendronlaw10_Way n t (T.top : Int) row = some (ints (wayT t row T)) := by
 intro n
 induction n with
 | zero => intro T _ hd; have := T.deep_pos; omega
 | succ n ih =>
  intro T h hd hdd
  show dendronlaw10_Way_b (dendronlaw10_Way n) t T.top row = _
  cases T with
  | leaf i =>
   obtain ⟨h1, h2⟩ := h
   have d0 : (0 : Int) ≤ (i : Int) := by omega
   rw [dendronlaw10_Way_b, show ((TR.leaf i).top : Int) = (i : Int) from rfl, cnd d0, Int.toNat_natCast, List.getElem?_eq_getElem h1, Option.bind_some, show t[i].1 = true from h2]
   rfl
  | split i l r =>
   obtain ⟨h1, h2, f0, f1, h3, h4, h5, h6⟩ := h
   have d0 : (0 : Int) ≤ (i : Int) := by omega
   simp only [TR.deep] at hd hdd
   obtain ⟨c, g1, g2, g3⟩ := goL_ok (f := 0) hs hc h1 f0 f1
   have hz := hs _ (List.getElem_mem h1)
   have wl := wayT_len t row l
   have wr := wayT_len t row r
   rw [dendronlaw10_Way_b, show ((TR.split i l r).top : Int) = (i : Int) from rfl, cnd d0, Int.toNat_natCast, List.getElem?_eq_getElem h1, Option.bind_some, show t[i].1 = false from h2, cond_false, cnd f0, g1, Option.bind_some, left10_ok hz.1 (by decide) g2 (by decide), Option.bind_some, g3, show (!nLeaf t[i]) = true by rw [h2]; rfl, Bool.true_and]
   have el : dendronlaw10_Way n t t[i].2.2.2.1 row = some (ints (wayT t row l)) := by rw [show t[i].2.2.2.1 = _ from h3]; exact ih l h5 (by omega) (by omega)
   have er : dendronlaw10_Way n t t[i].2.2.2.2.1 row = some (ints (wayT t row r)) := by rw [show t[i].2.2.2.2.1 = _ from h4]; exact ih r h6 (by omega) (by omega)
   rw [el, er]
   simp only [wayT]
   cases goL t row i with
   | true =>
    rw [cond_true, Option.bind_some, blt (by simp [ints]; omega), cond_true, if_pos rfl]
    rfl
   | false =>
    rw [cond_false, Option.bind_some, blt (by simp [ints]; omega), cond_true, if_neg (by decide)]
    rfl
theorem wayT_head (t : List NODE) (row : List CELL) (T : TR) : wayT t row T = T.top :: (wayT t row T).tail := by cases T <;> rfl
theorem TreeV_ok {t : List NODE} {f : Int} (ht : t.length ≤ 15) (hs : TSz t 4) : ∃ b, valid_Tree t f = some b ∧ (b = true ↔ Good (f, [t])) := by
 obtain ⟨b, h1, h2⟩ := Ok_ok (m := (f, [t])) (k := 4) (by simp) (by intro u hu; simp at hu; subst hu; omega) (by intro u hu; simp at hu; subst hu; exact hs) (by decide)
 exact ⟨b, by rw [valid_Tree, h1]; rfl, h2⟩
theorem cutRow_sz (l : List CELL) : CSz (l.map cutCell) 9 := by
 intro c hc
 obtain ⟨x, _, rfl⟩ := List.mem_map.1 hc
 exact ⟨Nat.le_trans (cutR_sz 3 _).1 (by decide), Nat.le_trans (cutR_sz 3 _).2 (by decide)⟩
structure Askd (m : MODEL) (row : List CELL) : Prop where
 good : Good m
 len : (row.length : Int) = m.1
 ms : MSz m 4
 ml : m.2.length ≤ 6
 mt : ∀ t ∈ m.2, t.length ≤ 15
 cs : CSz row 9
theorem Askd.tree {m : MODEL} {row : List CELL} (h : Askd m row) {i : Nat} (hi : i < m.2.length) : TSz m.2[i] 4 ∧ Is m.2[i] (row.length : Int) (treeOf (treeAt m i)) ∧ (treeOf (treeAt m i)).top = 0 ∧ (treeOf (treeAt m i)).deep ≤ 16 ∧ treeAt m i = m.2[i] := by
 have h1 := h.good.treeOf hi
 have h2 := deep16 h.good h.mt hi
 rw [treeAt_get hi] at h2 ⊢
 exact ⟨h.ms _ (List.getElem_mem hi), by rw [h.len]; exact h1.1, h1.2.1, h2, rfl⟩
theorem sum_step {f : Nat → Rat} {n k : Nat} {q : RAT} (hs : SzQ (rsum f n) k) (hk : k < 1099511627776) (hq : Sm q) (e : rv q = f n) : ratio_Add (((canQ (rsum f n)).1.1, (canQ (rsum f n)).1.2), (canQ (rsum f n)).2) q = some (canQ (rsum f (n + 1))) := by
 have h1 := ratio_Add_ok (hs.sm hk) hq
 rw [rv_canQ, e] at h1
 exact h1
theorem Predict10_gen {m : MODEL} {row : List CELL} (f : Nat → Rat) (ml : m.2.length ≤ 6) (cs : CSz row 9) (ht : ∀ i (h : i < m.2.length), TSz m.2[i] 4 ∧ ∃ T, Is m.2[i] (row.length : Int) T ∧ T.top = 0 ∧ T.deep ≤ 16 ∧ f i = predT m.2[i] row T) :
  dendronlaw10_Predict m row = some (canQ (rsum f m.2.length)) := by
 have hsz : ∀ n, n ≤ m.2.length → SzQ (rsum f n) (1 + n * 5) := fun n hn => rsum_sz fun i hi => by
  obtain ⟨t1, T, t2, t3, t4, t5⟩ := ht i (by omega)
  rw [t5]; exact predT_sz t1 t2
 have key := lp_up (step := dendronlaw10_Predict_s3) (fun i => ((row, (i : Int), ()), ((m.1, m.2, ()), (false, [], [], ()), ((canQ (rsum f i)).1.1, (canQ (rsum f i)).1.2, (canQ (rsum f i)).2, ()), ()))) m.2.length (by omega) (by
  intro g i hi
  have d0 : (i : Int) < ((m.2.length : Nat) : Int) := by omega
  have d1 : (0 : Int) ≤ (i : Int) := by omega
  obtain ⟨t1, T, t2, t3, t4, t5⟩ := ht i hi
  have hw := Way10_ok t1 cs R0 T t2 (by unfold R0; omega) (by omega)
  rw [t3] at hw
  have hw : dendronlaw10_Way R0 m.2[i] 0 row = _ := hw
  have hl := wayT_last m.2[i] row T
  have hn := wayT_len m.2[i] row T
  have hp : 0 < (wayT m.2[i] row T).length := by rw [wayT_head]; simp
  have hx : (ints (wayT m.2[i] row T))[(wayT m.2[i] row T).length - 1]? = some ((endT m.2[i] row T : Nat) : Int) := by
   rw [List.getLast?_eq_getElem?] at hl
   rw [ints, List.getElem?_map, hl]
   rfl
  have li : (ints (wayT m.2[i] row T)).length = (wayT m.2[i] row T).length := by simp [ints]
  have i1 : isub .i64 ((ints (wayT m.2[i] row T)).length : Int) 1 = (((wayT m.2[i] row T).length - 1 : Nat) : Int) := by rw [li, isub_i] <;> omega
  have hlt := endT_lt (row := row) t2
  have hz := t1 _ (List.getElem_mem hlt)
  have ha := sum_step (hsz i (by omega)) (by omega) (hz.2.1.sm (by decide)) (by rw [t5, predT, nodeAt_get hlt])
  rw [dendronlaw10_Predict_s3, cnd d0, cnd d1, Int.toNat_natCast, List.getElem?_eq_getElem hi, Option.bind_some, hw, Option.bind_some, cnd d1, Option.bind_some, i1, cnd2 (by omega) (by rw [li]; omega), Int.toNat_natCast, hx, Option.bind_some, cnd (by omega), Int.toNat_natCast, List.getElem?_eq_getElem hlt, Option.bind_some, ha, Option.bind_some, iadd1 (by omega)]
  rfl) (by
  intro g
  rw [dendronlaw10_Predict_s3, cnd' (by omega)])
 rw [dendronlaw10_Predict, ratio_Zero_ok, Option.bind_some]
 have key' : lp dendronlaw10_Predict_s3 K0 ((row, 0, ()), ((m.1, m.2, ()), (false, [], [], ()), ((canQ 0).1.1, (canQ 0).1.2, (canQ 0).2, ()), ())) = _ := key
 rw [key']
 rfl
theorem Predict10_ok {m : MODEL} {row : List CELL} (h : Askd m row) : dendronlaw10_Predict m row = some (canQ (predM m row)) :=
 Predict10_gen (fun i => predT (treeAt m i) row (treeOf (treeAt m i))) h.ml h.cs (fun i hi => by
  obtain ⟨t1, t2, t3, t4, t5⟩ := h.tree hi
  exact ⟨t1, _, t2, t3, t4, by rw [← t5]⟩)
theorem testBit_div (n k : Nat) : (n / 2 ^ k) % 2 = 1 ↔ n.testBit k = true := by
 rw [Nat.testBit_eq_decide_div_mod_eq, decide_eq_true_iff]
theorem over_ok {a b : RAT} (ha : Sm a) (hb : Sm b) (h : rv b ≠ 0) : expect_over a b = some (canQ (rv a / rv b)) := by
 rw [expect_over, ratio_Div_ok ha hb, if_neg h]; rfl
theorem Small_ok (m0 : MODEL) (row0 : List CELL) (hl : m0.2.length ≤ 9223372036854775807) (ht : ∀ t ∈ m0.2, t.length ≤ 9223372036854775807) (hr : row0.length ≤ 9223372036854775807) :
   ∃ m row, dendronlaw11_Small m0 row0 = some (m, row) ∧ MSz m 4 ∧ m.2.length ≤ 3 ∧ (∀ t ∈ m.2, t.length ≤ 15) ∧ CSz row 9 := by
 have hf := Few07_ok m0 hl ht
 have ms := cutM_sz m0
 have mt := cutM_tlen m0
 have h9 := Few09_ok row0 70 hr (by decide)
 have h9 : dendronlaw09_Few row0 70 = some ((row0.take 70).map cutCell) := h9
 have cs := cutRow_sz (row0.take 70)
 by_cases h3 : ((cutM m0).2.length : Int) > 3
 · refine ⟨((cutM m0).1, (cutM m0).2.take 3), (row0.take 70).map cutCell, ?_, fun t h => ms t (List.mem_of_mem_take h), by simp; omega, fun t h => mt t (List.mem_of_mem_take h), cs⟩
   rw [dendronlaw11_Small, hf, Option.bind_some, cnd h3, cnd (by omega), h9]; rfl
 · refine ⟨cutM m0, (row0.take 70).map cutCell, ?_, ms, by omega, mt, cs⟩
   rw [dendronlaw11_Small, hf, Option.bind_some, cnd' h3, h9]; rfl
def rprod (f : Nat → Rat) : Nat → Rat
 | 0 => 1
 | n + 1 => rprod f n * f n
def qcan (qs : List Rat) : List RAT := qs.map canQ
@[simp] theorem qcan_len (qs : List Rat) : (qcan qs).length = qs.length := by simp [qcan]
theorem over_set {α : Type} (l : List α) (x : α) {k : Nat} (hk : k ≤ l.length) :
  (over (l ++ [x]) (k + 1) (((l ++ [x]).drop k).take ((l ++ [x]).drop (k + 1)).length)).set k x = l.take k ++ x :: l.drop k := by
 have e1 : ((l ++ [x]).drop k).take ((l ++ [x]).drop (k + 1)).length = l.drop k := by
  rw [List.length_drop, List.length_append, List.length_singleton, List.drop_append_of_le_length hk, List.take_append_of_le_length (by rw [List.length_drop]; omega), List.take_of_length_le (by rw [List.length_drop]; omega)]
 rw [e1, over]
 have e2 : (l ++ [x]).drop (k + 1 + (l.drop k).length) = [] := by
  apply List.drop_of_length_le
  rw [List.length_append, List.length_drop, List.length_singleton]; omega
 rw [e2, List.append_nil]
 have e3 : (l ++ [x]).take (k + 1) = (l ++ [x]).take k ++ [(l ++ [x])[k]'(by simp; omega)] := List.take_succ_eq_append_getElem (by simp; omega)
 rw [e3, List.take_append_of_le_length hk, List.append_assoc, List.set_append, if_neg (by rw [List.length_take]; omega), List.length_take, Nat.min_eq_left hk, Nat.sub_self]
 rfl
def leavesT : TR → List Nat
 | .leaf i => [i]
 | .split _ l r => leavesT l ++ leavesT r
theorem leavesT_len (T : TR) : (leavesT T).length ≤ T.size := by
 induction T with
 | leaf i => simp [leavesT, TR.size]
 | split i l r ihl ihr => simp only [leavesT, TR.size, List.length_append]; omega
def lsum : List Rat → Rat
 | [] => 0
 | x :: r => x + lsum r
theorem lsum_append (a b : List Rat) : lsum (a ++ b) = lsum a + lsum b := by
 induction a with
 | nil => simp [lsum, Rat.zero_add]
 | cons x a ih => simp only [List.cons_append, lsum, ih, Rat.add_assoc]
theorem lsum_take_succ {l : List Rat} {i : Nat} (h : i < l.length) : lsum (l.take (i + 1)) = lsum (l.take i) + l[i] := by
 rw [List.take_succ_eq_append_getElem h, lsum_append]; simp [lsum, Rat.add_zero]
theorem lsum_sz {l : List Rat} {k : Nat} (h : ∀ x ∈ l, SzQ x k) : SzQ (lsum l) (1 + l.length * (k + 1)) := by
 induction l with
 | nil => simpa [lsum] using SzQ.zero
 | cons x l ih =>
  have h1 := h x List.mem_cons_self
  have h2 := ih fun y hy => h y (List.mem_cons_of_mem _ hy)
  exact (h1.add h2).mono (by simp only [List.length_cons, Nat.add_mul]; omega)
theorem CoversP.ne {t : List NODE} (h : CoversP t) : ∀ i, i < t.length → cov t i ≠ 0 := by
 intro i hi e
 have := h i hi
 rw [cov_get hi] at e
 rw [e] at this
 exact absurd this (by decide)
theorem over_set' {α : Type} (l : List α) (x y : α) {k : Nat} (hk : k ≤ l.length) :
  (over (l ++ [x]) (k + 1) (((l ++ [x]).drop k).take ((l ++ [x]).drop (k + 1)).length)).set k y = l.take k ++ y :: l.drop k := by
 have h := over_set l x hk
 obtain ⟨o, eo⟩ : ∃ o, o = over (l ++ [x]) (k + 1) (((l ++ [x]).drop k).take ((l ++ [x]).drop (k + 1)).length) := ⟨_, rfl⟩
 rw [← eo] at h ⊢
 have e : o.set k y = (o.set k x).set k y := by rw [List.set_set]
 rw [e, h, List.set_append, if_neg (by rw [List.length_take]; omega), List.length_take, Nat.min_eq_left hk, Nat.sub_self]
 rfl
theorem over_shift_len' {α : Type} (l : List α) (x : α) {k : Nat} (hk : k ≤ l.length) :
  (over (l ++ [x]) (k + 1) (((l ++ [x]).drop k).take ((l ++ [x]).drop (k + 1)).length)).length = l.length + 1 := by
 have h := congrArg List.length (over_set l x hk)
 rw [List.length_set] at h
 rw [h]; simp; omega
abbrev AP := Nat × Rat × Bool
def encP (p : AP) : PART := ((p.1 : Int), canQ p.2.1, p.2.2)
def encW (w : List AP) : List PART := w.map encP
theorem encW_len (w : List AP) : (encW w).length = w.length := by simp [encW]
theorem encW_get {w : List AP} {i : Nat} (h : i < w.length) : (encW w)[i]? = some (encP w[i]) := by simp [encW, h]
def along (f : Nat) (q : Rat) (ok : Bool) : List AP → List AP
 | [] => [(f, q, ok)]
 | p :: w => if p.1 < f then p :: along f q ok w else if p.1 = f then (f, p.2.1 * q, p.2.2 && ok) :: w else (f, q, ok) :: p :: w
def spot (f : Nat) : List AP → Nat
 | [] => 0
 | p :: w => if p.1 < f then spot f w + 1 else 0
theorem spot_le (f : Nat) (w : List AP) : spot f w ≤ w.length := by
 induction w with
 | nil => simp [spot]
 | cons p w ih => simp only [spot, List.length_cons]; split <;> omega
theorem spot_lt {f : Nat} {w : List AP} {i : Nat} (h : i < spot f w) : ∃ hi : i < w.length, w[i].1 < f := by
 induction w generalizing i with
 | nil => simp [spot] at h
 | cons p w ih =>
  simp only [spot] at h
  split at h
  · rename_i hp
    cases i with
    | zero => exact ⟨by simp, hp⟩
    | succ i => obtain ⟨hi, h2⟩ := ih (i := i) (by omega); exact ⟨by simp; omega, by simpa using h2⟩
  · omega
theorem spot_at {f : Nat} {w : List AP} (h : spot f w < w.length) : ¬ w[spot f w].1 < f := by
 induction w with
 | nil => simp at h
 | cons p w ih =>
  by_cases hp : p.1 < f
  · have e : spot f (p :: w) = spot f w + 1 := by simp only [spot, if_pos hp]
    have h' : spot f w < w.length := by rw [e] at h; simpa using h
    simp only [e, List.getElem_cons_succ]
    exact ih h'
  · have e : spot f (p :: w) = 0 := by simp only [spot, if_neg hp]
    simp only [e, List.getElem_cons_zero]
    exact hp
theorem along_hit {f : Nat} {q : Rat} {ok : Bool} {w : List AP} (h : spot f w < w.length) (e : w[spot f w].1 = f) : along f q ok w = w.set (spot f w) (f, w[spot f w].2.1 * q, w[spot f w].2.2 && ok) := by
 induction w with
 | nil => simp at h
 | cons p w ih =>
  by_cases hp : p.1 < f
  · have es : spot f (p :: w) = spot f w + 1 := by simp only [spot, if_pos hp]
    have h' : spot f w < w.length := by rw [es] at h; simpa using h
    simp only [es, List.getElem_cons_succ] at e ⊢
    rw [along, if_pos hp, ih h' e, List.set_cons_succ]
  · have es : spot f (p :: w) = 0 := by simp only [spot, if_neg hp]
    simp only [es, List.getElem_cons_zero] at e ⊢
    rw [along, if_neg hp, if_pos e, List.set_cons_zero]
theorem along_miss {f : Nat} {q : Rat} {ok : Bool} {w : List AP} (h : ∀ h : spot f w < w.length, w[spot f w].1 ≠ f) : along f q ok w = w.take (spot f w) ++ (f, q, ok) :: w.drop (spot f w) := by
 induction w with
 | nil => simp [along, spot]
 | cons p w ih =>
  by_cases hp : p.1 < f
  · have es : spot f (p :: w) = spot f w + 1 := by simp only [spot, if_pos hp]
    rw [along, if_pos hp, es, List.take_succ_cons, List.drop_succ_cons, List.cons_append, ← ih (fun h' => by
     have := h (by rw [es]; simpa using h')
     simpa only [es, List.getElem_cons_succ] using this)]
  · have es : spot f (p :: w) = 0 := by simp only [spot, if_neg hp]
    have hne : p.1 ≠ f := by
     have := h (by rw [es]; simp)
     simpa only [es, List.getElem_cons_zero] using this
    rw [along, if_neg hp, if_neg hne, es]
    rfl
theorem along_len (f : Nat) (q : Rat) (ok : Bool) (w : List AP) : (along f q ok w).length ≤ w.length + 1 := by
 induction w with
 | nil => simp [along]
 | cons p w ih => simp only [along]; split
                  · simp only [List.length_cons]; omega
                  · split <;> simp
def ASz (w : List AP) (k : Nat) : Prop := ∀ p ∈ w, SzQ p.2.1 k
theorem along_sz {f : Nat} {q : Rat} {ok : Bool} {w : List AP} {k j : Nat} (h : ASz w k) (hq : SzQ q j) : ASz (along f q ok w) (k + j) := by
 induction w with
 | nil => intro p hp; simp [along] at hp; subst hp; exact hq.mono (by omega)
 | cons p w ih =>
  have h1 : SzQ p.2.1 k := h p List.mem_cons_self
  have h2 : ASz w k := fun x hx => h x (List.mem_cons_of_mem _ hx)
  intro x hx
  simp only [along] at hx
  split at hx
  · rcases List.mem_cons.1 hx with rfl | hx
    · exact h1.mono (by omega)
    · exact ih h2 x hx
  · split at hx
    · rcases List.mem_cons.1 hx with rfl | hx
      · exact h1.mul hq
      · exact (h2 x hx).mono (by omega)
    · rcases List.mem_cons.1 hx with rfl | hx
      · exact hq.mono (by omega)
      · exact (h x hx).mono (by omega)
theorem along_ok {w : List AP} {f : Nat} {q : Rat} {ok : Bool} {k j : Nat} (hw : ASz w k) (hq : SzQ q j) (hk : k < 1000000000) (hj : j < 1000000000) (hl : w.length ≤ 1000000) (hf : f < 1000000) :
   expect_along (encW w) (f : Int) (canQ q) ok = some (encW (along f q ok w)) := by
 have el := encW_len w
 have hs := spot_le f w
 obtain ⟨s, es⟩ : ∃ s, s = spot f w := ⟨_, rfl⟩
 have key := lp_up (step := expect_along_s3) (fun i => (((f : Int), ok, encW w, (i : Int), ()), (((canQ q).1.1, (canQ q).1.2, (canQ q).2, ()), ()))) s (r := (((f : Int), ok, encW w, (s : Int), ()), (((canQ q).1.1, (canQ q).1.2, (canQ q).2, ()), ()))) (by omega) (by
   intro g i hi
   obtain ⟨h1, h2⟩ := spot_lt (f := f) (w := w) (i := i) (by omega)
   have d0 : (i : Int) < ((encW w).length : Int) := by omega
   have d1 : (0 : Int) ≤ (i : Int) := by omega
   have d2 : (encP w[i]).1 < (f : Int) := by show ((w[i].1 : Nat) : Int) < _; omega
   rw [expect_along_s3, cnd d0, cnd2 d1 d0, Int.toNat_natCast, encW_get h1, Option.bind_some, cnd d2, iadd1 (by omega)]
   rfl) (by
   intro g
   by_cases h : s < w.length
   · have d0 : (s : Int) < ((encW w).length : Int) := by omega
     have d1 : (0 : Int) ≤ (s : Int) := by omega
     have h3 := spot_at (f := f) (w := w) (by omega)
     have d2 : ¬ (encP w[s]).1 < (f : Int) := by subst es; show ¬ ((w[spot f w].1 : Nat) : Int) < _; omega
     rw [expect_along_s3, cnd d0, cnd2 d1 d0, Int.toNat_natCast, encW_get h, Option.bind_some, cnd' d2]
   · rw [expect_along_s3, cnd' (by omega)])
 have key : lp expect_along_s3 K0 (((f : Int), ok, ([] : List PART) ++ encW w, 0, ()), (((canQ q).1.1, (canQ q).1.2, (canQ q).2, ()), ())) = _ := key
 have c0 : (Nat.ble ((([] : List PART).length + (encW w).length) * 72) 140737488355328 && !false) = true := blt (by simp; omega)
 have miss : (∀ h : spot f w < w.length, w[spot f w].1 ≠ f) → (over (encW w ++ [(0, (((false, []), []), false))]) (s + 1) (((encW w ++ [(0, (((false, []), []), false))]).drop s).take ((encW w ++ [(0, (((false, []), []), false))]).drop (s + 1)).length)).set s ((f : Int), canQ q, ok) = encW (along f q ok w) := by
   intro h
   have e := over_set' (encW w) (0, (((false, []), []), false)) ((f : Int), canQ q, ok) (k := s) (by omega)
   rw [e, along_miss h, ← es]
   simp [encW, encP]
 have ol := over_shift_len' (encW w) (0, (((false, []), []), false)) (k := s) (by omega)
 have i1 : iadd .i64 (s : Int) 1 = ((s + 1 : Nat) : Int) := iadd1 (by omega)
 have d1 : (0 : Int) ≤ (s : Int) := by omega
 have al : (encW w ++ [((0, (((false, []), []), false)) : PART)]).length = w.length + 1 := by simp [encW]
 rw [expect_along, c0, cond_true, key, Option.bind_some]
 dsimp only
 by_cases h : s < w.length
 · have d0 : (s : Int) < ((encW w).length : Int) := by omega
   rw [cnd d0, cnd2 d1 d0, Int.toNat_natCast, encW_get h, Option.bind_some]
   by_cases e : w[s].1 = f
   · have d2 : (encP w[s]).1 = (f : Int) := by show ((w[s].1 : Nat) : Int) = _; omega
     have hsz := hw _ (List.getElem_mem h)
     have hm := ratio_Mul_ok (hsz.sm (by omega)) (hq.sm (by omega))
     rw [rv_canQ, rv_canQ] at hm
     have hm : ratio_Mul (encP w[s]).2.1 (canQ q) = some (canQ (w[s].2.1 * q)) := hm
     obtain ⟨x, ex⟩ : ∃ x : PART, x = ((encP w[s]).1, canQ (w[s].2.1 * q), (encP w[s]).2.2) := ⟨_, rfl⟩
     have ls : ((encW w).set s x).length = w.length := by simp [encW]
     have gx : ((encW w).set s x)[s]? = some x := by rw [List.getElem?_set, if_pos rfl, if_pos (by omega)]
     have d3 : (s : Int) < (((encW w).set s x).length : Int) := by omega
     have fin : (encW w).set s ((f : Int), canQ (w[s].2.1 * q), w[s].2.2 && ok) = encW (along f q ok w) := by
      rw [along_hit (by omega) (by subst es; exact e)]
      subst es
      simp [encW, encP]
     rw [cnd d2, cnd2 d1 d0, Option.bind_some]
     show (ratio_Mul (encP w[s]).2.1 (canQ q)).bind _ = _
     rw [hm, Option.bind_some, cnd2 d1 d0, Option.bind_some, ← ex, cnd2 d1 d3, gx, Option.bind_some, show x.2.2 = w[s].2.2 by rw [ex]; rfl]
     rw [← fin]
     cases hok : w[s].2.2 with
     | true =>
      rw [cond_true, cnd2 d1 d3, Option.bind_some, List.set_set, ex, Bool.true_and]
      simp only
      rw [d2]
     | false =>
      rw [cond_false, cnd2 d1 d3, Option.bind_some, List.set_set, ex, Bool.false_and]
      simp only
      rw [d2]
   · have d2 : ¬ (encP w[s]).1 = (f : Int) := by show ¬ ((w[s].1 : Nat) : Int) = _; omega
     rw [cnd' d2, blt (by omega), cond_true, i1, cnd2 (by omega) (by rw [al]; omega), cnd2 d1 (by rw [al]; omega), Int.toNat_natCast, cnd2 d1 (by rw [ol]; omega), List.getElem?_eq_getElem (by rw [ol]; omega), Option.bind_some]
     show some _ = _
     rw [← miss (fun h' => by subst es; exact e)]
 · rw [cnd' (by omega), blt (by omega), cond_true, i1, cnd2 (by omega) (by rw [al]; omega), cnd2 d1 (by rw [al]; omega), Int.toNat_natCast, Int.toNat_natCast, cnd2 d1 (by rw [ol]; omega), List.getElem?_eq_getElem (by rw [ol]; omega), Option.bind_some]
   show some _ = _
   rw [← miss (fun h' => absurd h' (by omega))]
abbrev AL := Nat × Rat × List AP
def encL (x : AL) : LEG := ((x.1 : Int), canQ x.2.1, encW x.2.2)
def featT (t : List NODE) (i : Nat) : Nat := (nFeat (nodeAt t i)).toNat
def legsT (t : List NODE) (row : List CELL) : TR → List AP → List AL
 | .leaf i, w => [(i, rv (nVal (nodeAt t i)), w)]
 | .split i l r, w => legsT t row l (along (featT t i) (cov t l.top / cov t i) (goL t row i) w) ++ legsT t row r (along (featT t i) (cov t r.top / cov t i) (!goL t row i) w)
theorem legsT_len (t : List NODE) (row : List CELL) (T : TR) (w : List AP) : (legsT t row T w).length = (leavesT T).length := by
 induction T generalizing w with
 | leaf i => rfl
 | split i l r ihl ihr => simp only [legsT, leavesT, List.length_append, ihl, ihr]
def WSz (w : List AP) (m : Nat) (f : Nat) : Prop := ASz w (8 * m + 1) ∧ w.length ≤ m ∧ ∀ p ∈ w, p.1 < f
theorem along_mem {f : Nat} {q : Rat} {ok : Bool} {w : List AP} : ∀ p ∈ along f q ok w, p.1 = f ∨ ∃ p' ∈ w, p'.1 = p.1 := by
 induction w with
 | nil => intro p hp; simp [along] at hp; subst hp; exact .inl rfl
 | cons a w ih =>
  intro p hp
  simp only [along] at hp
  split at hp
  · rcases List.mem_cons.1 hp with rfl | hp
    · exact .inr ⟨p, List.mem_cons_self, rfl⟩
    · rcases ih p hp with h | ⟨p', h1, h2⟩
      · exact .inl h
      · exact .inr ⟨p', List.mem_cons_of_mem _ h1, h2⟩
  · split at hp
    · rcases List.mem_cons.1 hp with rfl | hp
      · exact .inl rfl
      · exact .inr ⟨p, List.mem_cons_of_mem _ hp, rfl⟩
    · rcases List.mem_cons.1 hp with rfl | hp
      · exact .inl rfl
      · exact .inr ⟨p, hp, rfl⟩
theorem WSz.along {w : List AP} {m f g : Nat} {q : Rat} {ok : Bool} (h : WSz w m g) (hq : SzQ q 8) (hf : f < g) : WSz (X.along f q ok w) (m + 1) g := by
 refine ⟨fun p hp => (along_sz h.1 hq p hp).mono (by omega), Nat.le_trans (along_len _ _ _ _) (by have := h.2.1; omega), fun p hp => ?_⟩
 rcases along_mem p hp with e | ⟨p', h1, h2⟩
 · omega
 · have := h.2.2 p' h1; omega
theorem share_sz {t : List NODE} (hs : TSz t 4) {a i : Nat} (ha : a < t.length) (hi : i < t.length) : SzQ (cov t a / cov t i) 8 := (cov_sz hs ha).div (cov_sz hs hi)
theorem legsT_sz {t : List NODE} {row : List CELL} {T : TR} {g : Nat} (hs : TSz t 4) (h : Is t (g : Int) T) : ∀ {w : List AP} {m : Nat}, WSz w m g → ∀ x ∈ legsT t row T w, WSz x.2.2 (m + T.deep) g ∧ SzQ x.2.1 4 := by
 induction T with
 | leaf i =>
  intro w m hw x hx
  simp only [legsT, List.mem_singleton] at hx
  subst hx
  refine ⟨⟨fun p hp => (hw.1 p hp).mono (by simp only [TR.deep]; omega), by have := hw.2.1; simp only [TR.deep]; omega, hw.2.2⟩, (hs.at h.1).2.1.szQ (by decide)⟩
 | split i l r ihl ihr =>
  intro w m hw x hx
  obtain ⟨h1, h2, f0, f1, h3, h4, h5, h6⟩ := h
  have hf : featT t i < g := by rw [featT, nodeAt_get h1]; omega
  simp only [legsT, List.mem_append] at hx
  rcases hx with hx | hx
  · have := ihl h5 (hw.along (ok := goL t row i) (share_sz hs h5.top_lt h1) hf) x hx
    refine ⟨⟨fun p hp => (this.1.1 p hp).mono (by simp only [TR.deep]; omega), by have := this.1.2.1; simp only [TR.deep]; omega, this.1.2.2⟩, this.2⟩
  · have := ihr h6 (hw.along (ok := !goL t row i) (share_sz hs h6.top_lt h1) hf) x hx
    refine ⟨⟨fun p hp => (this.1.1 p hp).mono (by simp only [TR.deep]; omega), by have := this.1.2.1; simp only [TR.deep]; omega, this.1.2.2⟩, this.2⟩
theorem legs_ok {t : List NODE} {row : List CELL} (hs : TSz t 4) (hc : CSz row 9) (hcov : CoversP t) (hrl : row.length ≤ 64) : ∀ (n : Nat) (T : TR) (w : List AP) (m : Nat), Is t (row.length : Int) T → T.deep ≤ n → T.size ≤ 1000000 → WSz w m row.length → m + T.deep ≤ 10000 →
  expect_legs n t row (T.top : Int) (encW w) = some ((legsT t row T w).map encL) := by
 intro n
 induction n with
 | zero => intro T w m _ hd; have := T.deep_pos; omega
 | succ n ih =>
  intro T w m h hd hz hw hm
  show expect_legs_b (expect_legs n) t row T.top (encW w) = _
  have hwl := hw.2.1
  cases T with
  | leaf i =>
   obtain ⟨h1, h2⟩ := h
   have z := hs _ (List.getElem_mem h1)
   rw [expect_legs_b, show ((TR.leaf i).top : Int) = (i : Int) from rfl, cnd (by omega), Int.toNat_natCast, List.getElem?_eq_getElem h1, Option.bind_some, show t[i].1 = true from h2, cond_true, ratio_Clean_ok (z.2.1.sm (by decide)), Option.bind_some, blt (by simp [encW]; omega), cond_true]
   simp only [legsT, List.map_cons, List.map_nil, encL, nodeAt_get h1, List.nil_append]
  | split i l r =>
   obtain ⟨h1, h2, f0, f1, h3, h4, h5, h6⟩ := h
   simp only [TR.deep] at hd hm
   simp only [TR.size] at hz
   have d0 : (0 : Int) ≤ (i : Int) := by omega
   obtain ⟨c, g1, g2, g3⟩ := goL_ok (f := 0) hs hc h1 f0 f1
   have z := hs _ (List.getElem_mem h1)
   have tl := h5.top_lt
   have tr := h6.top_lt
   have zl := hs _ (List.getElem_mem tl)
   have zr := hs _ (List.getElem_mem tr)
   have hne : rv (nCov t[i]) ≠ 0 := by have := hcov.ne i h1; rwa [cov_get h1] at this
   have o1 := over_ok (zl.2.2.sm (by decide)) (z.2.2.sm (by decide)) hne
   have o2 := over_ok (zr.2.2.sm (by decide)) (z.2.2.sm (by decide)) hne
   rw [← cov_get tl, ← cov_get h1] at o1
   rw [← cov_get tr, ← cov_get h1] at o2
   have hft : ((featT t i : Nat) : Int) = nFeat t[i] := by rw [featT, nodeAt_get h1]; omega
   have hf : featT t i < row.length := by omega
   have a1 := along_ok (f := featT t i) (ok := goL t row i) hw.1 (share_sz hs tl h1) (by omega) (by decide) (by omega) (by omega)
   have a2 := along_ok (f := featT t i) (ok := !goL t row i) hw.1 (share_sz hs tr h1) (by omega) (by decide) (by omega) (by omega)
   rw [hft] at a1 a2
   have el := ih l _ (m + 1) h5 (by omega) (by omega) (hw.along (ok := goL t row i) (share_sz hs tl h1) hf) (by omega)
   have er := ih r _ (m + 1) h6 (by omega) (by omega) (hw.along (ok := !goL t row i) (share_sz hs tr h1) hf) (by omega)
   have ll := legsT_len t row l (along (featT t i) (cov t l.top / cov t i) (goL t row i) w)
   have lr := legsT_len t row r (along (featT t i) (cov t r.top / cov t i) (!goL t row i) w)
   have bl := leavesT_len l
   have br := leavesT_len r
   rw [expect_legs_b, show ((TR.split i l r).top : Int) = (i : Int) from rfl, cnd d0, Int.toNat_natCast, List.getElem?_eq_getElem h1, Option.bind_some, show t[i].1 = false from h2, cond_false, show t[i].2.1 = nFeat t[i] from rfl, cnd f0, g1, Option.bind_some, Left_ok z.1 (by decide) g2 (by decide), Option.bind_some, g3, show (!nLeaf t[i]) = true by rw [h2]; rfl, Bool.true_and, show t[i].2.2.2.1 = _ from h3, cnd (by omega), Int.toNat_natCast, List.getElem?_eq_getElem tl, Option.bind_some, o1, Option.bind_some, a1, Option.bind_some, el, Option.bind_some, show t[i].2.2.2.2.1 = _ from h4, cnd (by omega), Int.toNat_natCast, List.getElem?_eq_getElem tr, Option.bind_some, o2, Option.bind_some, a2, Option.bind_some, er, Option.bind_some, blt (by simp only [List.length_map, ll, lr]; omega), cond_true]
   simp only [legsT, List.map_append]
def lprod : List Rat → Rat
 | [] => 1
 | x :: r => x * lprod r
theorem lprod_append (a b : List Rat) : lprod (a ++ b) = lprod a * lprod b := by
 induction a with
 | nil => simp [lprod, Rat.one_mul]
 | cons x a ih => simp only [List.cons_append, lprod, ih, Rat.mul_assoc]
theorem WSz.nil (f : Nat) : WSz [] 0 f := ⟨fun p hp => absurd hp (by simp), Nat.le_refl _, fun p hp => absurd hp (by simp)⟩
theorem Legs_ok {t : List NODE} {row : List CELL} (ht : t.length ≤ 15) (hs : TSz t 4) (hc : CSz row 9) (hg : Good ((row.length : Int), [t])) (hrl : row.length ≤ 64) :
  expect_Legs t row = some ((legsT t row (treeOf t) []).map encL, 0) ∧ (∀ x ∈ legsT t row (treeOf t) [], WSz x.2.2 16 row.length ∧ SzQ x.2.1 4) ∧ (legsT t row (treeOf t) []).length ≤ 65536 := by
 obtain ⟨b, h1, h2⟩ := TreeV_ok (f := (row.length : Int)) ht hs
 have hb : b = true := h2.2 hg
 subst hb
 obtain ⟨g1, g2, g3⟩ := hg.treeOf (i := 0) (by simp)
 have g1 : Is t (row.length : Int) (treeOf t) := g1
 have g2 : (treeOf t).top = 0 := g2
 have g3 : (treeOf t).deep ≤ t.length + 1 := g3
 have hz := TR.size_le (T := treeOf t) (by omega)
 have hcov : CoversP t := hg.covers (i := 0) (by simp)
 have hl := legs_ok hs hc hcov hrl R0 (treeOf t) [] 0 g1 (by unfold R0; omega) (by omega) (WSz.nil _) (by omega)
 rw [g2] at hl
 have hl : expect_legs R0 t row 0 [] = _ := hl
 have hn := legsT_len t row (treeOf t) []
 have hn2 := leavesT_len (treeOf t)
 refine ⟨by rw [expect_Legs, h1, Option.bind_some, Bool.not_true, cond_false, hl, Option.bind_some], fun x hx => ?_, by omega⟩
 have hw := legsT_sz hs g1 (WSz.nil _) x hx
 refine ⟨⟨fun p hp => (hw.1.1 p hp).mono (by omega), by have := hw.1.2.1; omega, hw.1.2.2⟩, hw.2⟩
theorem Askd.goodT {m : MODEL} {row : List CELL} (h : Askd m row) {i : Nat} (hi : i < m.2.length) : Good ((row.length : Int), [m.2[i]]) := by
 have hg := h.good
 refine ⟨⟨?_, ?_, ?_, ?_⟩, ?_⟩
 · rw [h.len]; exact hg.1.1
 · rw [h.len]; exact hg.1.2.1
 · simp
 · intro j hj
   have hj : j < 1 := hj
   have : j = 0 := by omega
   subst this
   exact hg.1.2.2.2 i hi
 · intro r hr j hj
   have hj : j < 1 := hj
   have : j = 0 := by omega
   subst this
   have := hg.2 r hr i hi
   show RuleP (row.length : Int) r m.2[i]
   rw [h.len]; exact this
def SortA (w : List AP) : Prop := w.Pairwise fun a b => a.1 < b.1
theorem along_sort {f : Nat} {q : Rat} {ok : Bool} {w : List AP} (h : SortA w) : SortA (along f q ok w) := by
 induction w with
 | nil => simp [along, SortA]
 | cons p w ih =>
  have h1 := List.pairwise_cons.1 h
  simp only [along]
  split
  · rename_i hp
    refine List.pairwise_cons.2 ⟨fun a ha => ?_, ih h1.2⟩
    rcases along_mem a ha with e | ⟨p', h3, h4⟩
    · omega
    · have := h1.1 p' h3; omega
  · split
    · rename_i e
      exact List.pairwise_cons.2 ⟨fun a ha => by have := h1.1 a ha; show f < a.1; omega, h1.2⟩
    · refine List.pairwise_cons.2 ⟨fun a ha => ?_, h⟩
      show f < a.1
      rcases List.mem_cons.1 ha with rfl | ha
      · omega
      · have := h1.1 a ha; omega
def castL (l : List Nat) : List Int := l.map fun (n : Nat) => (n : Int)
theorem castL_len (l : List Nat) : (castL l).length = l.length := by simp [castL]
theorem castL_get {l : List Nat} {i : Nat} (h : i < l.length) : (castL l)[i]? = some ((l[i] : Nat) : Int) := by simp [castL, h]
theorem castL_append (a b : List Nat) : castL (a ++ b) = castL a ++ castL b := by simp [castL]
def flo (n : Nat) (o : Nat → Rat) : List RAT := (List.range n).map fun f => canQ (o f)
theorem flo_len (n : Nat) (o : Nat → Rat) : (flo n o).length = n := by simp [flo]
theorem flo_get {n f : Nat} (o : Nat → Rat) (h : f < n) : (flo n o)[f]? = some (canQ (o f)) := by simp [flo, h]
theorem flo_congr {n : Nat} {o p : Nat → Rat} (h : ∀ f, f < n → o f = p f) : flo n o = flo n p := by
 rw [flo, flo]
 exact List.map_congr_left fun f hf => by rw [h f (List.mem_range.1 hf)]
theorem flo_set {n i : Nat} {o p : Nat → Rat} {x : Rat} (hx : p i = x) (hp : ∀ f, f ≠ i → p f = o f) : (flo n o).set i (canQ x) = flo n p := by
 apply List.ext_getElem?
 intro f
 rw [List.getElem?_set]
 by_cases hf : f < n
 · rw [flo_get _ hf, flo_get _ hf, flo_len]
   by_cases e : i = f
   · rw [if_pos e, if_pos (by omega), ← e, hx]
   · rw [if_neg e, hp f (fun h => e h.symm)]
 · have h1 : (flo n o)[f]? = none := List.getElem?_eq_none (by rw [flo_len]; omega)
   have h2 : (flo n p)[f]? = none := List.getElem?_eq_none (by rw [flo_len]; omega)
   rw [h1, h2]
   split
   · rw [if_neg (by rw [flo_len]; omega)]
   · rfl
theorem vzeros_ok {n : Nat} (h : n ≤ 1000000) : versus_zeros (n : Int) = some (flo n fun _ => 0) := by
 have key := lp_up (step := versus_zeros_s3) (fun i => ((flo i (fun _ => 0), (n : Int), (i : Int), ()), ())) n (r := ((flo n (fun _ => 0), ()), ())) (by omega) (by
  intro g i hi
  have d0 : (i : Int) < (n : Int) := by omega
  rw [versus_zeros_s3, cnd d0, ratio_Zero_ok, Option.bind_some, blt (by rw [flo_len]; omega), cond_true, iadd1 (by omega)]
  have : flo i (fun _ => 0) ++ [canQ 0] = flo (i + 1) fun _ => 0 := by simp [flo, List.range_succ]
  rw [this]; rfl) (by
  intro g
  rw [versus_zeros_s3, cnd' (by omega)])
 have key : lp versus_zeros_s3 K0 (([], (n : Int), 0, ()), ()) = _ := key
 rw [versus_zeros, key]; rfl
abbrev PP := AP × AP
def mN (z : List PP) : List Nat := z.filterMap fun x => if x.1.2.2 && !x.2.2.2 then some x.1.1 else none
def iN (z : List PP) : List Nat := z.filterMap fun x => if !x.1.2.2 && x.2.2.2 then some x.1.1 else none
def bothNo (x : PP) : Bool := !x.1.2.2 && !x.2.2.2
def nN (z : List PP) : Bool := z.any bothNo
theorem mN_append (a b : List PP) : mN (a ++ b) = mN a ++ mN b := by simp [mN]
theorem iN_append (a b : List PP) : iN (a ++ b) = iN a ++ iN b := by simp [iN]
theorem mN_len (z : List PP) : (mN z).length ≤ z.length := List.length_filterMap_le _ _
theorem iN_len (z : List PP) : (iN z).length ≤ z.length := List.length_filterMap_le _ _
theorem sides_ok {x y : AL} (h : x.2.2.length = y.2.2.length) (hl : x.2.2.length ≤ 1000000) :
   versus_sides (encL x) (encL y) = some (if nN (x.2.2.zip y.2.2) then ([], [], false) else (castL (mN (x.2.2.zip y.2.2)), castL (iN (x.2.2.zip y.2.2)), true)) := by
 obtain ⟨f, v, a⟩ := x
 obtain ⟨f', v', b⟩ := y
 have h : a.length = b.length := h
 have hl : a.length ≤ 1000000 := hl
 show _ = some (if nN (a.zip b) then _ else (castL (mN (a.zip b)), castL (iN (a.zip b)), true))
 obtain ⟨z, ez⟩ : ∃ z, z = a.zip b := ⟨_, rfl⟩
 have zl : z.length = a.length := by rw [ez, List.length_zip]; omega
 have za : ∀ i (hi : i < a.length), z[i]'(by omega) = (a[i], b[i]'(by omega)) := by intro i hi; subst ez; simp
 rw [← ez]
 have key := lp_allh (step := versus_sides_s2) (fun i => ((castL (mN (z.take i)), castL (iN (z.take i)), encW a, ((encW a).length : Int), (i : Int), ()), (((encL (f', v', b)).1, (encL (f', v', b)).2.1.1.1, (encL (f', v', b)).2.1.1.2, (encL (f', v', b)).2.1.2, encW b, ()), ())))
   a.length (fun i => ∀ h : i < z.length, bothNo z[i] = false) (fun r => r = .inr (([], [], false, ()), ())) (.inl ((castL (mN z), castL (iN z), ()), ())) (by omega) (by
   intro i hi _
   have d0 : (i : Int) < ((encW a).length : Int) := by rw [encW_len]; omega
   have d1 : (0 : Int) ≤ (i : Int) := by omega
   have hz := za i hi
   have ht : z.take (i + 1) = z.take i ++ [z[i]'(by omega)] := List.take_succ_eq_append_getElem (by omega)
   have m1 := mN_len (z.take i)
   have m2 := iN_len (z.take i)
   simp only [List.length_take] at m1 m2
   have b1 : (Nat.ble (((castL (mN (z.take i))).length + 1) * 8) 140737488355328 && !false) = true := blt (by rw [castL_len]; omega)
   have b2 : (Nat.ble (((castL (iN (z.take i))).length + 1) * 8) 140737488355328 && !false) = true := blt (by rw [castL_len]; omega)
   have e1 : (encP a[i]).2.2 = a[i].2.2 := rfl
   have e2 : (encP (b[i]'(by omega))).2.2 = (b[i]'(by omega)).2.2 := rfl
   have e3 : (encP a[i]).1 = ((a[i].1 : Nat) : Int) := rfl
   have st : ∀ g, versus_sides_s2 g ((castL (mN (z.take i)), castL (iN (z.take i)), encW a, ((encW a).length : Int), (i : Int), ()), (((encL (f', v', b)).1, (encL (f', v', b)).2.1.1.1, (encL (f', v', b)).2.1.1.2, (encL (f', v', b)).2.1.2, encW b, ()), ())) =
      if bothNo z[i] then some (.inr (([], [], false, ()), ())) else g ((castL (mN (z.take (i + 1))), castL (iN (z.take (i + 1))), encW a, ((encW a).length : Int), ((i + 1 : Nat) : Int), ()), (((encL (f', v', b)).1, (encL (f', v', b)).2.1.1.1, (encL (f', v', b)).2.1.1.2, (encL (f', v', b)).2.1.2, encW b, ()), ())) := by
     intro g
     rw [versus_sides_s2, cnd d0, cnd d1, Int.toNat_natCast, encW_get hi, Option.bind_some, cnd d1, encW_get (by omega), Option.bind_some, e1, e2, e3, iadd1 (by omega), b1, b2, ht, mN_append, iN_append, castL_append, castL_append, hz]
     cases h1 : a[i].2.2 <;> cases h2 : (b[i]'(by omega)).2.2 <;> simp [bothNo, h1, h2, mN, iN, castL]
   by_cases hb : bothNo (z[i]'(by omega)) = true
   · exact .inr ⟨fun hh => absurd (hh (by omega)) (by rw [hb]; decide), _, rfl, fun g => by rw [st g, if_pos hb]⟩
   · exact .inl ⟨fun _ => by simpa using hb, fun g => by rw [st g, if_neg hb]⟩) (by
   intro g
   rw [versus_sides_s2, cnd' (by rw [encW_len]; omega), List.take_of_length_le (by omega)])
 have e : versus_sides (encL (f, v, a)) (encL (f', v', b)) = (lp versus_sides_s2 K0 ((castL (mN (z.take 0)), castL (iN (z.take 0)), encW a, ((encW a).length : Int), ((0 : Nat) : Int), ()), (((encL (f', v', b)).1, (encL (f', v', b)).2.1.1.1, (encL (f', v', b)).2.1.1.2, (encL (f', v', b)).2.1.2, encW b, ()), ()))).bind fun t3 => (match t3 with | .inl t4 => some (t4.1.1, t4.1.2.1, true) | .inr t5 => some (t5.1.1, t5.1.2.1, t5.1.2.2.1)) := rfl
 rw [e]
 rcases key with ⟨hall, h1⟩ | ⟨hn, r, rfl, h1⟩
 · have : nN z = false := by
     rw [nN, List.any_eq_false]
     intro x hx
     obtain ⟨i, hi, rfl⟩ := List.mem_iff_getElem.1 hx
     rw [hall i (by omega) hi]; simp
   rw [h1, Option.bind_some, this, if_neg (by decide)]
 · have : nN z = true := by
     cases hb : nN z with
     | true => rfl
     | false =>
      exfalso
      apply hn
      intro i hi hi'
      rw [nN, List.any_eq_false] at hb
      simpa using hb _ (List.getElem_mem hi')
   rw [h1, Option.bind_some, this, if_pos rfl]
def addO (o : Nat → Rat) (x : Rat) (l : List Nat) : Nat → Rat := fun f => if f ∈ l then o f + x else o f
theorem addO_step {n i : Nat} {o : Nat → Rat} {x : Rat} {l : List Nat} (hi : i < l.length) (hnd : l.Nodup) :
   addO o x (l.take i) l[i] = o l[i] ∧ (flo n (addO o x (l.take i))).set l[i] (canQ (o l[i] + x)) = flo n (addO o x (l.take (i + 1))) := by
 have hni : l[i] ∉ l.take i := by
   intro h
   obtain ⟨j, hj, e⟩ := List.mem_iff_getElem.1 h
   have hj2 : j < i := by simp at hj; omega
   rw [List.getElem_take] at e
   exact List.pairwise_iff_getElem.1 hnd j i (by omega) hi hj2 e
 have ht := List.take_succ_eq_append_getElem hi
 refine ⟨by rw [addO, if_neg hni], flo_set ?_ ?_⟩
 · rw [addO, ht, if_pos (List.mem_append.2 (.inr List.mem_cons_self))]
 · intro f hf
   have : (f ∈ l.take (i + 1)) = (f ∈ l.take i) := by rw [ht, List.mem_append, List.mem_singleton]; exact propext ⟨fun h => h.resolve_right hf, .inl⟩
   simp only [addO, this]
theorem addO_sz {o : Nat → Rat} {x : Rat} {l : List Nat} {k j f : Nat} (h : SzQ (o f) k) (hx : SzQ x j) : SzQ (addO o x l f) (k + j + 1) := by
 unfold addO; split
 · exact (h.add hx).mono (by omega)
 · exact h.mono (by omega)
theorem addO_nil (o : Nat → Rat) (x : Rat) : addO o x [] = o := by funext f; simp [addO]
theorem counter_ok {n k : Nat} {o : Nat → Rat} {v : Rat} {mi it : List Nat} {d st sm : Int} {f : List WH} (hT : Tab d st sm f) (ho : ∀ f, f < n → SzQ (o f) k) (hk : k < 1000000000) (hv : SzQ v 4)
  (h64 : mi.length + it.length ≤ 64) (nm : mi.Nodup) (ni : it.Nodup) (lm : ∀ f ∈ mi, f < n) (li : ∀ f ∈ it, f < n) :
  ∃ d' st' sm' f', versus_counter_add (canQ v) (castL mi) (castL it) (flo n o) d st sm f = some (flo n (addO (addO o (v * nin mi.length it.length) mi) (v * nout mi.length it.length) it), d', st', sm', f') ∧ Tab d' st' sm' f' := by
 obtain ⟨d', st', sm', f', hN, hT'⟩ := Need_ok hT h64
 refine ⟨d', st', sm', f', ?_, hT'⟩
 have z1 := nin_sz h64
 have z2 := nout_sz h64
 obtain ⟨a, ea⟩ : ∃ a, a = nin mi.length it.length := ⟨_, rfl⟩
 obtain ⟨b, eb⟩ : ∃ b, b = nout mi.length it.length := ⟨_, rfl⟩
 rw [← ea] at z1 hN ⊢
 rw [← eb] at z2 hN ⊢
 have m1 := ratio_Mul_ok (hv.sm (by decide)) (z1.sm (by decide))
 have m2 := ratio_Mul_ok (hv.sm (by decide)) (z2.sm (by decide))
 rw [rv_canQ, rv_canQ] at m1 m2
 have zz1 := hv.mul z1
 have zz2 := hv.mul z2
 have l1 := castL_len mi
 have l2 := castL_len it
 have key1 := lp_up (step := versus_counter_add_s3) (fun i => ((castL it, castL mi, ((castL mi).length : Int), (i : Int), ()), (((canQ v).1.1, (canQ v).1.2, (canQ v).2, ()), ((canQ a).1.1, (canQ a).1.2, (canQ a).2, ()), ((canQ b).1.1, (canQ b).1.2, (canQ b).2, ()), (flo n (addO o (v * a) (mi.take i)), ()), (d', st', sm', f', ()), ()))) mi.length (r := ((castL it, ()), (((canQ v).1.1, (canQ v).1.2, (canQ v).2, ()), ((canQ b).1.1, (canQ b).1.2, (canQ b).2, ()), (flo n (addO o (v * a) mi), ()), (d', st', sm', f', ()), ()))) (by omega) (by
  intro g i hi
  have d0 : (i : Int) < ((castL mi).length : Int) := by omega
  have d1 : (0 : Int) ≤ (i : Int) := by omega
  have hf := lm _ (List.getElem_mem hi)
  have d2 : (0 : Int) ≤ ((mi[i] : Nat) : Int) := by omega
  have d3 : ((mi[i] : Nat) : Int) < ((flo n (addO o (v * a) (mi.take i))).length : Int) := by rw [flo_len]; omega
  obtain ⟨s1, s2⟩ := addO_step (n := n) (o := o) (x := v * a) hi nm
  have ha := ratio_Add_ok ((ho _ hf).sm (by omega)) (zz1.sm (by decide))
  rw [rv_canQ, rv_canQ] at ha
  rw [versus_counter_add_s3, cnd d0, cnd d1, Int.toNat_natCast, castL_get hi, Option.bind_some, cnd2 d2 d3, Int.toNat_natCast, flo_get _ hf, Option.bind_some, s1]
  show (ratio_Mul (canQ v) (canQ a)).bind _ = _
  rw [m1, Option.bind_some, ha, Option.bind_some, cnd2 d2 d3, Option.bind_some, s2, iadd1 (by omega)]
  rfl) (by
  intro g
  rw [versus_counter_add_s3, cnd' (by omega), List.take_of_length_le (Nat.le_refl _)])
 rw [show ((castL it, castL mi, ((castL mi).length : Int), ((0 : Nat) : Int), ()), (((canQ v).1.1, (canQ v).1.2, (canQ v).2, ()), ((canQ a).1.1, (canQ a).1.2, (canQ a).2, ()), ((canQ b).1.1, (canQ b).1.2, (canQ b).2, ()), (flo n (addO o (v * a) (mi.take 0)), ()), (d', st', sm', f', ()), ())) = ((castL it, castL mi, ((castL mi).length : Int), (0 : Int), ()), (((canQ v).1.1, (canQ v).1.2, (canQ v).2, ()), ((canQ a).1.1, (canQ a).1.2, (canQ a).2, ()), ((canQ b).1.1, (canQ b).1.2, (canQ b).2, ()), (flo n o, ()), (d', st', sm', f', ()), ())) by rw [List.take_zero, addO_nil]; rfl] at key1
 have key2 := lp_up (step := versus_counter_add_s8) (fun i => ((castL it, ((castL it).length : Int), (i : Int), ()), (((canQ v).1.1, (canQ v).1.2, (canQ v).2, ()), ((canQ b).1.1, (canQ b).1.2, (canQ b).2, ()), (flo n (addO (addO o (v * a) mi) (v * b) (it.take i)), ()), (d', st', sm', f', ()), ()))) it.length (r := ((()), ((flo n (addO (addO o (v * a) mi) (v * b) it), ()), (d', st', sm', f', ()), ()))) (by omega) (by
  intro g i hi
  have d0 : (i : Int) < ((castL it).length : Int) := by omega
  have d1 : (0 : Int) ≤ (i : Int) := by omega
  have hf := li _ (List.getElem_mem hi)
  have d2 : (0 : Int) ≤ ((it[i] : Nat) : Int) := by omega
  have d3 : ((it[i] : Nat) : Int) < ((flo n (addO (addO o (v * a) mi) (v * b) (it.take i))).length : Int) := by rw [flo_len]; omega
  obtain ⟨s1, s2⟩ := addO_step (n := n) (o := addO o (v * a) mi) (x := v * b) hi ni
  have ha := ratio_Add_ok ((addO_sz (l := mi) (ho _ hf) zz1).sm (by omega)) (zz2.sm (by decide))
  rw [rv_canQ, rv_canQ] at ha
  rw [versus_counter_add_s8, cnd d0, cnd d1, Int.toNat_natCast, castL_get hi, Option.bind_some, cnd2 d2 d3, Int.toNat_natCast, flo_get _ hf, Option.bind_some, s1]
  show (ratio_Mul (canQ v) (canQ b)).bind _ = _
  rw [m2, Option.bind_some, ha, Option.bind_some, cnd2 d2 d3, Option.bind_some, s2, iadd1 (by omega)]
  rfl) (by
  intro g
  rw [versus_counter_add_s8, cnd' (by omega), List.take_of_length_le (Nat.le_refl _)])
 rw [show ((castL it, ((castL it).length : Int), ((0 : Nat) : Int), ()), (((canQ v).1.1, (canQ v).1.2, (canQ v).2, ()), ((canQ b).1.1, (canQ b).1.2, (canQ b).2, ()), (flo n (addO (addO o (v * a) mi) (v * b) (it.take 0)), ()), (d', st', sm', f', ()), ())) = ((castL it, ((castL it).length : Int), (0 : Int), ()), (((canQ v).1.1, (canQ v).1.2, (canQ v).2, ()), ((canQ b).1.1, (canQ b).1.2, (canQ b).2, ()), (flo n (addO o (v * a) mi), ()), (d', st', sm', f', ()), ())) by rw [List.take_zero, addO_nil]; rfl] at key2
 rw [versus_counter_add, l1, l2, hN, Option.bind_some]
 rw [l1] at key1
 rw [l2] at key2
 dsimp only
 rw [key1, Option.bind_some]
 dsimp only
 rw [l2, key2, Option.bind_some]
def shp (w : List AP) : List (Nat × Rat) := w.map fun p => (p.1, p.2.1)
def shpA (x : AL) : Nat × Rat × List (Nat × Rat) := (x.1, x.2.1, shp x.2.2)
theorem along_shp {f : Nat} {q : Rat} {ok ok' : Bool} : ∀ {w w' : List AP}, shp w = shp w' → shp (along f q ok w) = shp (along f q ok' w') := by
 intro w
 induction w with
 | nil => intro w' h; cases w' with
  | nil => rfl
  | cons p w' => simp [shp] at h
 | cons p w ih =>
  intro w' h
  cases w' with
  | nil => simp [shp] at h
  | cons p' w' =>
   obtain ⟨a, b, c⟩ := p
   obtain ⟨a', b', c'⟩ := p'
   simp only [shp, List.map_cons, List.cons.injEq, Prod.mk.injEq] at h
   obtain ⟨⟨rfl, rfl⟩, h⟩ := h
   simp only [along]
   split
   · simp only [shp, List.map_cons, List.cons.injEq, true_and]; exact ih h
   · split
     · simp only [shp, List.map_cons, List.cons.injEq, true_and]; exact h
     · simp only [shp, List.map_cons, List.cons.injEq, true_and]; exact h
theorem legs_shp {t : List NODE} {row other : List CELL} (T : TR) : ∀ {w w' : List AP}, shp w = shp w' → (legsT t row T w).map shpA = (legsT t other T w').map shpA := by
 induction T with
 | leaf i => intro w w' h; simp only [legsT, List.map_cons, List.map_nil, shpA, h]
 | split i l r ihl ihr =>
  intro w w' h
  simp only [legsT, List.map_append]
  rw [ihl (along_shp h), ihr (along_shp h)]
theorem legs_sort {t : List NODE} {row : List CELL} (T : TR) : ∀ {w : List AP}, SortA w → ∀ x ∈ legsT t row T w, SortA x.2.2 := by
 induction T with
 | leaf i => intro w h x hx; simp only [legsT, List.mem_singleton] at hx; subst hx; exact h
 | split i l r ihl ihr =>
  intro w h x hx
  simp only [legsT, List.mem_append] at hx
  rcases hx with hx | hx
  · exact ihl (along_sort h) x hx
  · exact ihr (along_sort h) x hx
theorem mN_mem {z : List PP} {f : Nat} (h : f ∈ mN z) : ∃ x ∈ z, x.1.1 = f ∧ x.1.2.2 = true ∧ x.2.2.2 = false := by
 obtain ⟨x, hx, e⟩ := List.mem_filterMap.1 h
 split at e
 · rename_i hb
   simp only [Bool.and_eq_true, Bool.not_eq_true'] at hb
   exact ⟨x, hx, Option.some.inj e, hb.1, hb.2⟩
 · cases e
theorem iN_mem {z : List PP} {f : Nat} (h : f ∈ iN z) : ∃ x ∈ z, x.1.1 = f ∧ x.1.2.2 = false ∧ x.2.2.2 = true := by
 obtain ⟨x, hx, e⟩ := List.mem_filterMap.1 h
 split at e
 · rename_i hb
   simp only [Bool.and_eq_true, Bool.not_eq_true'] at hb
   exact ⟨x, hx, Option.some.inj e, hb.1, hb.2⟩
 · cases e
theorem zip_fst {w w' : List AP} {x : PP} (h : x ∈ w.zip w') : x.1 ∈ w := by
 obtain ⟨a, b⟩ := x; exact (List.of_mem_zip h).1
theorem sides_nodup {w w' : List AP} (h : SortA w) : (mN (w.zip w')).Nodup ∧ (iN (w.zip w')).Nodup ∧ (mN (w.zip w')).length + (iN (w.zip w')).length ≤ w.length := by
 induction w generalizing w' with
 | nil => simp [mN, iN]
 | cons p w ih =>
  cases w' with
  | nil => simp [mN, iN]
  | cons p' w' =>
   have h1 := List.pairwise_cons.1 h
   obtain ⟨a, b, c⟩ := ih (w' := w') h1.2
   have nm : p.1 ∉ mN (w.zip w') := fun hm => by
    obtain ⟨x, hx, e, _⟩ := mN_mem hm
    have := h1.1 _ (zip_fst hx); omega
   have ni : p.1 ∉ iN (w.zip w') := fun hm => by
    obtain ⟨x, hx, e, _⟩ := iN_mem hm
    have := h1.1 _ (zip_fst hx); omega
   have e1 : mN ((p :: w).zip (p' :: w')) = if p.2.2 && !p'.2.2 then p.1 :: mN (w.zip w') else mN (w.zip w') := by
    simp only [List.zip_cons_cons, mN, List.filterMap_cons]
    cases p.2.2 <;> cases p'.2.2 <;> simp
   have e2 : iN ((p :: w).zip (p' :: w')) = if !p.2.2 && p'.2.2 then p.1 :: iN (w.zip w') else iN (w.zip w') := by
    simp only [List.zip_cons_cons, iN, List.filterMap_cons]
    cases p.2.2 <;> cases p'.2.2 <;> simp
   rw [e1, e2, List.length_cons]
   cases p.2.2 <;> cases p'.2.2 <;> simp [a, b, nm, ni] <;> omega
def legAdd (x y : AL) (f : Nat) : Rat :=
 if nN (x.2.2.zip y.2.2) then 0 else
  (if f ∈ mN (x.2.2.zip y.2.2) then x.2.1 * nin (mN (x.2.2.zip y.2.2)).length (iN (x.2.2.zip y.2.2)).length else 0) +
  (if f ∈ iN (x.2.2.zip y.2.2) then x.2.1 * nout (mN (x.2.2.zip y.2.2)).length (iN (x.2.2.zip y.2.2)).length else 0)
abbrev LP := AL × AL
def LpOk (n : Nat) (x : LP) : Prop := shpA x.1 = shpA x.2 ∧ SortA x.1.2.2 ∧ WSz x.1.2.2 16 n ∧ SzQ x.1.2.1 4
theorem legAdd_sz {n : Nat} {x : LP} (h : LpOk n x) (f : Nat) : SzQ (legAdd x.1 x.2 f) 70 := by
 obtain ⟨_, h1, h2, h3⟩ := h
 have hl := (sides_nodup (w' := x.2.2.2) h1).2.2
 have h16 := h2.2.1
 have h64 : (mN (x.1.2.2.zip x.2.2.2)).length + (iN (x.1.2.2.zip x.2.2.2)).length ≤ 64 := by omega
 unfold legAdd
 split
 · exact SzQ.zero.mono (by decide)
 · have a : SzQ (if f ∈ mN (x.1.2.2.zip x.2.2.2) then x.1.2.1 * nin (mN (x.1.2.2.zip x.2.2.2)).length (iN (x.1.2.2.zip x.2.2.2)).length else 0) 34 := by
    split
    · exact h3.mul (nin_sz h64)
    · exact SzQ.zero.mono (by decide)
   have b : SzQ (if f ∈ iN (x.1.2.2.zip x.2.2.2) then x.1.2.1 * nout (mN (x.1.2.2.zip x.2.2.2)).length (iN (x.1.2.2.zip x.2.2.2)).length else 0) 34 := by
    split
    · exact h3.mul (nout_sz h64)
    · exact SzQ.zero.mono (by decide)
   exact (a.add b).mono (by decide)
theorem leg_ok {n k : Nat} {o : Nat → Rat} {x : LP} {d st sm : Int} {f : List WH} (hT : Tab d st sm f) (h : LpOk n x) (hno : nN (x.1.2.2.zip x.2.2.2) = false) (ho : ∀ f, f < n → SzQ (o f) k) (hk : k < 1000000000) :
  ∃ d' st' sm' f', versus_counter_add (canQ x.1.2.1) (castL (mN (x.1.2.2.zip x.2.2.2))) (castL (iN (x.1.2.2.zip x.2.2.2))) (flo n o) d st sm f = some (flo n (fun f => o f + legAdd x.1 x.2 f), d', st', sm', f') ∧ Tab d' st' sm' f' := by
 obtain ⟨_, h1, h2, h3⟩ := h
 obtain ⟨n1, n2, hl⟩ := sides_nodup (w' := x.2.2.2) h1
 have h16 := h2.2.1
 obtain ⟨d', st', sm', f', e, hT'⟩ := counter_ok hT ho hk h3 (mi := mN (x.1.2.2.zip x.2.2.2)) (it := iN (x.1.2.2.zip x.2.2.2)) (by omega) n1 n2
  (fun f hf => by obtain ⟨y, hy, e, _⟩ := mN_mem hf; have := h2.2.2 _ (zip_fst hy); omega) (fun f hf => by obtain ⟨y, hy, e, _⟩ := iN_mem hf; have := h2.2.2 _ (zip_fst hy); omega)
 refine ⟨d', st', sm', f', ?_, hT'⟩
 rw [e]
 congr 2
 refine flo_congr fun f _ => ?_
 simp only [addO, legAdd, hno, Bool.false_eq_true, if_false]
 split <;> split <;> grind
def treeAdd (t : List NODE) (row other : List CELL) (T : TR) (f : Nat) : Rat := lsum (((legsT t row T []).zip (legsT t other T [])).map fun x => legAdd x.1 x.2 f)
def oneV (m : MODEL) (row other : List CELL) (f : Nat) : Rat := rsum (fun i => treeAdd (treeAt m i) row other (treeOf (treeAt m i)) f) m.2.length
def zsum (Z : List LP) (f : Nat) : Rat := lsum (Z.map fun x => legAdd x.1 x.2 f)
theorem zsum_step {Z : List LP} {i : Nat} (h : i < Z.length) (f : Nat) : zsum (Z.take (i + 1)) f = zsum (Z.take i) f + legAdd Z[i].1 Z[i].2 f := by
 have := lsum_take_succ (l := Z.map fun x => legAdd x.1 x.2 f) (i := i) (by simpa using h)
 rw [← List.map_take, ← List.map_take] at this
 rw [zsum, this, zsum]; simp
theorem zsum_sz {Z : List LP} {n : Nat} (hz : ∀ x ∈ Z, LpOk n x) (hl : Z.length ≤ 65536) (f : Nat) : SzQ (zsum Z f) 4700000 := by
 have := lsum_sz (l := Z.map fun x => legAdd x.1 x.2 f) (k := 70) (fun x hx => by
  obtain ⟨s, hs, rfl⟩ := List.mem_map.1 hx
  exact legAdd_sz (hz s hs) f)
 rw [List.length_map] at this
 exact this.mono (by have := Nat.mul_le_mul_right 71 hl; omega)
theorem shpA_len {x y : AL} (h : shpA x = shpA y) : x.2.2.length = y.2.2.length ∧ x.2.1 = y.2.1 ∧ shp x.2.2 = shp y.2.2 := by
 simp only [shpA, Prod.mk.injEq] at h
 exact ⟨by have := congrArg List.length h.2.2; simpa [shp] using this, h.2.1, h.2.2⟩
theorem legs_loop {n k : Nat} {o : Nat → Rat} {row other : List CELL} {tr : List (List NODE)} {c1 c2 : Int} {A B : List AL} {d st sm : Int} {f : List WH} (hT : Tab d st sm f)
  (hab : A.length = B.length) (hz : ∀ x ∈ A.zip B, LpOk n x) (hl : A.length ≤ 65536) (ho : ∀ f, f < n → SzQ (o f) k) (hk : k < 100000000) :
  ∃ d' st' sm' f', lp versus_one_s8 K0 ((row, other, A.map encL, B.map encL, tr, c1, c2, ((A.map encL).length : Int), 0, ()), ((flo n o, ()), (d, st, sm, f, ()), ())) =
   some ((row, other, tr, c1, c2, ()), ((flo n (fun f => o f + zsum (A.zip B) f), ()), (d', st', sm', f', ()), ())) ∧ Tab d' st' sm' f' := by
 obtain ⟨Z, eZ⟩ : ∃ Z, Z = A.zip B := ⟨_, rfl⟩
 have zl : Z.length = A.length := by rw [eZ, List.length_zip]; omega
 have zg : ∀ i (hi : i < A.length), Z[i]'(by omega) = (A[i], B[i]'(by omega)) := by intro i hi; subst eZ; simp
 rw [← eZ] at hz ⊢
 obtain ⟨r, ⟨d', st', sm', f', hr, hT'⟩, e⟩ := lp_inv (step := versus_one_s8)
  (fun i v => ∃ d st sm f, v = ((row, other, A.map encL, B.map encL, tr, c1, c2, ((A.map encL).length : Int), (i : Int), ()), ((flo n (fun f => o f + zsum (Z.take i) f), ()), (d, st, sm, f, ()), ())) ∧ Tab d st sm f)
  (fun r => ∃ d' st' sm' f', r = ((row, other, tr, c1, c2, ()), ((flo n (fun f => o f + zsum Z f), ()), (d', st', sm', f', ()), ())) ∧ Tab d' st' sm' f') A.length
  (v := ((row, other, A.map encL, B.map encL, tr, c1, c2, ((A.map encL).length : Int), 0, ()), ((flo n o, ()), (d, st, sm, f, ()), ())))
  ⟨d, st, sm, f, by
   have : (fun f => o f + zsum (Z.take 0) f) = o := by funext f; simp [zsum, lsum, Rat.add_zero]
   rw [this]; rfl, hT⟩ (by omega) (by
  rintro i v hi ⟨d, st, sm, f, rfl, hT⟩
  have d0 : (i : Int) < ((A.map encL).length : Int) := by rw [List.length_map]; omega
  have d1 : (0 : Int) ≤ (i : Int) := by omega
  have d2 : (i : Int) < ((B.map encL).length : Int) := by rw [List.length_map]; omega
  have gA : (A.map encL)[i]? = some (encL A[i]) := by simp [hi]
  have gB : (B.map encL)[i]? = some (encL (B[i]'(by omega))) := by
   have : i < B.length := by omega
   simp [this]
  have hlp := hz _ (List.getElem_mem (show i < Z.length by omega))
  have eZi := zg i hi
  have hss := shpA_len hlp.1
  have h16 := hlp.2.2.1.2.1
  have hs := sides_ok (x := (Z[i]'(by omega)).1) (y := (Z[i]'(by omega)).2) hss.1 (by omega)
  have hstep := zsum_step (Z := Z) (i := i) (by omega)
  have ho' : ∀ f, f < n → SzQ (o f + zsum (Z.take i) f) (k + 4700000 + 1) := fun f hf => (ho f hf).add (zsum_sz (fun x hx => hz x (List.mem_of_mem_take hx)) (by simp; omega) f)
  have eA : A[i] = (Z[i]'(by omega)).1 := by rw [eZi]
  have eB : B[i]'(by omega) = (Z[i]'(by omega)).2 := by rw [eZi]
  cases hno : nN ((Z[i]'(by omega)).1.2.2.zip (Z[i]'(by omega)).2.2.2) with
  | true =>
   refine ⟨_, ⟨d, st, sm, f, rfl, hT⟩, fun g => ?_⟩
   rw [versus_one_s8, cnd d0, cnd2 d1 d0, Int.toNat_natCast, gA, Option.bind_some, cnd2 d1 d2, gB, Option.bind_some, eA, eB, hs, hno, if_pos rfl, Option.bind_some]
   dsimp only
   rw [cond_false, iadd1 (by omega)]
   have : flo n (fun f => o f + zsum (Z.take (i + 1)) f) = flo n (fun f => o f + zsum (Z.take i) f) := flo_congr fun f _ => by
    rw [hstep f, legAdd, if_pos hno, Rat.add_zero]
   rw [this]; rfl
  | false =>
   obtain ⟨d', st', sm', f', hc, hT'⟩ := leg_ok (o := fun f => o f + zsum (Z.take i) f) hT hlp hno ho' (by omega)
   refine ⟨_, ⟨d', st', sm', f', rfl, hT'⟩, fun g => ?_⟩
   have ev : (encL (Z[i]'(by omega)).1).2.1 = canQ (Z[i]'(by omega)).1.2.1 := rfl
   rw [versus_one_s8, cnd d0, cnd2 d1 d0, Int.toNat_natCast, gA, Option.bind_some, cnd2 d1 d2, gB, Option.bind_some, eA, eB, hs, hno, if_neg (by decide), Option.bind_some]
   dsimp only
   rw [cond_true, cnd2 d1 d0, Option.bind_some, ev, hc, Option.bind_some, iadd1 (by omega)]
   have : flo n (fun f => o f + zsum (Z.take (i + 1)) f) = flo n (fun f => o f + zsum (Z.take i) f + legAdd (Z[i]'(by omega)).1 (Z[i]'(by omega)).2 f) := flo_congr fun f _ => by
    rw [hstep f, Rat.add_assoc]
   rw [this]; rfl) (by
  rintro v ⟨d, st, sm, f, rfl, hT⟩
  refine ⟨_, ⟨d, st, sm, f, rfl, hT⟩, fun g => ?_⟩
  rw [versus_one_s8, cnd' (by rw [List.length_map]; omega), List.take_of_length_le (by omega)])
 exact ⟨d', st', sm', f', by rw [e, hr], hT'⟩
theorem pair_ok {t : List NODE} {row other : List CELL} {T : TR} {n : Nat} (h1 : ∀ x ∈ legsT t row T [], WSz x.2.2 16 n ∧ SzQ x.2.1 4) : (legsT t row T []).length = (legsT t other T []).length ∧ ∀ x ∈ (legsT t row T []).zip (legsT t other T []), LpOk n x := by
 have hl : (legsT t row T []).length = (legsT t other T []).length := by rw [legsT_len, legsT_len]
 refine ⟨hl, fun x hx => ?_⟩
 obtain ⟨i, hi, rfl⟩ := List.mem_iff_getElem.1 hx
 have hi1 : i < (legsT t row T []).length := by rw [List.length_zip] at hi; omega
 have hs := legs_shp (t := t) (row := row) (other := other) T (w := []) (w' := []) rfl
 have hm := List.getElem_mem hi1
 refine ⟨?_, ?_, ?_⟩
 · have := congrArg (fun l => l[i]?) hs
   simp only [List.getElem?_map, List.getElem?_eq_getElem hi1, List.getElem?_eq_getElem (show i < (legsT t other T []).length by omega), Option.map_some, Option.some.injEq] at this
   simpa using this
 · have := legs_sort T (w := []) (by simp [SortA]) _ hm
   simpa using this
 · have := h1 _ hm
   simpa using this
theorem treeAdd_sz {m : MODEL} {row other : List CELL} (h : Askd m row) {i : Nat} (hi : i < m.2.length) (f : Nat) : SzQ (treeAdd (treeAt m i) row other (treeOf (treeAt m i)) f) 4700000 := by
 have hg := Legs_ok (t := m.2[i]) (h.mt _ (List.getElem_mem hi)) (h.ms _ (List.getElem_mem hi)) h.cs (h.goodT hi) (by have := h.good.1.2.1; have := h.len; omega)
 rw [treeAt_get hi]
 obtain ⟨p1, p2⟩ := pair_ok (other := other) hg.2.1
 exact zsum_sz p2 (by rw [List.length_zip]; have := hg.2.2; omega) f
theorem oneV_sz {m : MODEL} {row other : List CELL} (h : Askd m row) {i : Nat} (hi : i ≤ m.2.length) (f : Nat) : SzQ (rsum (fun i => treeAdd (treeAt m i) row other (treeOf (treeAt m i)) f) i) 30000000 := by
 have := rsum_sz (f := fun i => treeAdd (treeAt m i) row other (treeOf (treeAt m i)) f) (k := 4700000) (n := i) (fun j hj => treeAdd_sz h (by omega) f)
 exact this.mono (by have := h.ml; have : i ≤ 6 := by omega
                     have := Nat.mul_le_mul_right 4700001 this; omega)
theorem vone_ok {m : MODEL} {row other : List CELL} (h : Askd m row) (h' : Askd m other) {d st sm : Int} {f : List WH} (hT : Tab d st sm f) :
  ∃ d' st' sm' f', versus_one m row other d st sm f = some (flo row.length (oneV m row other), d', st', sm', f') ∧ Tab d' st' sm' f' := by
 have hn := h.len
 have hn' := h'.len
 have h64 := h.good.1.2.1
 have ml := h.ml
 obtain ⟨r, ⟨d', st', sm', f', hr, hT'⟩, e⟩ := lp_inv (step := versus_one_s3)
  (fun i v => ∃ d st sm f, v = ((row, other, m.2, (m.2.length : Int), (i : Int), ()), ((flo row.length (fun f => rsum (fun i => treeAdd (treeAt m i) row other (treeOf (treeAt m i)) f) i), ()), (d, st, sm, f, ()), ())) ∧ Tab d st sm f)
  (fun r => ∃ d' st' sm' f', r = ((), ((flo row.length (oneV m row other), ()), (d', st', sm', f', ()), ())) ∧ Tab d' st' sm' f') m.2.length
  (v := ((row, other, m.2, (m.2.length : Int), 0, ()), ((flo row.length (fun _ => 0), ()), (d, st, sm, f, ()), ())))
  ⟨d, st, sm, f, rfl, hT⟩ (by omega) (by
  rintro i v hi ⟨d, st, sm, f, rfl, hT⟩
  have d0 : (i : Int) < (m.2.length : Int) := by omega
  have d1 : (0 : Int) ≤ (i : Int) := by omega
  have l1 := Legs_ok (t := m.2[i]) (h.mt _ (List.getElem_mem hi)) (h.ms _ (List.getElem_mem hi)) h.cs (h.goodT hi) (by omega)
  have l2 := Legs_ok (t := m.2[i]) (h.mt _ (List.getElem_mem hi)) (h.ms _ (List.getElem_mem hi)) h'.cs (h'.goodT hi) (by omega)
  obtain ⟨p1, p2⟩ := pair_ok (other := other) l1.2.1
  obtain ⟨d', st', sm', f', hL, hT'⟩ := legs_loop (row := row) (other := other) (tr := m.2) (c1 := (m.2.length : Int)) (c2 := (i : Int)) (o := fun f => rsum (fun i => treeAdd (treeAt m i) row other (treeOf (treeAt m i)) f) i) hT p1 p2 l1.2.2 (fun f _ => oneV_sz (i := i) h (by omega) f) (by decide)
  refine ⟨_, ⟨d', st', sm', f', rfl, hT'⟩, fun g => ?_⟩
  rw [versus_one_s3, cnd d0, cnd d1, Int.toNat_natCast, List.getElem?_eq_getElem hi, Option.bind_some, l1.1, Option.bind_some, l2.1, Option.bind_some]
  dsimp only
  rw [hL, Option.bind_some]
  dsimp only
  rw [iadd1 (by omega)]
  have : flo row.length (fun f => rsum (fun i => treeAdd (treeAt m i) row other (treeOf (treeAt m i)) f) (i + 1)) = flo row.length (fun f => rsum (fun i => treeAdd (treeAt m i) row other (treeOf (treeAt m i)) f) i + zsum ((legsT m.2[i] row (treeOf m.2[i]) []).zip (legsT m.2[i] other (treeOf m.2[i]) [])) f) := flo_congr fun f _ => by
   rw [rsum, treeAt_get hi]; rfl
  rw [this]; rfl) (by
  rintro v ⟨d, st, sm, f, rfl, hT⟩
  refine ⟨_, ⟨d, st, sm, f, rfl, hT⟩, fun g => ?_⟩
  rw [versus_one_s3, cnd' (by omega)]; rfl)
 refine ⟨d', st', sm', f', ?_, hT'⟩
 rw [versus_one, show m.1 = ((row.length : Nat) : Int) by omega, vzeros_ok (by omega), Option.bind_some, e, hr]; rfl
end Go.Proofs.YtaonkcmflkmncaaGreatDoor.X
