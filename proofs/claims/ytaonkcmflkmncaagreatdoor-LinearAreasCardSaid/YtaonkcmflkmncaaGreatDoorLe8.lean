/- Own work: part of the proof; the first line of each part says what it tells. -/
import Derived.Test.YtaonkcmflkmncaaGreatDoorLe7


namespace Go.Proofs.YtaonkcmflkmncaaGreatDoor.X
open Go
set_option linter.unusedVariables false
set_option linter.unusedSimpArgs false
theorem rMinus_ok {a b : List Int} (ha : Dig a) (hb : Dig b) (hl : a.length < 4398046511104) (hle : dd b ≤ dd a) : dendronref01_Minus a b = some (digs (dd a - dd b)) := by
 obtain ⟨r, ⟨p, rfl, hp, hpl, hpn⟩, hlp⟩ := lp_inv (step := dendronref01_Minus_s4) (fun i v => ∃ (p : List Int) (d : Nat), v = ((a, b, p, (d : Int), (i : Int), ()), ()) ∧ p.length = i ∧ Dig p ∧ d ≤ 1 ∧ dd p + dd (b.take i) = dd (a.take i) + 10000 ^ i * d)
  (fun r => ∃ p, r = ((p, ()), ()) ∧ p.length = a.length ∧ Dig p ∧ dd p = dd a - dd b) a.length (v := ((a, b, [], 0, 0, ()), ()))
  ⟨[], 0, rfl, rfl, Dig.nil, by omega, by simp⟩ (by omega) (by
   rintro i v hi ⟨p, d, rfl, hp, hpl, hd, hs⟩
   have b1 := ha.at hi
   have b2 := lget_dig hb i
   have q1 : isub .i64 (isub .i64 a[i] (lget b i)) (d : Int) = a[i] - lget b i - d := by
     have : isub .i64 a[i] (lget b i) = a[i] - lget b i := by rw [isub_i] <;> omega
     rw [this, isub_i] <;> omega
   have c0 : (i : Int) < ((a.length : Nat) : Int) := by omega
   have c1 : (0 : Int) ≤ (i : Int) := by omega
   by_cases hneg : a[i] - lget b i - d < 0
   · have q2 : iadd .i64 (a[i] - lget b i - d) 10000 = a[i] - lget b i - d + 10000 := by rw [iadd_i] <;> omega
     refine ⟨((a, b, p ++ [a[i] - lget b i - d + 10000], ((1 : Nat) : Int), ((i + 1 : Nat) : Int), ()), ()), ⟨_, 1, rfl, by simp [hp], Dig.append hpl (Dig.cons (by omega) Dig.nil), by omega, ?_⟩, fun g => ?_⟩
     · rw [dd_append, hp, dd_take_lget, dnnt hi, dd_one _ (by omega), Nat.pow_succ]
       have k1 : (a[i] - lget b i - d + 10000).toNat + (lget b i % 10000).toNat + d = (a[i] % 10000).toNat + 10000 * 1 := by omega
       have k2 : 10000 ^ i * ((a[i] - lget b i - d + 10000).toNat + (lget b i % 10000).toNat + d) = 10000 ^ i * ((a[i] % 10000).toNat + 10000 * 1) := by rw [k1]
       grind
     · rw [dendronref01_Minus_s4, cnd c0, cnd c1, Int.toNat_natCast, List.getElem?_eq_getElem hi, Option.bind_some, rdigit_ok, Option.bind_some, q1, cnd hneg, blt (by omega), cond_true, q2, iadd1 (by omega)]
       rfl
   · refine ⟨((a, b, p ++ [a[i] - lget b i - d], ((0 : Nat) : Int), ((i + 1 : Nat) : Int), ()), ()), ⟨_, 0, rfl, by simp [hp], Dig.append hpl (Dig.cons (by omega) Dig.nil), by omega, ?_⟩, fun g => ?_⟩
     · rw [dd_append, hp, dd_take_lget, dnnt hi, dd_one _ (by omega), Nat.pow_succ]
       have k1 : (a[i] - lget b i - d).toNat + (lget b i % 10000).toNat + d = (a[i] % 10000).toNat := by omega
       have k2 : 10000 ^ i * ((a[i] - lget b i - d).toNat + (lget b i % 10000).toNat + d) = 10000 ^ i * ((a[i] % 10000).toNat) := by rw [k1]
       grind
     · rw [dendronref01_Minus_s4, cnd c0, cnd c1, Int.toNat_natCast, List.getElem?_eq_getElem hi, Option.bind_some, rdigit_ok, Option.bind_some, q1, cnd' hneg, blt (by omega), cond_true, iadd1 (by omega)]
       rfl) (by
   rintro v ⟨p, d, rfl, hp, hpl, hd, hs⟩
   refine ⟨((p, ()), ()), ⟨p, rfl, hp, hpl, ?_⟩, fun g => by simp [dendronref01_Minus_s4]⟩
   rw [dd_take_of_lt (Nat.lt_of_le_of_lt hle (dd_lt a)), List.take_length] at hs
   have k1 := dd_lt p
   rw [hp] at k1
   have : d = 0 := by
     rcases Nat.eq_zero_or_pos d with h | h
     · exact h
     · have : d = 1 := by omega
       subst this
       omega
   subst this
   omega)
 rw [dendronref01_Minus, hlp, Option.bind_some, rTrim_ok hpl (by omega), hpn]
 rfl
theorem dmul_lt_sq {x y c u : Int} (hx : 0 ≤ x ∧ x < 10000) (hy : 0 ≤ y ∧ y < 10000) (hc : 0 ≤ c ∧ c < 10000) (hu : 0 ≤ u ∧ u < 10000) :
  0 ≤ x * y ∧ x * y < 100000000 ∧ u + x * y < 100000000 ∧ c + u + x * y < 100000000 := by
 have h0 : 0 ≤ x * y := Int.mul_nonneg hx.1 hy.1
 have h1 : x * y ≤ 9999 * 9999 := Int.mul_le_mul (by omega) (by omega) hy.1 (by decide)
 omega
theorem rTimes_inner {b a : List Int} {i : Nat} {u : List Int} {Z : Nat} (hb : Dig b) (ha : Dig a) (hi : i < a.length) (hu : Dig u) (hul : u.length = i + b.length) (hsz : i + b.length < 4611686018427387904) :
  ∃ (w : List Int) (c : Nat), lp dendronref01_Times_s7 K0 ((a, b, u ++ List.replicate Z 0, (i : Int), 0, 0, ()), ()) = some ((a, b, w ++ List.replicate Z 0, (i : Int), (c : Int), ()), ()) ∧
   w.length = i + b.length ∧ Dig w ∧ c < 10000 ∧ dd w + 10000 ^ (i + b.length) * c = dd u + 10000 ^ i * (a[i].toNat * dd b) := by
 have hx := ha.at hi
 generalize hxx : a[i] = x at *
 obtain ⟨r, ⟨w, c, rfl, h1, h2, h3, h4⟩, hlp⟩ := lp_inv (step := dendronref01_Times_s7)
  (fun k v => ∃ (w : List Int) (c : Nat), v = ((a, b, w ++ List.replicate Z 0, (i : Int), (c : Int), (k : Int), ()), ()) ∧ w.length = i + b.length ∧ Dig w ∧ c < 10000 ∧ dd w + 10000 ^ (i + k) * c = dd u + 10000 ^ i * (x.toNat * dd (b.take k)))
  (fun r => ∃ (w : List Int) (c : Nat), r = ((a, b, w ++ List.replicate Z 0, (i : Int), (c : Int), ()), ()) ∧ w.length = i + b.length ∧ Dig w ∧ c < 10000 ∧ dd w + 10000 ^ (i + b.length) * c = dd u + 10000 ^ i * (x.toNat * dd b))
  b.length (v := ((a, b, u ++ List.replicate Z 0, (i : Int), 0, 0, ()), ())) ⟨u, 0, rfl, hul, hu, by omega, by simp⟩ (by omega) (by
   rintro k v hk ⟨w, c, rfl, hw, hwl, hc, hs⟩
   have b1 := hb.at hk
   have hik : i + k < w.length := by omega
   have b2 := hwl.at hik
   have b3 : (0 : Int) ≤ c ∧ (c : Int) < 10000 := by omega
   obtain ⟨m0, m1, m2, m3⟩ := dmul_lt_sq hx b1 b3 b2
   have q1 : imul .i64 x b[k] = x * b[k] := by rw [imul_i] <;> omega
   have q2 : iadd .i64 (c : Int) w[i + k] = c + w[i + k] := by rw [iadd_i] <;> omega
   have q3 : iadd .i64 ((c : Int) + w[i + k]) (x * b[k]) = (c : Int) + w[i + k] + x * b[k] := by rw [iadd_i] <;> omega
   have q4 : iadd .i64 (i : Int) (k : Int) = ((i + k : Nat) : Int) := by rw [iadd_i] <;> omega
   have q5 : irem ((c : Int) + w[i + k] + x * b[k]) 10000 = ((c : Int) + w[i + k] + x * b[k]) % 10000 := irem_n (by omega)
   have q6 : iquo .i64 ((c : Int) + w[i + k] + x * b[k]) 10000 = (((((c : Int) + w[i + k] + x * b[k]) / 10000).toNat : Nat) : Int) := by rw [iquo_i (by omega) (by omega) (by omega)]; omega
   refine ⟨((a, b, w.set (i + k) (((c : Int) + w[i + k] + x * b[k]) % 10000) ++ List.replicate Z 0, (i : Int), (((((c : Int) + w[i + k] + x * b[k]) / 10000).toNat : Nat) : Int), ((k + 1 : Nat) : Int), ()), ()), ⟨_, _, rfl, by simpa using hw, hwl.set (by omega), by omega, ?_⟩, fun g => ?_⟩
   · have hset := dd_set hwl hik (y := ((c : Int) + w[i + k] + x * b[k]) % 10000) (by omega)
     rw [dnnt hk, show i + (k + 1) = i + k + 1 from rfl, Nat.pow_succ]
     have k1 : (((c : Int) + w[i + k] + x * b[k]) % 10000).toNat + 10000 * (((c : Int) + w[i + k] + x * b[k]) / 10000).toNat = c + (w[i + k].toNat + (x * b[k]).toNat) := by omega
     have k2 : 10000 ^ (i + k) * ((((c : Int) + w[i + k] + x * b[k]) % 10000).toNat + 10000 * (((c : Int) + w[i + k] + x * b[k]) / 10000).toNat) = 10000 ^ (i + k) * (c + (w[i + k].toNat + (x * b[k]).toNat)) := by rw [k1]
     have k3 : (x * b[k]).toNat = x.toNat * (b[k] % 10000).toNat := by
      rw [Int.toNat_mul hx.1 b1.1]; congr 2; omega
     rw [k3] at k2
     have k4 : 10000 ^ (i + k) = 10000 ^ i * 10000 ^ k := Nat.pow_add ..
     grind
   · have e5 : (w ++ List.replicate Z (0 : Int))[i + k]? = some w[i + k] := by rw [List.getElem?_append_left hik]; exact List.getElem?_eq_getElem hik
     have c0 : (k : Int) < ((b.length : Nat) : Int) := by omega
     have c2 : (0 : Int) ≤ (k : Int) := by omega
     have c3 : (0 : Int) ≤ (i : Int) := by omega
     have e6 : ((i + k : Nat) : Int) < (((w ++ List.replicate Z (0 : Int)).length : Nat) : Int) := by rw [List.length_append]; omega
     have e7 : (0 : Int) ≤ ((i + k : Nat) : Int) := by omega
     rw [dendronref01_Times_s7, cnd c0, q4, cnd2 e7 e6, Int.toNat_natCast, e5, Option.bind_some, cnd c3, Int.toNat_natCast, List.getElem?_eq_getElem hi, Option.bind_some, hxx, cnd c2, Int.toNat_natCast, List.getElem?_eq_getElem hk, Option.bind_some, cnd2 e7 e6, Option.bind_some, q1, q2, q3, q5, q6, List.set_append_left _ _ hik, iadd1 (by omega)]
     rfl) (by
   rintro v ⟨w, c, rfl, hw, hwl, hc, hs⟩
   rw [List.take_length] at hs
   exact ⟨((a, b, w ++ List.replicate Z 0, (i : Int), (c : Int), ()), ()), ⟨w, c, rfl, hw, hwl, hc, hs⟩, fun g => by simp [dendronref01_Times_s7]⟩)
 exact ⟨w, c, hlp, h1, h2, h3, h4⟩
theorem rTimes_ok {x y : List Int} (l1 : Dig x) (l2 : Dig y) (ha : x.length < 4398046511104) (hb : y.length < 4398046511104) : dendronref01_Times x y = some (digs (dd x * dd y)) := by
 have hN : iadd .i64 (x.length : Int) (y.length : Int) = ((x.length + y.length : Nat) : Int) := by rw [iadd_i] <;> omega
 rw [dendronref01_Times, hN]
 obtain ⟨r, ⟨p, rfl, hp, hpl, hpn⟩, hlp⟩ := lp_inv (step := dendronref01_Times_s3) (fun i v => ∃ p : List Int, v = ((x, y, p ++ List.replicate (x.length - i) 0, (i : Int), ()), ()) ∧ p.length = i + y.length ∧ Dig p ∧ dd p = dd (x.take i) * dd y)
  (fun r => ∃ p, r = ((p, ()), ()) ∧ p.length = x.length + y.length ∧ Dig p ∧ dd p = dd x * dd y) x.length (v := ((x, y, List.replicate (x.length + y.length) 0, 0, ()), ()))
  ⟨List.replicate y.length 0, by rw [List.replicate_append_replicate, Nat.sub_zero, Nat.add_comm]; rfl, by simp, Dig.zeros _, by simp [dd_zeros]⟩ (by omega) (by
   rintro i v hi ⟨p, rfl, hp, hpl, hs⟩
   obtain ⟨w, c, hin, hw, hwl, hc, hwn⟩ := rTimes_inner (Z := x.length - i) l2 l1 hi hpl hp (by omega)
   have b1 := l1.at hi
   refine ⟨((x, y, (w ++ [(c : Int)]) ++ List.replicate (x.length - (i + 1)) 0, ((i + 1 : Nat) : Int), ()), ()), ⟨_, rfl, by simp [hw]; omega, Dig.append hwl (Dig.cons (by omega) Dig.nil), ?_⟩, fun g => ?_⟩
   · rw [dd_append, hw, dd_one _ (by omega), dnnt hi, Int.toNat_natCast, hwn, hs]
     have : (x[i] % 10000).toNat = x[i].toNat := by omega
     rw [this]
     grind
   · have q4 : iadd .i64 (i : Int) (y.length : Int) = ((i + y.length : Nat) : Int) := by rw [iadd_i] <;> omega
     have c0 : (i : Int) < ((x.length : Nat) : Int) := by omega
     have e6 : ((i + y.length : Nat) : Int) < (((w ++ List.replicate (x.length - i) (0 : Int)).length : Nat) : Int) := by rw [List.length_append, List.length_replicate]; omega
     have e7 : (0 : Int) ≤ ((i + y.length : Nat) : Int) := by omega
     have e8 : i + y.length < (w ++ List.replicate (x.length - i) (0 : Int)).length := by omega
     have e9 : (w ++ List.replicate (x.length - i) (0 : Int)).set (i + y.length) (c : Int) = (w ++ [(c : Int)]) ++ List.replicate (x.length - (i + 1)) 0 := by
      have := set_mid (p := w) (i := i + y.length) (n := x.length + y.length) (z := 0) (c : Int) hw (by omega)
      rw [show x.length + y.length - (i + y.length) = x.length - i by omega, show x.length + y.length - (i + y.length + 1) = x.length - (i + 1) by omega] at this
      exact this
     rw [dendronref01_Times_s3, cnd c0, hin, Option.bind_some, q4, cnd2 e7 e6, Int.toNat_natCast, List.getElem?_eq_getElem e8, Option.bind_some, e9, iadd1 (by omega)]
     rfl) (by
   rintro v ⟨p, rfl, hp, hpl, hs⟩
   rw [List.take_length] at hs
   exact ⟨((p, ()), ()), ⟨p, rfl, hp, hpl, hs⟩, fun g => by simp [dendronref01_Times_s3]⟩)
 have g2 : ((x.length + y.length : Nat) : Int) ≤ 9223372036854775807 := by omega
 have g3 : (0 : Int) ≤ ((x.length + y.length : Nat) : Int) := by omega
 have g4 : ((8 : Nat) : Int) * ((x.length + y.length : Nat) : Int) ≤ 281474976710656 := by omega
 rw [decide_eq_true g2, decide_eq_true g3, decide_eq_true g4, decide_eq_true rfl, Int.toNat_natCast, hlp, Option.bind_some, rTrim_ok hpl (by omega), hpn]
 rfl
theorem rOver_inner {a q : List Int} {i : Int} {y R : Nat} (hy : (digs y).length < 1099511627776) (hR : (digs R).length < 1099511627776) (hRy : R < y * 10000) :
  lp dendronref01_Over_s12 K0 ((a, digs y, q, digs R, i, 0, 10000, ()), ()) = some ((a, digs y, q, digs R, i, ((R / y : Nat) : Int), ()), ()) := by
 have hy0 : 0 < y := by
  rcases Nat.eq_zero_or_pos y with h | h
  · subst h; omega
  · exact h
 obtain ⟨r, rfl, hlp⟩ := lp_wf (step := dendronref01_Over_s12) (fun s => ∃ lo hi : Nat, s = ((a, digs y, q, digs R, i, (lo : Int), (hi : Int), ()), ()) ∧ lo < hi ∧ hi ≤ 10000 ∧ y * lo ≤ R ∧ R < y * hi) (fun s => (s.1.2.2.2.2.2.2.1 - s.1.2.2.2.2.2.1).toNat)
  (fun r => r = ((a, digs y, q, digs R, i, ((R / y : Nat) : Int), ()), ())) (v := ((a, digs y, q, digs R, i, 0, 10000, ()), ())) ⟨0, 10000, rfl, by omega, by omega, by simp, hRy⟩ (by simp) (by
    rintro s ⟨lo, hi, rfl, hlt, hh, h1, h2⟩
    have e1 : isub .i64 (hi : Int) (lo : Int) = (hi : Int) - lo := by rw [isub_i] <;> omega
    by_cases hd : hi - lo ≤ 1
    · have : hi = lo + 1 := by omega
      subst this
      have hq : R / y = lo := by
        rw [Nat.div_eq_iff hy0]
        rw [Nat.mul_add, Nat.mul_one] at h2
        rw [Nat.mul_comm]; omega
      refine .inl ⟨_, rfl, fun g => ?_⟩
      rw [dendronref01_Over_s12, e1, cnd' (by omega), hq]
    · have e2 : iquo .i64 (iadd .i64 (lo : Int) (hi : Int)) 2 = (((lo + hi) / 2 : Nat) : Int) := by
        have : iadd .i64 (lo : Int) (hi : Int) = ((lo + hi : Nat) : Int) := by rw [iadd_i] <;> omega
        rw [this, iquo_i (by omega) (by omega) (by omega)]; omega
      have hmid : (lo + hi) / 2 < 10000 := by omega
      have hs := rSmall_ok (n := (lo + hi) / 2) (by omega)
      have hdl : (digs ((lo + hi) / 2)).length ≤ 1 := digs_len_le (by omega)
      have ht := rTimes_ok (digs_dig y) (digs_dig ((lo + hi) / 2)) (by omega) (by omega)
      rw [dd_digs, dd_digs] at ht
      have hml := digs_mul_len y ((lo + hi) / 2)
      have ho := rOrder_ok (n := y * ((lo + hi) / 2)) (m := R) (by omega)
      have hmlo : lo < (lo + hi) / 2 := by omega
      have hmhi : (lo + hi) / 2 < hi := by omega
      generalize (lo + hi) / 2 = mid at *
      have step : ∀ g, dendronref01_Over_s12 g ((a, digs y, q, digs R, i, (lo : Int), (hi : Int), ()), ()) = bif decide (ncmp (y * mid) R ≤ 0) then g ((a, digs y, q, digs R, i, (mid : Int), (hi : Int), ()), ()) else g ((a, digs y, q, digs R, i, (lo : Int), (mid : Int), ()), ()) := by
        intro g
        rw [dendronref01_Over_s12, e1, cnd (by omega), e2, hs, Option.bind_some, ht, Option.bind_some, ho, Option.bind_some]
      by_cases hc : y * mid ≤ R
      · have c : ncmp (y * mid) R ≤ 0 := by unfold ncmp; split <;> (try split) <;> omega
        exact .inr ⟨_, ⟨mid, hi, rfl, hmhi, hh, hc, h2⟩, by show ((hi : Int) - (mid : Int)).toNat < ((hi : Int) - (lo : Int)).toNat; omega, fun g => by rw [step, cnd c]⟩
      · have c : ¬ ncmp (y * mid) R ≤ 0 := by unfold ncmp; rw [if_neg (by omega), if_pos (by omega)]; decide
        exact .inr ⟨_, ⟨lo, mid, rfl, hmlo, by omega, h1, by omega⟩, by show ((mid : Int) - (lo : Int)).toNat < ((hi : Int) - (lo : Int)).toNat; omega, fun g => by rw [step, cnd' c]⟩)
 exact hlp
theorem pow_help {R y k : Nat} (h : R < y * 10000) (hy : y < 10000 ^ k) : R < 10000 ^ (k + 1) := by
 rw [Nat.pow_succ]
 exact Nat.lt_of_lt_of_le h (Nat.mul_le_mul_right _ (Nat.le_of_lt hy))
theorem rOver_ok {a : List Int} {y : Nat} (ha : Dig a) (hl : a.length < 1099511627776) (hy : (digs y).length < 1099511627775) (hy0 : 0 < y) : dendronref01_Over a (digs y) = some (digs (dd a / y), digs (dd a % y)) := by
 obtain ⟨r, ⟨s, c, rfl, hs, hsl, hc, hsn⟩, hlp⟩ := lp_wf (step := dendronref01_Over_s4)
  (fun v => ∃ (j : Nat) (s : List Int) (c : Nat), j ≤ a.length ∧ v = ((a, digs y, List.replicate j 0 ++ s, digs c, (j : Int) - 1, ()), ()) ∧ j + s.length = a.length ∧ Dig s ∧ c < y ∧ dd (a.drop j) = y * dd s + c)
  (fun v => (v.1.2.2.2.2.1 + 1).toNat)
  (fun r => ∃ (s : List Int) (c : Nat), r = ((s, digs c, ()), ()) ∧ s.length = a.length ∧ Dig s ∧ c < y ∧ dd a = y * dd s + c) (v := ((a, digs y, List.replicate a.length 0, [], (a.length : Int) - 1, ()), ()))
  ⟨a.length, [], 0, Nat.le_refl _, by simp [digs_zero], by simp, Dig.nil, hy0, by simp⟩ (by simp; omega) (by
   rintro v ⟨j, s, c, hj, rfl, hjl, hsl, hc, hn⟩
   cases j with
   | zero =>
    refine .inl ⟨((s, digs c, ()), ()), ⟨s, c, rfl, by omega, hsl, hc, by simpa using hn⟩, fun g => by simp [dendronref01_Over_s4]⟩
   | succ j =>
    have hja : j < a.length := by omega
    have b := ha.at hja
    have e3 : ((j + 1 : Nat) : Int) - 1 = (j : Int) := by omega
    rw [e3]
    obtain ⟨x, hx⟩ := Int.eq_ofNat_of_zero_le b.1
    have hx' : x < 10000 := by omega
    have hcl := digs_len_mono (Nat.le_of_lt hc)
    have htr := rTrim_ok (a := [a[j]] ++ digs c) (Dig.append (Dig.cons b Dig.nil) (digs_dig c)) (by simp; omega)
    have hval : dd ([a[j]] ++ digs c) = x + 10000 * c := by
      show dd (a[j] :: digs c) = _
      rw [dd, dd_digs]; omega
    rw [hval] at htr
    have hR : x + 10000 * c < y * 10000 := by omega
    have hRl : (digs (x + 10000 * c)).length < 1099511627776 := by
      have h5 : x + 10000 * c < 10000 ^ ((digs y).length + 1) := by
       have h6 := dd_lt (digs y)
       rw [dd_digs] at h6
       exact pow_help hR h6
      have := digs_len_le h5
      omega
    have hin := rOver_inner (a := a) (q := List.replicate (j + 1) 0 ++ s) (i := (j : Int)) (by omega) hRl hR
    have k1 := Nat.div_add_mod (x + 10000 * c) y
    have k5 := Nat.mod_lt (x + 10000 * c) hy0
    have hq : (x + 10000 * c) / y < 10000 := by rw [Nat.div_lt_iff_lt_mul hy0]; omega
    have hs1 := rSmall_ok (n := (x + 10000 * c) / y) (by omega)
    have hdl : (digs ((x + 10000 * c) / y)).length ≤ 1 := digs_len_le (by omega)
    have ht := rTimes_ok (digs_dig y) (digs_dig ((x + 10000 * c) / y)) (by omega) (by omega)
    rw [dd_digs, dd_digs] at ht
    have hm := rMinus_ok (digs_dig (x + 10000 * c)) (digs_dig (y * ((x + 10000 * c) / y))) (by omega) (by rw [dd_digs, dd_digs]; omega)
    rw [dd_digs, dd_digs] at hm
    have hrest : x + 10000 * c - y * ((x + 10000 * c) / y) = (x + 10000 * c) % y := by omega
    rw [hrest] at hm
    generalize (x + 10000 * c) / y = qd at *
    generalize (x + 10000 * c) % y = rr at *
    refine .inr ⟨((a, digs y, List.replicate j 0 ++ (qd : Int) :: s, digs rr, (j : Int) - 1, ()), ()), ⟨j, _, _, by omega, rfl, by simp; omega, Dig.cons (by omega) hsl, k5, ?_⟩, by simp, fun g => ?_⟩
    · rw [dd_drop a hja, hn, dd]
      have k2 : ((qd : Int) % 10000).toNat = qd := by omega
      have k3 : (a[j] % 10000).toNat = x := by omega
      rw [k2, k3]
      grind
    · have q5 : isub .i64 (j : Int) 1 = (j : Int) - 1 := by rw [isub_i] <;> omega
      have e5 : (List.replicate (j + 1) (0 : Int) ++ s).set j (qd : Int) = List.replicate j 0 ++ (qd : Int) :: s := by
       rw [List.replicate_succ', List.append_assoc, List.set_append_right _ _ (by simp)]
       simp
      have e6 : j < (List.replicate (j + 1) (0 : Int) ++ s).length := by simp; omega
      have e7 : ((j : Nat) : Int) < ((List.replicate (j + 1) (0 : Int) ++ s).length : Int) := by omega
      have e8 : (0 : Int) ≤ ((j : Nat) : Int) := by omega
      have c0 : (j : Int) ≥ 0 := by omega
      have c1 : (Nat.ble ((([a[j]] : List Int).length + (digs c).length) * 8) 140737488355328 && !false) = true := blt (by simp; omega)
      rw [dendronref01_Over_s4, cnd c0, cnd e8, Int.toNat_natCast, List.getElem?_eq_getElem hja, Option.bind_some, c1, cond_true, htr, Option.bind_some, hin, Option.bind_some, cnd2 e8 e7, Int.toNat_natCast, List.getElem?_eq_getElem e6, Option.bind_some, hs1, Option.bind_some, ht, Option.bind_some, hm, Option.bind_some, e5, q5])
 have g1 : ((8 : Nat) : Int) * (a.length : Int) ≤ 281474976710656 := by omega
 have g2 : (a.length : Int) ≤ 9223372036854775807 := by omega
 have g4 : (0 : Int) ≤ (a.length : Int) := by omega
 have g3 : isub .i64 (a.length : Int) 1 = (a.length : Int) - 1 := by rw [isub_i] <;> omega
 have k1 : dd a / y = dd s := by rw [hsn, Nat.mul_add_div hy0, Nat.div_eq_of_lt hc]; simp
 have k2 : dd a % y = c := by rw [hsn, Nat.mul_add_mod, Nat.mod_eq_of_lt hc]
 rw [k1, k2]
 rw [dendronref01_Over, decide_eq_true rfl, decide_eq_true g4, decide_eq_true g1, decide_eq_true g2, Int.toNat_natCast, g3, hlp]
 simp only [Bool.and_self, cond_true, Option.bind_some, rTrim_ok hsl (show s.length < 4611686018427387904 by omega)]
theorem lenN_lt {x y : Nat} (hy : y ≠ 0) (h : 2 * x ≤ y) : lenN x < lenN y := by
 unfold lenN
 by_cases hx : x = 0
 · rw [if_pos hx, if_neg hy]; omega
 · rw [if_neg hx, if_neg hy]
   have := log2_half hx h
   omega
theorem lenN_le {n k : Nat} (h : n < 2 ^ k) : lenN n ≤ k := by
 unfold lenN
 by_cases hx : n = 0
 · rw [if_pos hx]; omega
 · rw [if_neg hx]; have := (Nat.log2_lt hx).2 h; omega
theorem lenN_digs (n : Nat) : lenN n ≤ 14 * (digs n).length := by
 apply lenN_le
 have h1 := dd_lt (digs n)
 rw [dd_digs] at h1
 have h2 : 10000 ^ (digs n).length ≤ (2 ^ 14) ^ (digs n).length := Nat.pow_le_pow_left (by decide) _
 rw [← Nat.pow_mul] at h2
 omega
theorem rGcd_ok {x y : Nat} (hx : (digs x).length < 1099511627775) (hy : (digs y).length < 1099511627775) : dendronref01_Gcd (digs x) (digs y) = some (digs (Nat.gcd x y)) := by
 obtain ⟨r, rfl, hlp⟩ := lp_wf (step := dendronref01_Gcd_s1) (fun s => ∃ p q : Nat, s = ((digs p, digs q, ()), ()) ∧ (digs p).length < 1099511627775 ∧ (digs q).length < 1099511627775 ∧ Nat.gcd p q = Nat.gcd x y)
  (fun s => 2 * (lenN (dd s.1.1) + lenN (dd s.1.2.1)) + if dd s.1.1 < dd s.1.2.1 then 1 else 0) (fun r => r = ((digs (Nat.gcd x y), ()), ())) (v := ((digs x, digs y, ()), ()))
  ⟨x, y, rfl, hx, hy, rfl⟩ (by
   have h1 := lenN_digs x
   have h2 := lenN_digs y
   simp only [dd_digs]
   split <;> omega) (by
   rintro s ⟨p, q, rfl, hp, hq, hg⟩
   by_cases h0 : q = 0
   · subst h0
     refine .inl ⟨_, rfl, fun g => ?_⟩
     rw [Nat.gcd_zero_right] at hg
     rw [digs_zero, dendronref01_Gcd_s1, cnd' (by decide), ← hg]
   · have c0 : ((digs q).length : Int) > 0 := digs_pos_len.2 h0
     have ho := rOver_ok (digs_dig p) (by omega) hq (Nat.pos_of_ne_zero h0)
     rw [dd_digs] at ho
     have hml := Nat.mod_lt p (Nat.pos_of_ne_zero h0)
     refine .inr ⟨((digs q, digs (p % q), ()), ()), ⟨q, p % q, rfl, hq, Nat.lt_of_le_of_lt (digs_len_mono (Nat.le_of_lt hml)) hq, ?_⟩, ?_, fun g => ?_⟩
     · rw [← hg, Nat.gcd_comm q, ← Nat.gcd_rec, Nat.gcd_comm]
     · simp only [dd_digs]
       rw [if_neg (by omega)]
       by_cases hpq : p < q
       · rw [if_pos hpq, Nat.mod_eq_of_lt hpq]; omega
       · rw [if_neg hpq]
         have : 2 * (p % q) ≤ p := by
          have h1 := Nat.div_add_mod p q
          have h2 : 1 ≤ p / q := Nat.div_pos (by omega) (by omega)
          have h3 : q * 1 ≤ q * (p / q) := Nat.mul_le_mul_left _ h2
          omega
         have := lenN_lt (by omega) this
         omega
     · rw [dendronref01_Gcd_s1, cnd c0, ho, Option.bind_some])
 rw [dendronref01_Gcd, hlp]; rfl
theorem digs_of_limbs {n k : Nat} (h : n < 4294967296 ^ k) : (digs n).length ≤ 3 * k := by
 apply digs_len_le
 have : 4294967296 ^ k ≤ (10000 ^ 3) ^ k := Nat.pow_le_pow_left (by decide) _
 rw [← Nat.pow_mul] at this
 omega
theorem rFrom_ok {a : List Int} (hl : a.length < 274877906944) : dendronref01_From a = some (digs (nn a)) := by
 have hu := rSmall_ok (n := 4294967296) (by decide)
 obtain ⟨r, rfl, hlp⟩ := lp_wf (step := dendronref01_From_s4) (fun s => ∃ j : Nat, j ≤ a.length ∧ s = ((a, digs (nn (a.drop j)), digs 4294967296, (j : Int) - 1, ()), ())) (fun s => (s.1.2.2.2.1 + 1).toNat)
  (fun r => r = ((digs (nn a), ()), ())) (v := ((a, [], digs 4294967296, (a.length : Int) - 1, ()), ())) ⟨a.length, Nat.le_refl _, by rw [List.drop_length, nn_nil, digs_zero]⟩ (by simp; omega) (by
   rintro s ⟨j, hj, rfl⟩
   cases j with
   | zero => exact .inl ⟨_, rfl, fun g => by simp [dendronref01_From_s4]⟩
   | succ j =>
    have hja : j < a.length := by omega
    have e3 : ((j + 1 : Nat) : Int) - 1 = (j : Int) := by omega
    rw [e3]
    have hnl := nn_lt (a.drop (j + 1))
    rw [List.length_drop] at hnl
    have hd := digs_of_limbs hnl
    have hu2 : (digs 4294967296).length ≤ 3 := digs_len_le (by decide)
    have ht := rTimes_ok (digs_dig (nn (a.drop (j + 1)))) (digs_dig 4294967296) (by omega) (by omega)
    rw [dd_digs, dd_digs] at ht
    have hml := digs_mul_len (nn (a.drop (j + 1))) 4294967296
    have hw : IntKind.wrap .i64 (iand .u64 a[j] 4294967295) = (((a[j] % 4294967296).toNat : Nat) : Int) := by
     rw [iand_low, wrap_i (by omega) (by omega)]; omega
    have hs := rSmall_ok (n := (a[j] % 4294967296).toNat) (by omega)
    have hsl : (digs (a[j] % 4294967296).toNat).length ≤ 3 := digs_len_le (by omega)
    have hp := rPlus_ok (x := nn (a.drop (j + 1)) * 4294967296) (y := (a[j] % 4294967296).toNat) (by omega) (by omega)
    have hval : nn (a.drop (j + 1)) * 4294967296 + (a[j] % 4294967296).toNat = nn (a.drop j) := by rw [nn_drop a hja]; omega
    rw [hval] at hp
    refine .inr ⟨((a, digs (nn (a.drop j)), digs 4294967296, (j : Int) - 1, ()), ()), ⟨j, by omega, rfl⟩, by simp, fun g => ?_⟩
    have q5 : isub .i64 (j : Int) 1 = (j : Int) - 1 := by rw [isub_i] <;> omega
    have c0 : (j : Int) ≥ 0 := by omega
    have c1 : (0 : Int) ≤ (j : Int) := by omega
    rw [dendronref01_From_s4, cnd c0, ht, Option.bind_some, cnd c1, Int.toNat_natCast, List.getElem?_eq_getElem hja, Option.bind_some, hw, hs, Option.bind_some, hp, Option.bind_some, q5])
 have g3 : isub .i64 (a.length : Int) 1 = (a.length : Int) - 1 := by rw [isub_i] <;> omega
 rw [show ((4294967296 : Nat) : Int) = 4294967296 from rfl] at hu
 rw [dendronref01_From, hu, Option.bind_some, g3, hlp]; rfl
theorem rRight_ok {n : Nat} (hl : (limbs n).length < 4398046511104) : dendronref01_Right (limbs n) = some true := by
 have la := limbs_lim n
 have hc := (limbs_canon n).2
 generalize limbs n = a at *
 have key := lp_up (step := dendronref01_Right_s2) (fun i => ((a, (i : Int), ()), ())) a.length (r := .inl ((a, ()), ())) (by omega) (by
   intro g i hi
   have b := la.at hi
   have c0 : (i : Int) < ((a.length : Nat) : Int) := by omega
   have c1 : (0 : Int) ≤ (i : Int) := by omega
   rw [dendronref01_Right_s2, cnd c0, cnd c1, Int.toNat_natCast, List.getElem?_eq_getElem hi, Option.bind_some, cnd' (by omega), iadd1 (by omega)]
   rfl) (by
   intro g
   rw [dendronref01_Right_s2, cnd' (by omega)])
 have key' : lp dendronref01_Right_s2 K0 ((a, 0, ()), ()) = some (.inl ((a, ()), ())) := key
 rw [dendronref01_Right, key', Option.bind_some]
 by_cases h0 : a = []
 · subst h0; rfl
 · have hlen := List.length_pos_iff.2 h0
   have e : isub .i64 (a.length : Int) 1 = ((a.length - 1 : Nat) : Int) := by rw [isub_i] <;> omega
   have hlt : a.length - 1 < a.length := by omega
   have hne : a[a.length - 1] ≠ 0 := hc _ (by rw [List.getLast?_eq_getElem?]; exact List.getElem?_eq_getElem hlt)
   have c0 : ¬ ((a.length : Nat) : Int) = 0 := by omega
   have c1 : (0 : Int) ≤ ((a.length - 1 : Nat) : Int) := by omega
   simp only []
   rw [cnd' c0, e, cnd c1, Int.toNat_natCast, List.getElem?_eq_getElem hlt, Option.bind_some, decide_eq_false hne]
   rfl
def digsI (z : Int) : WH := (decide (z < 0), digs z.natAbs)
theorem rMake_ok (b : Bool) (n : Nat) : dendronref02_Make b (digs n) = some (digsI (if b then -(n : Int) else n)) := by
 cases b with
 | false =>
  show some (false, digs n) = some (digsI (n : Int))
  unfold digsI
  rw [decide_eq_false (by omega), Int.natAbs_natCast]
 | true =>
  show some (decide (((digs n).length : Int) > 0), digs n) = some (digsI (-(n : Int)))
  unfold digsI
  rw [Int.natAbs_neg, Int.natAbs_natCast]
  congr 2
  rw [decide_eq_decide, digs_pos_len]
  omega
theorem rITimes_ok {x y : Int} (hx : (digs x.natAbs).length < 1099511627776) (hy : (digs y.natAbs).length < 1099511627776) : dendronref02_Times (digsI x) (digsI y) = some (digsI (x * y)) := by
 have hm := rTimes_ok (digs_dig x.natAbs) (digs_dig y.natAbs) (by omega) (by omega)
 rw [dd_digs, dd_digs] at hm
 rw [dendronref02_Times]
 simp only [digsI, hm, Option.bind_some, rMake_ok]
 have key : (if (!decide (x < 0) == decide (y < 0)) = true then -(((x.natAbs * y.natAbs : Nat)) : Int) else ((x.natAbs * y.natAbs : Nat) : Int)) = x * y := by
  rw [Int.natCast_mul]
  by_cases h1 : x < 0 <;> by_cases h2 : y < 0
  · rw [show ((x.natAbs : Nat) : Int) = -x by omega, show ((y.natAbs : Nat) : Int) = -y by omega]; simp [h1, h2, Int.neg_mul_neg]
  · rw [show ((x.natAbs : Nat) : Int) = -x by omega, show ((y.natAbs : Nat) : Int) = y by omega]; simp [h1, h2, Int.neg_mul]
  · rw [show ((x.natAbs : Nat) : Int) = x by omega, show ((y.natAbs : Nat) : Int) = -y by omega]; simp [h1, h2, Int.mul_neg]
  · rw [show ((x.natAbs : Nat) : Int) = x by omega, show ((y.natAbs : Nat) : Int) = y by omega]; simp [h1, h2]
 exact congrArg (fun z => some (digsI z)) key
theorem rIOrder_ok {x y : Int} (hx : (digs x.natAbs).length < 4398046511104) (hy : (digs y.natAbs).length < 4398046511104) : dendronref02_Order (digsI x) (digsI y) = some (icmp x y) := by
 have e1 := rOrder_ok (n := x.natAbs) (m := y.natAbs) (by omega)
 have e2 := rOrder_ok (n := y.natAbs) (m := x.natAbs) (by omega)
 rw [dendronref02_Order]
 simp only [digsI, e1, e2]
 by_cases h1 : x < 0 <;> by_cases h2 : y < 0 <;> simp [h1, h2, icmp, ncmp] <;> (repeat' split) <;> omega
theorem rFromI_ok {a : WH} (h : a.2.length < 274877906944) : dendronref02_From a = some (digsI (wv a)) := by
 rw [dendronref02_From, rFrom_ok h, Option.bind_some, rMake_ok]; rfl
theorem rFromQ_ok {a : RAT} {n : Nat} (h : SzR a n) (hn : n < 91625968980) : ∃ (z : Int) (d : Nat), dendronref03_From a = some (digsI z, digs d) ∧ 0 < d ∧ rv a = mkRat z d ∧ (digs z.natAbs).length ≤ 3 * n + 1 ∧ (digs d).length ≤ 3 * n + 1 := by
 have h1 := h.1
 have h2 := h.2
 rw [dendronref03_From, rFrom_ok (by omega), Option.bind_some]
 by_cases h0 : nn a.2 = 0
 · refine ⟨0, 1, ?_, by omega, ?_, by simp [digs_zero], digs_len_le (by rw [Nat.pow_add]; have : 0 < 10000 ^ (3 * n) := Nat.pow_pos (by decide); omega)⟩
   · have s1 := rSmall_ok (n := 1) (by decide)
     have s0 := rSmall_ok (n := 0) (by decide)
     rw [show ((1 : Nat) : Int) = 1 from rfl] at s1
     rw [show ((0 : Nat) : Int) = 0 from rfl] at s0
     rw [h0, digs_zero, cnd (by rfl), dendronref03_Small, dendronref02_Small, cnd' (by decide), s0, Option.bind_some, rMake_ok, Option.bind_some, Option.bind_some, s1]
     rfl
   · rw [rv, h0]; simp
 · have hne : ¬ ((digs (nn a.2)).length : Int) = 0 := by rw [digs_len0]; exact h0
   refine ⟨wv a.1, nn a.2, ?_, Nat.pos_of_ne_zero h0, rfl, ?_, ?_⟩
   · rw [cnd' hne, rFromI_ok (by omega)]; rfl
   · rw [wv_natAbs]
     have := digs_of_limbs (nn_lt a.1.2)
     omega
   · have := digs_of_limbs (nn_lt a.2)
     omega
theorem Is_ok {q : Rat} {b : RAT} {n m : Nat} (hq : SzQ q n) (hn : n < 91625968980) (hb : SzR b m) (hm : m < 91625968980) : dendronref10_Is (canQ q) b = some (decide (q = rv b)) := by
 obtain ⟨z, d, hf, hd0, hv, hz, hd⟩ := rFromQ_ok hb hm
 have hr := hq.szR
 have r1 : (limbs q.num.natAbs).length ≤ n := hr.1
 have r2 : (limbs q.den).length ≤ n := hr.2
 have hnum := digs_of_limbs hq.1
 have hden := digs_of_limbs hq.2
 have f1 := rFrom_ok (a := limbs q.num.natAbs) (by omega)
 have f2 := rFrom_ok (a := limbs q.den) (by omega)
 rw [nn_limbs] at f1 f2
 have hg := rGcd_ok (x := q.num.natAbs) (y := q.den) (by omega) (by omega)
 rw [show Nat.gcd q.num.natAbs q.den = 1 from q.reduced] at hg
 have s1 := rSmall_ok (n := 1) (by decide)
 rw [show ((1 : Nat) : Int) = 1 from rfl] at s1
 have hl1 : (digs 1).length ≤ 1 := digs_len_le (by decide)
 have ho := rOrder_ok (n := 1) (m := 1) (by omega)
 have hcm : ncmp 1 1 = 0 := rfl
 have hdne : ¬ (((limbs q.den).length : Nat) : Int) = 0 := by rw [limbs_len0]; exact q.den_nz
 have hright : dendronref03_Right (canQ q) = some true := by
  have hfin : ((dendronref01_From (limbs q.num.natAbs)).bind fun r3 => (dendronref01_From (limbs q.den)).bind fun r4 => (dendronref01_Gcd r3 r4).bind fun r5 => (dendronref01_Small 1).bind fun r6 => (dendronref01_Order r5 r6).bind fun r7 => some (decide (r7 = 0))) = some true := by
    rw [f1, Option.bind_some, f2, Option.bind_some, hg, Option.bind_some, s1, Option.bind_some, ho, Option.bind_some, hcm]; rfl
  rw [show canQ q = ((decide (q.num < 0), limbs q.num.natAbs), limbs q.den) from rfl, dendronref03_Right, rRight_ok (show (limbs q.num.natAbs).length < 4398046511104 by omega), Option.bind_some, Bool.not_true, cond_false, rRight_ok (show (limbs q.den).length < 4398046511104 by omega), Option.bind_some, Bool.not_true, cond_false, cnd' hdne]
  by_cases hz0 : q.num.natAbs = 0
  · have hnn : ¬ q.num < 0 := by omega
    have hl0 : (((limbs q.num.natAbs).length : Nat) : Int) = 0 := limbs_len0.2 hz0
    rw [cnd hl0, cnd' hnn]
    exact hfin
  · have hl0 : ¬ (((limbs q.num.natAbs).length : Nat) : Int) = 0 := by rw [limbs_len0]; exact hz0
    rw [cnd' hl0]
    exact hfin
 have hfrom : dendronref03_From (canQ q) = some (digsI q.num, digs q.den) := by
  have hdne2 : ¬ (((digs q.den).length : Nat) : Int) = 0 := by rw [digs_len0]; exact q.den_nz
  have f3 := rFromI_ok (a := limbsI q.num) (by show (limbs _).length < _; omega)
  rw [wv_limbsI] at f3
  rw [dendronref03_From]
  simp only [canQ, f2, Option.bind_some, f3]
  exact cnd' hdne2
 have m1 := rITimes_ok (x := q.num) (y := (d : Int)) (by omega) (by rw [Int.natAbs_natCast]; omega)
 have m2 := rITimes_ok (x := z) (y := (q.den : Int)) (by omega) (by rw [Int.natAbs_natCast]; omega)
 have l1 := digs_mul_len q.num.natAbs d
 have l2 := digs_mul_len z.natAbs q.den
 have oo := rIOrder_ok (x := q.num * (d : Int)) (y := z * (q.den : Int)) (by rw [Int.natAbs_mul, Int.natAbs_natCast]; omega) (by rw [Int.natAbs_mul, Int.natAbs_natCast]; omega)
 have k1 := rMake_ok false d
 have k2 := rMake_ok false q.den
 have horder : dendronref03_Order (digsI q.num, digs q.den) (digsI z, digs d) = some (icmp (q.num * (d : Int)) (z * (q.den : Int))) := by
  rw [dendronref03_Order]
  simp only [dendronref03_den, k1, k2, Option.bind_some, Bool.false_eq_true, if_false, m1, m2, oo]
 have hiff : icmp (q.num * (d : Int)) (z * (q.den : Int)) = 0 ↔ q = rv b := by
  rw [hv]
  have h1 : icmp (q.num * (d : Int)) (z * (q.den : Int)) = 0 ↔ q.num * (d : Int) = z * (q.den : Int) := by
    unfold icmp; (repeat' split) <;> omega
  rw [h1]
  conv => rhs; rw [← Rat.mkRat_self q]
  rw [Rat.mkRat_eq_iff q.den_nz (by omega)]
 rw [dendronref10_Is, hf, Option.bind_some, dendronref03_Is, hright, Option.bind_some, cond_true, hfrom, Option.bind_some, horder, Option.bind_some, Option.bind_some]
 congr 1
 rw [decide_eq_decide]
 exact hiff
def rsum (f : Nat → Rat) : Nat → Rat
 | 0 => 0
 | n + 1 => rsum f n + f n
theorem rsum_congr {f g : Nat → Rat} {n : Nat} (h : ∀ i, i < n → f i = g i) : rsum f n = rsum g n := by
 induction n with
 | zero => rfl
 | succ n ih => simp only [rsum]; rw [ih (fun i hi => h i (by omega)), h n (by omega)]
theorem rsum_mul (f : Nat → Rat) (c : Rat) (n : Nat) : rsum (fun i => f i * c) n = rsum f n * c := by
 induction n with
 | zero => simp [rsum]
 | succ n ih => simp only [rsum, ih]; rw [Rat.add_mul]
theorem rsum_sz {f : Nat → Rat} {k n : Nat} (h : ∀ i, i < n → SzQ (f i) k) : SzQ (rsum f n) (1 + n * (k + 1)) := by
 induction n with
 | zero => simpa [rsum] using SzQ.zero
 | succ n ih =>
  have := (ih fun i hi => h i (by omega)).add (h n (by omega))
  simp only [rsum]
  exact this.mono (by rw [Nat.add_mul]; omega)
theorem vals_sz {l : List RAT} {k : Nat} (h : ∀ x ∈ l, SzR x k) (hk : 0 < k) {i : Nat} (hi : i < l.length) : SzQ (vals l i) k := by
 rw [vals_get hi]; exact (h _ (List.getElem_mem hi)).szQ hk
def fac : Nat → Nat
 | 0 => 1
 | n + 1 => (n + 1) * fac n
theorem fac_pos (n : Nat) : 0 < fac n := by
 induction n with
 | zero => decide
 | succ n ih => exact Nat.mul_pos (by omega) ih
def facts : List WH := (List.range 65).map fun n => limbsI (fac n : Nat)
theorem products_ok : weigh_products = some facts := by decide +kernel
def Tab (d st sm : Int) (f : List WH) : Prop := (d = 0 ∧ st = 0) ∨ (d = 1 ∧ st = 0 ∧ f = facts)
theorem New_ok : ∃ d st sm f, weigh_New = some (d, st, sm, f) ∧ Tab d st sm f := ⟨0, 0, 0, [], rfl, .inl ⟨rfl, rfl⟩⟩
theorem facts_get {n : Nat} (h : n < 65) : facts[n]? = some (limbsI (fac n : Nat)) := by
 simp [facts, h]
theorem at_ok {d st sm : Int} {f : List WH} (h : Tab d st sm f) {n : Nat} (hn : n ≤ 64) : weigh_at (n : Int) d st sm f = some (limbsI (fac n : Nat), 1, 0, sm, facts) := by
 have h0 : (0 : Int) ≤ (n : Int) := by omega
 have hg := facts_get (n := n) (by omega)
 rcases h with ⟨rfl, rfl⟩ | ⟨rfl, rfl, rfl⟩
 · rw [weigh_at, cnd h0, cnd rfl, cnd rfl, products_ok, Option.bind_some, Int.toNat_natCast, hg, Option.bind_some]
 · rw [weigh_at, cnd h0, cnd' (by decide), Int.toNat_natCast, hg, Option.bind_some]
theorem tab1 (sm : Int) : Tab 1 0 sm facts := .inr ⟨rfl, rfl, rfl⟩
theorem fac_le {n : Nat} (h : n ≤ 64) : fac n < 4294967296 ^ 10 := by
 have hm : ∀ a b, a ≤ b → fac a ≤ fac b := by
  intro a b hab
  induction hab with
  | refl => exact Nat.le_refl _
  | step _ ih =>
   refine Nat.le_trans ih ?_
   simp only [fac]
   exact Nat.le_mul_of_pos_left _ (by omega)
 have := hm n 64 h
 have h64 : fac 64 < 4294967296 ^ 10 := by decide +kernel
 omega
theorem fac_sz {n : Nat} (h : n ≤ 64) : SzQ ((fac n : Nat) : Rat) 10 := by
 have := fac_le h
 exact ⟨by simpa using this, by simp⟩
def quo (a b c : Nat) : Rat := ((fac a : Nat) : Rat) * ((fac b : Nat) : Rat) / ((fac c : Nat) : Rat)
theorem quo_sz {a b c : Nat} (ha : a ≤ 64) (hb : b ≤ 64) (hc : c ≤ 64) : SzQ (quo a b c) 30 := ((fac_sz ha).mul (fac_sz hb)).div (fac_sz hc)
theorem limbsI_lenk {n k : Nat} (h : n < 4294967296 ^ k) : (limbsI (n : Nat)).2.length ≤ k := by
 rw [limbsI_len]; exact limbs_len_le (by simpa using h)
theorem wv_nat (n : Nat) : wv (limbsI (n : Nat)) = (n : Int) := by
 simp [wv_limbsI]
theorem quotient_ok {d st sm : Int} {f : List WH} (h : Tab d st sm f) {a b c : Nat} (ha : a ≤ 64) (hb : b ≤ 64) (hc : c ≤ 64) :
  weigh_Table_quotient (a : Int) (b : Int) (c : Int) d st sm f = some (canQ (quo a b c), 1, 0, sm, facts) := by
 have hl : ∀ {n : Nat}, n ≤ 64 → (limbsI (fac n : Nat)).2.length < 1099511627776 := fun h => Nat.lt_of_le_of_lt (limbsI_lenk (fac_le h)) (by decide)
 have hm : whole_Mul (limbsI (fac a : Nat)) (limbsI (fac b : Nat)) = some (limbsI ((fac a * fac b : Nat) : Int)) := by
  have := wMul_ok (a := limbsI (fac a : Nat)) (b := limbsI (fac b : Nat)) (Nat.lt_of_lt_of_le (hl ha) (by decide)) (Nat.lt_of_lt_of_le (hl hb) (by decide))
  rw [this, wv_nat, wv_nat]; simp
 have hlen : (limbsI ((fac a * fac b : Nat) : Int)).2.length < 1099511627776 := by
  have h1 := fac_le ha
  have h2 := fac_le hb
  have : fac a * fac b < 4294967296 ^ 20 := by
   have := Nat.mul_lt_mul'' h1 h2
   rw [← Nat.pow_add] at this; exact this
  exact Nat.lt_of_le_of_lt (limbsI_lenk this) (by decide)
 have hmk := ratio_Make_ok hlen (hl hc)
 rw [wv_nat, wv_nat, if_neg (by have := fac_pos c; omega)] at hmk
 have hq : (((fac a * fac b : Nat) : Int) : Rat) / (((fac c : Nat) : Int) : Rat) = quo a b c := by
  simp [quo]; rfl
 rw [hq] at hmk
 rw [weigh_Table_quotient, at_ok h ha, Option.bind_some, at_ok (tab1 sm) hb, Option.bind_some, hm, Option.bind_some, at_ok (tab1 sm) hc, Option.bind_some, hmk, Option.bind_some]
def wq (s n : Nat) : Rat := quo s (n - s - 1) n
theorem wq_sz {s n : Nat} (hs : s < n) (hn : n ≤ 64) : SzQ (wq s n) 30 := quo_sz (by omega) (by omega) (by omega)
theorem Weight_ok {d st sm : Int} {f : List WH} (h : Tab d st sm f) {s n : Nat} (hs : s < n) (hn : n ≤ 64) :
  weigh_Table_Weight (s : Int) (n : Int) d st sm f = some (canQ (wq s n), 0, 1, 0, sm, facts) := by
 have e1 : isub .i64 (isub .i64 (n : Int) (s : Int)) 1 = ((n - s - 1 : Nat) : Int) := by
  rw [isub_i (x := (n : Int)) (y := (s : Int)) (by omega) (by omega), isub_i (by omega) (by omega)]; omega
 rw [weigh_Table_Weight, cnd' (by omega), cnd' (by omega), cnd' (by omega), cnd' (by omega), e1, quotient_ok h (by omega) (by omega) (by omega), Option.bind_some]
 rfl
def vabs (l : List RAT) (i : Nat) : Rat := rabs (vals l i)
def vsum (l : List RAT) : Rat := rsum (vabs l) l.length
def shareQ (l : List RAT) (i : Nat) : Rat := vabs l i / vsum l
def shareL (l : List RAT) (n : Nat) : List RAT := (List.range n).map fun i => canQ (shareQ l i)
@[simp] theorem shareL_len (l : List RAT) (n : Nat) : (shareL l n).length = n := by simp [shareL]
section
variable {l : List RAT} (hsz : ∀ x ∈ l, SzR x 2) (hlen : l.length ≤ 33)
include hsz
end
abbrev nLeaf (n : NODE) : Bool := n.1
abbrev nL (n : NODE) : Int := n.2.2.2.1
abbrev nR (n : NODE) : Int := n.2.2.2.2.1
def kids (t : List NODE) (i : Nat) : List Nat :=
 match t[i]? with
 | some n => if nLeaf n then [] else [(nL n).toNat, (nR n).toNat]
 | none => []
def cnt (t : List NODE) (i j : Nat) : Nat := ((List.range i).flatMap (kids t)).count j
section
variable {t : List NODE} {f : Int}
end
def cntL (t : List NODE) (i : Nat) : List Int := (List.range t.length).map fun j => ((cnt t i j : Nat) : Int)
@[simp] theorem cntL_len (t : List NODE) (i : Nat) : (cntL t i).length = t.length := by simp [cntL]
theorem is_self {q r : Rat} {n m : Nat} (hq : SzQ q n) (hn : n < 91625968980) (hr : SzQ r m) (hm : m < 91625968980) (e : q = r) : dendronref10_Is (canQ q) (canQ r) = some true := by
 rw [Is_ok hq hn hr.szR hm, rv_canQ, decide_eq_true e]
def qcan (qs : List Rat) : List RAT := qs.map canQ
@[simp] theorem qcan_len (qs : List Rat) : (qcan qs).length = qs.length := by simp [qcan]
def flo (n : Nat) (o : Nat → Rat) : List RAT := (List.range n).map fun f => canQ (o f)
theorem flo_len (n : Nat) (o : Nat → Rat) : (flo n o).length = n := by simp [flo]
theorem flo_get {n f : Nat} (o : Nat → Rat) (h : f < n) : (flo n o)[f]? = some (canQ (o f)) := by simp [flo, h]
theorem flo_congr {n : Nat} {o p : Nat → Rat} (h : ∀ f, f < n → o f = p f) : flo n o = flo n p := by
 rw [flo, flo]
 exact List.map_congr_left fun f hf => by rw [h f (List.mem_range.1 hf)]
theorem flo_set {n i : Nat} {o p : Nat → Rat} {x : Rat} (hx : p i = x) (hp : ∀ f, f ≠ i → p f = o f) : (flo n o).set i (canQ x) = flo n p := by
 apply List.ext_getElem?
 intro f
 rw [List.getElem?_set]
 by_cases hf : f < n
 · rw [flo_get _ hf, flo_get _ hf, flo_len]
   by_cases e : i = f
   · rw [if_pos e, if_pos (by omega), ← e, hx]
   · rw [if_neg e, hp f (fun h => e h.symm)]
 · have h1 : (flo n o)[f]? = none := List.getElem?_eq_none (by rw [flo_len]; omega)
   have h2 : (flo n p)[f]? = none := List.getElem?_eq_none (by rw [flo_len]; omega)
   rw [h1, h2]
   split
   · rw [if_neg (by rw [flo_len]; omega)]
   · rfl
theorem rsum_zeros {f : Nat → Rat} {n : Nat} (h : ∀ i, i < n → f i = 0) : rsum f n = 0 := by
 induction n with
 | zero => rfl
 | succ n ih => rw [rsum, ih fun i hi => h i (by omega), h n (by omega), Rat.add_zero]
theorem rsum_split (f : Nat → Rat) (a b : Nat) : rsum f (a + b) = rsum f a + rsum (fun i => f (i + a)) b := by
 induction b with
 | zero => simp [rsum, Rat.add_zero]
 | succ b ih => rw [← Nat.add_assoc, rsum, ih, rsum, Rat.add_assoc, Nat.add_comm a b]
abbrev BA := Rat × Rat
def EE : List BA → (Nat → Rat) → Rat
 | [], c => c 0
 | x :: L, c => x.1 * EE L c + x.2 * EE L fun k => c (k + 1)
theorem EE_congr {L : List BA} : ∀ {c d : Nat → Rat}, (∀ k, k ≤ L.length → c k = d k) → EE L c = EE L d := by
 induction L with
 | nil => intro c d h; exact h 0 (Nat.le_refl _)
 | cons x L ih =>
  intro c d h
  rw [EE, EE, ih fun k hk => h k (by simp only [List.length_cons]; omega), ih fun k hk => h (k + 1) (by simp only [List.length_cons]; omega)]
theorem EE_add {L : List BA} : ∀ {c d : Nat → Rat}, EE L (fun k => c k + d k) = EE L c + EE L d := by
 induction L with
 | nil => intro c d; rfl
 | cons x L ih => intro c d; rw [EE, EE, EE, ih, ih]; grind
theorem EE_mul {L : List BA} : ∀ {c : Nat → Rat} {q : Rat}, EE L (fun k => q * c k) = q * EE L c := by
 induction L with
 | nil => intro c q; rfl
 | cons x L ih => intro c q; rw [EE, EE, ih, ih]; grind
theorem wq_add {k n : Nat} (h : k < n) : wq k (n + 1) + wq (k + 1) (n + 1) = wq k n := by
 unfold wq quo
 have e1 : n + 1 - k - 1 = (n - k - 1) + 1 := by omega
 have e2 : n + 1 - (k + 1) - 1 = n - k - 1 := by omega
 rw [e1, e2]
 obtain ⟨j, hj⟩ : ∃ j, j = n - k - 1 := ⟨_, rfl⟩
 rw [← hj]
 have hn : ((n : Nat) : Rat) = (j : Rat) + (k : Rat) + 1 := by
  have : n = j + k + 1 := by omega
  rw [this]; push_cast; rfl
 have f1 : ((fac (j + 1) : Nat) : Rat) = ((j : Rat) + 1) * ((fac j : Nat) : Rat) := by rw [fac]; push_cast; rfl
 have f2 : ((fac (k + 1) : Nat) : Rat) = ((k : Rat) + 1) * ((fac k : Nat) : Rat) := by rw [fac]; push_cast; rfl
 have f3 : ((fac (n + 1) : Nat) : Rat) = ((n : Rat) + 1) * ((fac n : Nat) : Rat) := by rw [fac]; push_cast; rfl
 have p1 : ((fac n : Nat) : Rat) ≠ 0 := by
  have := fac_pos n
  intro e
  have : (fac n : Nat) = 0 := by exact_mod_cast e
  omega
 have p2 : (n : Rat) + 1 ≠ 0 := by
  intro e
  have : ((n + 1 : Nat) : Rat) = 0 := by push_cast; exact e
  have : (n + 1 : Nat) = 0 := by exact_mod_cast this
  omega
 rw [f1, f2, f3]
 obtain ⟨a, ha⟩ : ∃ a, a = ((fac k : Nat) : Rat) := ⟨_, rfl⟩
 obtain ⟨b, hb⟩ : ∃ b, b = ((fac j : Nat) : Rat) := ⟨_, rfl⟩
 obtain ⟨d, hd⟩ : ∃ d, d = ((fac n : Nat) : Rat) := ⟨_, rfl⟩
 obtain ⟨x, hx⟩ : ∃ x, x = (j : Rat) := ⟨_, rfl⟩
 obtain ⟨y, hy⟩ : ∃ y, y = (k : Rat) := ⟨_, rfl⟩
 rw [← hd] at p1 ⊢
 rw [hn, ← hx, ← hy] at p2
 rw [hn, ← ha, ← hb, ← hx, ← hy]
 grind
theorem rsum_addF (f g : Nat → Rat) (n : Nat) : rsum (fun i => f i + g i) n = rsum f n + rsum g n := by
 induction n with
 | zero => simp [rsum, Rat.add_zero]
 | succ n ih => rw [rsum, rsum, rsum, ih]; grind
def flx (n : Nat) (g : Nat → RAT) : List RAT := (List.range n).map g
theorem flx_len (n : Nat) (g : Nat → RAT) : (flx n g).length = n := by simp [flx]
theorem flx_get {n f : Nat} (g : Nat → RAT) (h : f < n) : (flx n g)[f]? = some (g f) := by simp [flx, h]
theorem flx_set {n i : Nat} {o p : Nat → RAT} {x : RAT} (hx : p i = x) (hp : ∀ f, f ≠ i → p f = o f) : (flx n o).set i x = flx n p := by
 apply List.ext_getElem?
 intro f
 rw [List.getElem?_set]
 by_cases hf : f < n
 · rw [flx_get _ hf, flx_get _ hf, flx_len]
   by_cases e : i = f
   · rw [if_pos e, if_pos (by omega), ← e, hx]
   · rw [if_neg e, hp f (fun h => e h.symm)]
 · have h1 : (flx n o)[f]? = none := List.getElem?_eq_none (by rw [flx_len]; omega)
   have h2 : (flx n p)[f]? = none := List.getElem?_eq_none (by rw [flx_len]; omega)
   rw [h1, h2]
   split
   · rw [if_neg (by rw [flx_len]; omega)]
   · rfl
theorem flx_congr {n : Nat} {o p : Nat → RAT} (h : ∀ f, f < n → o f = p f) : flx n o = flx n p := List.map_congr_left fun f hf => h f (List.mem_range.1 hf)
def raw0 : RAT := ((false, []), [])
theorem rv_raw0 : rv raw0 = 0 := by decide +kernel
def topN (c : Nat → Rat) : Nat → Nat
 | 0 => 0
 | n + 1 => if c n = 0 then topN c n else n + 1
theorem topN_le (c : Nat → Rat) (n : Nat) : topN c n ≤ n := by
 induction n with
 | zero => exact Nat.le_refl _
 | succ n ih => rw [topN]; split <;> omega
theorem topN_zero {c : Nat → Rat} {n k : Nat} (h1 : topN c n ≤ k) (h2 : k < n) : c k = 0 := by
 induction n with
 | zero => omega
 | succ n ih =>
  rw [topN] at h1
  split at h1
  · rename_i e
    by_cases hk : k = n
    · rw [hk]; exact e
    · exact ih h1 (by omega)
  · omega
theorem topN_none {c : Nat → Rat} {n : Nat} (h : ∀ k, k < n → c k = 0) : topN c n = 0 := by
 induction n with
 | zero => rfl
 | succ n ih => rw [topN, if_pos (h n (by omega)), ih fun k hk => h k (by omega)]
theorem topN_full {c : Nat → Rat} {n : Nat} (h : c n ≠ 0) : topN c (n + 1) = n + 1 := by rw [topN, if_neg h]
theorem topN_ext {c : Nat → Rat} {n m : Nat} (h : ∀ k, n ≤ k → c k = 0) (hm : n ≤ m) : topN c m = topN c n := by
 induction m with
 | zero => have : n = 0 := by omega
           subst this; rfl
 | succ m ih =>
  by_cases e : n = m + 1
  · rw [e]
  · rw [topN, if_pos (h m (by omega)), ih (by omega)]
def polL (n : Nat) (c : Nat → Rat) : List RAT := flo (topN c n) c
theorem polL_len (n : Nat) (c : Nat → Rat) : (polL n c).length = topN c n := flo_len _ _
theorem polL_ext {n m : Nat} {c : Nat → Rat} (h : ∀ k, n ≤ k → c k = 0) (hm : n ≤ m) : polL m c = polL n c := by rw [polL, polL, topN_ext h hm]
theorem vals_flo {n k : Nat} (c : Nat → Rat) : vals (flo n c) k = if k < n then c k else 0 := by
 unfold vals
 split
 · rename_i h; rw [flo_get c h]; exact rv_canQ _
 · rename_i h
   rw [List.getElem?_eq_none (by rw [flo_len]; omega)]
   exact rv_raw0
theorem vals_polL {n k : Nat} (c : Nat → Rat) : vals (polL n c) k = if k < n then c k else 0 := by
 rw [polL, vals_flo]
 by_cases h : k < topN c n
 · rw [if_pos h, if_pos (by have := topN_le c n; omega)]
 · rw [if_neg h]
   split
   · rename_i h2; exact (topN_zero (c := c) (n := n) (k := k) (by omega) h2).symm
   · rfl
theorem vals_out {l : List RAT} {k : Nat} (h : l.length ≤ k) : vals l k = 0 := by
 unfold vals
 rw [List.getElem?_eq_none h]
 exact rv_raw0
theorem vals_polL_out {n k : Nat} {c : Nat → Rat} (h : ∀ k, n ≤ k → c k = 0) : vals (polL n c) k = c k := by
 rw [vals_polL]
 split
 · rfl
 · rw [h k (by omega)]
theorem ptrim_ok {n : Nat} {c : Nat → Rat} (hn : n ≤ 1000000) (hc : ∀ k, k < n → SzQ (c k) 1000000000) : poly_trim (flo n c) = some (polL n c) := by
 obtain ⟨r, ⟨d, hd, hd2⟩, e⟩ := lp_wf (step := poly_trim_s2)
  (fun v => ∃ m : Nat, v = ((flo n c, (m : Int), ()), ()) ∧ m ≤ n ∧ topN c n = topN c m) (fun v => v.1.2.1.toNat)
  (fun r => ∃ m : Nat, r = ((flo n c, (m : Int), ()), ()) ∧ m = topN c n)
  (v := ((flo n c, ((flo n c).length : Int), ()), ())) ⟨n, by rw [flo_len], Nat.le_refl _, rfl⟩ (by show ((flo n c).length : Int).toNat < _; rw [flo_len]; omega) (by
  rintro v ⟨m, rfl, hm, ht⟩
  cases m with
  | zero =>
   left
   refine ⟨_, ⟨0, rfl, by rw [ht]; rfl⟩, fun g => ?_⟩
   rw [poly_trim_s2, cnd' (by omega)]
  | succ m =>
   have e1 : isub .i64 ((m + 1 : Nat) : Int) 1 = (m : Int) := by rw [isub_i (by omega) (by omega)]; omega
   have st : ∀ g, poly_trim_s2 g ((flo n c, ((m + 1 : Nat) : Int), ()), ()) = bif decide (rcmp (c m) 0 = 0) then g ((flo n c, (m : Int), ()), ()) else some ((flo n c, ((m + 1 : Nat) : Int), ()), ()) := by
     intro g
     rw [poly_trim_s2, cnd (by omega), e1, cnd2 (by omega) (by rw [flo_len]; omega), Int.toNat_natCast, flo_get c (by omega), Option.bind_some, ratio_Sign_ok ((hc m (by omega)).sm (by decide)), Option.bind_some, rv_canQ]
   by_cases h0 : c m = 0
   · right
     refine ⟨_, ⟨m, rfl, by omega, by rw [ht, topN, if_pos h0]⟩, ?_, fun g => ?_⟩
     · show ((m : Nat) : Int).toNat < ((m + 1 : Nat) : Int).toNat; omega
     · rw [st g, h0, show rcmp 0 0 = 0 by decide, cnd rfl]
   · left
     refine ⟨_, ⟨m + 1, rfl, by rw [ht, topN, if_neg h0]⟩, fun g => ?_⟩
     have : ¬ rcmp (c m) 0 = 0 := by
       unfold rcmp
       intro e
       split at e
       · exact absurd e (by decide)
       · split at e
         · exact absurd e (by decide)
         · rename_i h1 h2
           exact h0 (by grind)
     rw [st g, cnd' this])
 rw [poly_trim, e, hd, Option.bind_some]
 dsimp only
 subst hd2
 have hle := topN_le c n
 rw [decide_eq_true (by omega), decide_eq_true (by omega), decide_eq_true (by rw [flo_len]; omega)]
 show some _ = _
 rw [Int.sub_zero, Int.toNat_natCast, polL]
 congr 1
 unfold flo
 rw [← List.map_take, List.take_range, Nat.min_eq_left hle]
theorem at4_ok {l : List RAT} {k : Nat} : ∃ x, poly_at l (k : Int) = some x ∧ rv x = vals l k ∧ (k < l.length → l[k]? = some x) ∧ (l.length ≤ k → x = canQ 0) := by
 by_cases h : k < l.length
 · refine ⟨l[k], ?_, by rw [vals_get h], fun _ => List.getElem?_eq_getElem h, fun h' => by omega⟩
   rw [poly_at, cnd (by omega), cnd (by omega), Int.toNat_natCast, List.getElem?_eq_getElem h, Option.bind_some]
 · refine ⟨canQ 0, ?_, by rw [rv_canQ, vals_out (by omega)], fun h' => absurd h' h, fun _ => rfl⟩
   rw [poly_at, cnd' (by omega), ratio_Zero_ok]; rfl
def LSz (l : List RAT) (k : Nat) : Prop := l.length ≤ 1000 ∧ ∀ x ∈ l, SzR x k
theorem LSz.vals {l : List RAT} {k i : Nat} (h : LSz l k) (hk : 0 < k) : SzQ (vals l i) k := by
 by_cases hi : i < l.length
 · exact vals_sz h.2 hk hi
 · rw [vals_out (by omega)]; exact SzQ.zero.mono hk
theorem LSz.polL {n k : Nat} {c : Nat → Rat} (hn : n ≤ 1000) (h : ∀ i, i < n → SzQ (c i) k) : LSz (polL n c) k := by
 refine ⟨by rw [polL_len]; have := topN_le c n; omega, fun x hx => ?_⟩
 obtain ⟨i, hi, rfl⟩ := List.mem_map.1 hx
 have := List.mem_range.1 hi
 exact (h i (by have := topN_le c n; omega)).szR
theorem poly_Add_ok {a b : List RAT} {j k : Nat} (ha : LSz a j) (hb : LSz b k) (hj : 0 < j) (hk : 0 < k) (hjk : j + k < 1000000000) : poly_Add a b = some (polL (max a.length b.length) fun i => vals a i + vals b i) := by
 obtain ⟨n, hn⟩ : ∃ n, n = max a.length b.length := ⟨_, rfl⟩
 have n1 : n ≤ 1000 := by have := ha.1; have := hb.1; omega
 have hmx : mx (a.length : Int) (b.length : Int) = (n : Int) := by unfold mx; split <;> omega
 obtain ⟨c, hc⟩ : ∃ c : Nat → Rat, c = fun i => vals a i + vals b i := ⟨_, rfl⟩
 have key := lp_up (step := poly_Add_s3) (fun i => ((a, b, flo i c, (n : Int), (i : Int), ()), ())) n (r := ((flo n c, ()), ())) (by omega) (by
  intro g i hi
  have d0 : (i : Int) < (n : Int) := by omega
  obtain ⟨x, x1, x2, x3, x4⟩ := at4_ok (l := a) (k := i)
  obtain ⟨y, y1, y2, y3, y4⟩ := at4_ok (l := b) (k := i)
  have sx : Sm x := by
   by_cases h : i < a.length
   · exact (ha.2 x (List.mem_of_getElem? (x3 h))).sm (by omega)
   · rw [x4 (by omega)]; exact SzQ.zero.sm (by decide)
  have sy : Sm y := by
   by_cases h : i < b.length
   · exact (hb.2 y (List.mem_of_getElem? (y3 h))).sm (by omega)
   · rw [y4 (by omega)]; exact SzQ.zero.sm (by decide)
  rw [poly_Add_s3, cnd d0, x1, Option.bind_some, y1, Option.bind_some, ratio_Add_ok sx sy, Option.bind_some, x2, y2, blt (by rw [flo_len]; omega), cond_true, iadd1 (by omega)]
  have : flo (i + 1) c = flo i c ++ [canQ (vals a i + vals b i)] := by rw [hc]; simp [flo, List.range_succ]
  rw [this]; rfl) (by
  intro g
  rw [poly_Add_s3, cnd' (by omega)])
 have key : lp poly_Add_s3 K0 ((a, b, [], (n : Int), 0, ()), ()) = _ := key
 rw [poly_Add, hmx, key, Option.bind_some]
 dsimp only
 rw [ptrim_ok (by omega) (fun i _ => by rw [hc]; exact ((ha.vals hj).add (hb.vals hk)).mono (by omega)), Option.bind_some, ← hn, hc]
theorem poly_Scale_ok {a : List RAT} {q : RAT} {j k : Nat} (ha : LSz a j) (hq : SzR q k) (hj : 0 < j) (hk : 0 < k) (hjk : j + k < 1000000000) : poly_Scale a q = some (polL a.length fun i => vals a i * rv q) := by
 obtain ⟨n, hn⟩ : ∃ n, n = a.length := ⟨_, rfl⟩
 have n1 : n ≤ 1000 := by have := ha.1; omega
 have hqz : SzQ (rv q) k := hq.szQ hk
 obtain ⟨c, hc⟩ : ∃ c : Nat → Rat, c = fun i => vals a i * rv q := ⟨_, rfl⟩
 have key := lp_up (step := poly_Scale_s3) (fun i => ((flo i c, a, (a.length : Int), (i : Int), ()), ((q.1.1, q.1.2, q.2, ()), ()))) n (r := ((flo n c, ()), ())) (by omega) (by
  intro g i hi
  have d0 : (i : Int) < (a.length : Int) := by omega
  have hi' : i < a.length := by omega
  have hm := ratio_Mul_ok ((ha.2 _ (List.getElem_mem hi')).sm (by omega)) (hq.sm (by omega))
  rw [poly_Scale_s3, cnd d0, cnd (by omega), Int.toNat_natCast, List.getElem?_eq_getElem hi', Option.bind_some]
  show (ratio_Mul a[i] q).bind _ = _
  rw [hm, Option.bind_some, blt (by rw [flo_len]; omega), cond_true, iadd1 (by omega)]
  have : flo (i + 1) c = flo i c ++ [canQ (rv a[i] * rv q)] := by rw [hc]; simp [flo, List.range_succ, vals_get hi']
  rw [this]; rfl) (by
  intro g
  rw [poly_Scale_s3, cnd' (by omega)])
 have key : lp poly_Scale_s3 K0 (([], a, (a.length : Int), 0, ()), ((q.1.1, q.1.2, q.2, ()), ())) = _ := key
 rw [poly_Scale, key, Option.bind_some]
 dsimp only
 rw [ptrim_ok (by omega) (fun i _ => by rw [hc]; exact ((ha.vals hj).mul hqz).mono (by omega)), Option.bind_some, hn, hc]
theorem poly_Clean_ok {a : List RAT} {j : Nat} (ha : LSz a j) (hj : 0 < j) (hj2 : j < 1000000000) : poly_Clean a = some (polL a.length (vals a)) := by
 obtain ⟨n, hn⟩ : ∃ n, n = a.length := ⟨_, rfl⟩
 have n1 : n ≤ 1000 := by have := ha.1; omega
 obtain ⟨G, hG⟩ : ∃ G : Nat → Nat → RAT, G = fun i f => if f < i then canQ (vals a f) else raw0 := ⟨_, rfl⟩
 have key := lp_up (step := poly_Clean_s3) (fun i => ((flx n (G i), a, (a.length : Int), (i : Int), ()), ())) n (r := ((flo n (vals a), ()), ())) (by omega) (by
  intro g i hi
  have d0 : (i : Int) < (a.length : Int) := by omega
  have hi' : i < a.length := by omega
  have hm := ratio_Clean_ok ((ha.2 _ (List.getElem_mem hi')).sm (by omega))
  rw [poly_Clean_s3, cnd d0, cnd (by omega), Int.toNat_natCast, List.getElem?_eq_getElem hi', Option.bind_some, hm, Option.bind_some, cnd2 (by omega) (by rw [flx_len]; omega), flx_get _ hi, Option.bind_some, iadd1 (by omega)]
  rw [flx_set (p := G (i + 1)) (by rw [hG]; show (if i < i + 1 then _ else _) = _; rw [if_pos (by omega), vals_get hi']) (fun f hf => by
   rw [hG]
   show (if f < i + 1 then _ else _) = if f < i then _ else _
   by_cases h : f < i
   · rw [if_pos (by omega), if_pos h]
   · rw [if_neg (by omega), if_neg h])]
  rfl) (by
  intro g
  rw [poly_Clean_s3, cnd' (by omega), flx_congr (o := G n) (p := fun f => canQ (vals a f)) (fun f hf => by rw [hG]; exact if_pos hf)]; rfl)
 have e0 : flx n (G 0) = List.replicate n raw0 := by
  have : G 0 = fun _ => raw0 := by funext f; rw [hG]; exact if_neg (by omega)
  rw [this, flx, List.map_const', List.length_range]
 rw [e0, hn] at key
 have key : lp poly_Clean_s3 K0 ((List.replicate a.length (((false, []), []) : RAT), a, (a.length : Int), 0, ()), ()) = _ := key
 have c1 : (decide ((a.length : Int) = (a.length : Int)) && decide (0 ≤ (a.length : Int)) && decide (((56 : Nat) : Int) * (a.length : Int) ≤ 281474976710656) && decide ((a.length : Int) ≤ 9223372036854775807)) = true := by
  have := ha.1
  rw [decide_eq_true rfl, decide_eq_true (by omega), decide_eq_true (by omega), decide_eq_true (by omega)]; rfl
 rw [poly_Clean, c1, cond_true, Int.toNat_natCast, key, Option.bind_some]
 dsimp only
 rw [ptrim_ok (by omega) (fun i _ => (ha.vals hj).mono (by omega)), Option.bind_some]
def PS (A B : Nat → Rat) (i t : Nat) : Rat := rsum (fun i' => if i' ≤ t then A i' * B (t - i') else 0) i
theorem PS_succ (A B : Nat → Rat) (i t : Nat) : PS A B (i + 1) t = PS A B i t + (if i ≤ t then A i * B (t - i) else 0) := rfl
theorem poly_Mul_ok {a b : List RAT} {j k s : Nat} (ha : LSz a j) (hb : LSz b k) (hj : 0 < j) (hk : 0 < k) (hj2 : j < 100000000) (hk2 : k < 100000000) (hs : s < 1000000000)
   (hS : ∀ i t, SzQ (PS (vals a) (vals b) i t) s) :
   poly_Mul a b = some (polL (topN (vals a) a.length + topN (vals b) b.length - 1) (PS (vals a) (vals b) (topN (vals a) a.length))) := by
 obtain ⟨A, eA⟩ : ∃ A, A = vals a := ⟨_, rfl⟩
 obtain ⟨B, eB⟩ : ∃ B, B = vals b := ⟨_, rfl⟩
 have hA : ∀ i, SzQ (A i) j := fun i => eA ▸ ha.vals hj
 have hB : ∀ i, SzQ (B i) k := fun i => eB ▸ hb.vals hk
 have ca := poly_Clean_ok ha hj (by omega)
 have cb := poly_Clean_ok hb hk (by omega)
 rw [← eA, ← eB] at hS ⊢
 rw [← eA] at ca
 rw [← eB] at cb
 have tla := topN_le A a.length
 have tlb := topN_le B b.length
 have hal := ha.1
 have hbl := hb.1
 have zb : ∀ t, topN B b.length ≤ t → B t = 0 := fun t ht => by
   by_cases h : t < b.length
   · exact topN_zero ht h
   · rw [eB]; exact vals_out (by omega)
 obtain ⟨la, ela⟩ : ∃ la, la = topN A a.length := ⟨_, rfl⟩
 obtain ⟨lb, elb⟩ : ∃ lb, lb = topN B b.length := ⟨_, rfl⟩
 have pa : polL a.length A = flo la A := by rw [polL, ela]
 have pb : polL b.length B = flo lb B := by rw [polL, elb]
 rw [pa] at ca
 rw [pb] at cb
 rw [← ela, ← elb]
 rw [← elb] at zb
 rw [poly_Mul, ca, Option.bind_some, cb, Option.bind_some, flo_len, flo_len]
 by_cases h1 : la = 0
 · rw [cnd (by omega), h1, polL, topN_none (c := PS A B 0) (fun t _ => rfl)]; rfl
 · by_cases h2 : lb = 0
   · rw [cnd' (by omega), cnd (by omega), h2, polL, topN_none (c := PS A B la) (fun t _ => rsum_zeros fun i _ => by
      rw [zb _ (by omega), Rat.mul_zero, ite_self])]; rfl
   · obtain ⟨N, eN⟩ : ∃ N, N = la + lb - 1 := ⟨_, rfl⟩
     have i1 : iadd .i64 (la : Int) (lb : Int) = ((la + lb : Nat) : Int) := by rw [iadd_i (by omega) (by omega)]; omega
     have i2 : isub .i64 ((la + lb : Nat) : Int) 1 = (N : Int) := by rw [isub_i (by omega) (by omega)]; omega
     have c1 : (decide ((N : Int) = (N : Int)) && decide (0 ≤ (N : Int)) && decide (((56 : Nat) : Int) * (N : Int) ≤ 281474976710656) && decide ((N : Int) ≤ 9223372036854775807)) = true := by
      rw [decide_eq_true rfl, decide_eq_true (by omega), decide_eq_true (by omega), decide_eq_true (by omega)]; rfl
     obtain ⟨G, hG⟩ : ∃ G : Nat → Nat → RAT, G = fun i f => if f < i then canQ 0 else raw0 := ⟨_, rfl⟩
     have k1 := lp_up (step := poly_Mul_s6) (fun i => ((flo la A, flo lb B, flx N (G i), (N : Int), (i : Int), ()), ())) N (r := ((flo la A, flo lb B, flo N (fun _ => 0), ()), ())) (by omega) (by
      intro g i hi
      have d0 : (i : Int) < (N : Int) := by omega
      rw [poly_Mul_s6, cnd d0, ratio_Zero_ok, Option.bind_some, cnd2 (by omega) (by rw [flx_len]; omega), Int.toNat_natCast, flx_get _ hi, Option.bind_some, iadd1 (by omega)]
      rw [flx_set (p := G (i + 1)) (by rw [hG]; show (if i < i + 1 then _ else _) = _; rw [if_pos (by omega)]) (fun f hf => by
       rw [hG]
       show (if f < i + 1 then _ else _) = if f < i then _ else _
       by_cases h : f < i
       · rw [if_pos (by omega), if_pos h]
       · rw [if_neg (by omega), if_neg h])]
      rfl) (by
      intro g
      rw [poly_Mul_s6, cnd' (by omega), flx_congr (o := G N) (p := fun f => canQ 0) (fun f hf => by rw [hG]; exact if_pos hf)]; rfl)
     have e0 : flx N (G 0) = List.replicate N raw0 := by
      have : G 0 = fun _ => raw0 := by funext f; rw [hG]; exact if_neg (by omega)
      rw [this, flx, List.map_const', List.length_range]
     rw [e0] at k1
     have k1 : lp poly_Mul_s6 K0 ((flo la A, flo lb B, List.replicate N (((false, []), []) : RAT), (N : Int), 0, ()), ()) = _ := k1
     have k2 := lp_up (step := poly_Mul_s11) (fun i => ((flo lb B, flo N (PS A B i), flo la A, (la : Int), (i : Int), ()), ())) la (r := ((flo N (PS A B la), ()), ())) (by omega) (by
      intro g i hi
      have d0 : (i : Int) < (la : Int) := by omega
      have d1 : (i : Int) < ((flo la A).length : Int) := by rw [flo_len]; omega
      obtain ⟨O, hO⟩ : ∃ O : Nat → Nat → Rat, O = fun j t => if i ≤ t ∧ t < i + j then PS A B (i + 1) t else PS A B i t := ⟨_, rfl⟩
      have k3 := lp_up (step := poly_Mul_s14) (fun j => ((flo lb B, flo N (O j), (i : Int), flo la A, (la : Int), (i : Int), flo lb B, ((flo lb B).length : Int), (j : Int), ()), (((canQ (A i)).1.1, (canQ (A i)).1.2, (canQ (A i)).2, ()), ()))) lb (r := ((flo lb B, flo N (PS A B (i + 1)), flo la A, (la : Int), (i : Int), ()), ())) (by omega) (by
       intro g t ht
       have e0 : (t : Int) < ((flo lb B).length : Int) := by rw [flo_len]; omega
       have ix : iadd .i64 (i : Int) (t : Int) = ((i + t : Nat) : Int) := by rw [iadd_i (by omega) (by omega)]; omega
       have hit : i + t < N := by omega
       have o1 : O t (i + t) = PS A B i (i + t) := by rw [hO]; exact if_neg (by omega)
       have m1 := ratio_Mul_ok ((hA i).sm (by omega)) ((hB t).sm (by omega))
       rw [rv_canQ, rv_canQ] at m1
       have m2 := ratio_Add_ok ((hS i (i + t)).sm (by omega)) (((hA i).mul (hB t)).sm (by omega))
       rw [rv_canQ, rv_canQ] at m2
       have e1 : PS A B i (i + t) + A i * B t = PS A B (i + 1) (i + t) := by rw [PS_succ, if_pos (by omega), show i + t - i = t by omega]
       rw [poly_Mul_s14, cnd e0, cnd (by omega), Int.toNat_natCast, flo_get _ ht, Option.bind_some, ix, cnd2 (by omega) (by rw [flo_len]; omega), Int.toNat_natCast, flo_get _ hit, Option.bind_some, o1]
       show (ratio_Mul (canQ (A i)) (canQ (B t))).bind _ = _
       rw [m1, Option.bind_some, m2, Option.bind_some, cnd2 (by omega) (by rw [flo_len]; omega), Option.bind_some, iadd1 (by omega), e1]
       rw [flo_set (p := O (t + 1)) (by rw [hO]; exact if_pos (by omega)) (fun f hf => by
         rw [hO]
         show (if i ≤ f ∧ f < i + (t + 1) then _ else _) = if i ≤ f ∧ f < i + t then _ else _
         by_cases h : i ≤ f ∧ f < i + t
         · rw [if_pos (by omega), if_pos h]
         · rw [if_neg (by omega), if_neg h])]
       rfl) (by
       intro g
       rw [poly_Mul_s14, cnd' (by rw [flo_len]; omega)]
       rw [flo_congr (o := O lb) (p := PS A B (i + 1)) (fun f hf => by
         rw [hO]
         show (if i ≤ f ∧ f < i + lb then _ else _) = _
         by_cases h : i ≤ f ∧ f < i + lb
         · rw [if_pos h]
         · rw [if_neg h, PS_succ]
           split
           · rw [zb _ (by omega), Rat.mul_zero, Rat.add_zero]
           · rw [Rat.add_zero])])
      have e3 : flo N (O 0) = flo N (PS A B i) := flo_congr fun f _ => by rw [hO]; exact if_neg (by omega)
      rw [e3] at k3
      have k3 : lp poly_Mul_s14 K0 ((flo lb B, flo N (PS A B i), (i : Int), flo la A, (la : Int), (i : Int), flo lb B, ((flo lb B).length : Int), 0, ()), (((canQ (A i)).1.1, (canQ (A i)).1.2, (canQ (A i)).2, ()), ())) = _ := k3
      rw [poly_Mul_s11, cnd d0, cnd2 (by omega) d1, Int.toNat_natCast, flo_get _ hi, Option.bind_some, k3, Option.bind_some]
      dsimp only
      rw [iadd1 (by omega)]
      rfl) (by
      intro g
      rw [poly_Mul_s11, cnd' (by omega)])
     have k2 : lp poly_Mul_s11 K0 ((flo lb B, flo N (fun _ => 0), flo la A, (la : Int), 0, ()), ()) = _ := k2
     rw [cnd' (by omega), cnd' (by omega), i1, i2, c1, cond_true, Int.toNat_natCast, List.length_replicate, k1, Option.bind_some]
     dsimp only
     rw [flo_len, k2, Option.bind_some]
     dsimp only
     rw [ptrim_ok (by omega) (fun t _ => (hS la t).mono (by omega)), Option.bind_some, eN]
def mulF (x : BA) (P : Nat → Rat) (k : Nat) : Rat := x.1 * P k + (if k = 0 then 0 else x.2 * P (k - 1))
theorem PS_lin {A B : Nat → Rat} (hB : ∀ t, 2 ≤ t → B t = 0) (i t : Nat) : PS A B i t = (if t < i then A t * B 0 else 0) + (if 1 ≤ t ∧ t - 1 < i then A (t - 1) * B 1 else 0) := by
 induction i with
 | zero => rw [if_neg (by omega), if_neg (by omega), Rat.add_zero]; rfl
 | succ i ih =>
  rw [PS_succ, ih]
  by_cases h1 : t = i
  · subst h1
    rw [if_neg (show ¬ t < t by omega), if_pos (show t ≤ t by omega), if_pos (show t < t + 1 by omega), Nat.sub_self]
    by_cases h2 : 1 ≤ t
    · rw [if_pos (show 1 ≤ t ∧ t - 1 < t by omega), if_pos (show 1 ≤ t ∧ t - 1 < t + 1 by omega)]; grind
    · rw [if_neg (show ¬ (1 ≤ t ∧ t - 1 < t) by omega), if_neg (show ¬ (1 ≤ t ∧ t - 1 < t + 1) by omega), Rat.add_zero, Rat.zero_add, Rat.add_zero]
  · by_cases h2 : t = i + 1
    · subst h2
      rw [if_neg (show ¬ i + 1 < i by omega), if_neg (show ¬ (1 ≤ i + 1 ∧ i + 1 - 1 < i) by omega), if_pos (show i ≤ i + 1 by omega), if_neg (show ¬ i + 1 < i + 1 by omega), if_pos (show 1 ≤ i + 1 ∧ i + 1 - 1 < i + 1 by omega), show i + 1 - i = 1 by omega, show i + 1 - 1 = i by omega, Rat.add_zero]
    · by_cases h3 : t < i
      · rw [if_pos h3, if_neg (show ¬ i ≤ t by omega), if_pos (show t < i + 1 by omega), Rat.add_zero]
        by_cases h4 : 1 ≤ t
        · rw [if_pos (show 1 ≤ t ∧ t - 1 < i by omega), if_pos (show 1 ≤ t ∧ t - 1 < i + 1 by omega)]
        · rw [if_neg (show ¬ (1 ≤ t ∧ t - 1 < i) by omega), if_neg (show ¬ (1 ≤ t ∧ t - 1 < i + 1) by omega)]
      · rw [if_neg h3, if_neg (show ¬ (1 ≤ t ∧ t - 1 < i) by omega), if_pos (show i ≤ t by omega), if_neg (show ¬ t < i + 1 by omega), if_neg (show ¬ (1 ≤ t ∧ t - 1 < i + 1) by omega), hB _ (show 2 ≤ t - i by omega), Rat.mul_zero, Rat.add_zero]
theorem mul_lin {n j k : Nat} {P : Nat → Rat} {b : List RAT} {x : BA} (hn : n ≤ 900) (hP : ∀ i, SzQ (P i) j) (h0 : ∀ i, n ≤ i → P i = 0) (hb : LSz b k) (hj : 0 < j) (hk : 0 < k) (hj2 : j < 100000000) (hk2 : k < 100000000)
   (b0 : vals b 0 = x.1) (b1 : vals b 1 = x.2) (b2 : b.length ≤ 2) :
   poly_Mul (polL n P) b = some (polL (n + 1) (mulF x P)) ∧ (∀ i, SzQ (mulF x P i) (2 * j + 2 * k + 1)) ∧ ∀ i, n + 1 ≤ i → mulF x P i = 0 := by
 have hv : vals (polL n P) = P := by funext i; exact vals_polL_out h0
 have hB : ∀ t, 2 ≤ t → vals b t = 0 := fun t ht => vals_out (by omega)
 have hbz : ∀ t, SzQ (vals b t) k := fun t => hb.vals hk
 have z0 : ∀ m, SzQ 0 (m + k) := fun m => SzQ.zero.mono (by omega)
 have hS : ∀ i t, SzQ (PS P (vals b) i t) (2 * j + 2 * k + 1) := fun i t => by
   rw [PS_lin hB]
   have s1 : SzQ (if t < i then P t * vals b 0 else 0) (j + k) := by
     split
     · exact (hP t).mul (hbz 0)
     · exact z0 j
   have s2 : SzQ (if 1 ≤ t ∧ t - 1 < i then P (t - 1) * vals b 1 else 0) (j + k) := by
     split
     · exact (hP (t - 1)).mul (hbz 1)
     · exact z0 j
   exact (s1.add s2).mono (by omega)
 have hM := poly_Mul_ok (a := polL n P) (b := b) (LSz.polL (by omega) fun i _ => hP i) hb hj hk hj2 hk2 (s := 2 * j + 2 * k + 1) (by omega) (by rw [hv]; exact hS)
 rw [hv] at hM
 obtain ⟨la, ela⟩ : ∃ la, la = topN P (polL n P).length := ⟨_, rfl⟩
 obtain ⟨lb, elb⟩ : ∃ lb, lb = topN (vals b) b.length := ⟨_, rfl⟩
 have hla : la ≤ n := by rw [ela]; exact Nat.le_trans (topN_le _ _) (by rw [polL_len]; exact topN_le _ _)
 have zA : ∀ t, la ≤ t → P t = 0 := fun t ht => by
   by_cases h : t < (polL n P).length
   · exact topN_zero (by omega) h
   · rw [← hv]; exact vals_out (by omega)
 have zB : ∀ t, lb ≤ t → vals b t = 0 := fun t ht => by
   by_cases h : t < b.length
   · exact topN_zero (by omega) h
   · exact vals_out (by omega)
 have hlb : lb ≤ 2 := by rw [elb]; exact Nat.le_trans (topN_le _ _) b2
 have hPS : ∀ t, PS P (vals b) la t = mulF x P t := fun t => by
   rw [PS_lin hB, mulF, b0, b1]
   congr 1
   · split
     · rw [Rat.mul_comm]
     · rw [zA t (by omega), Rat.mul_zero]
   · by_cases h : t = 0
     · rw [if_neg (by omega), if_pos h]
     · rw [if_neg h]
       by_cases h2 : t - 1 < la
       · rw [if_pos (by omega), Rat.mul_comm]
       · rw [if_neg (by omega), zA _ (by omega), Rat.mul_zero]
 have hz : ∀ i, n + 1 ≤ i → mulF x P i = 0 := fun i hi => by
   rw [mulF, h0 i (by omega), if_neg (by omega), h0 (i - 1) (by omega), Rat.mul_zero, Rat.mul_zero, Rat.add_zero]
 refine ⟨?_, fun i => by rw [← hPS]; exact hS la i, hz⟩
 rw [hM, ← ela, ← elb]
 congr 1
 have e1 : PS P (vals b) la = mulF x P := by funext t; exact hPS t
 rw [e1]
 symm
 have hz2 : ∀ i, la + lb - 1 ≤ i → mulF x P i = 0 := fun i hi => by
   by_cases hlb0 : lb = 0
   · rw [mulF, ← b0, ← b1, zB 0 (by omega), zB 1 (by omega)]
     split <;> simp [Rat.zero_mul, Rat.add_zero]
   · by_cases hlb1 : lb = 1
     · rw [mulF, ← b1, zB 1 (by omega), zA i (by omega)]
       split <;> simp [Rat.zero_mul, Rat.mul_zero, Rat.add_zero]
     · rw [mulF, zA i (by omega)]
       split
       · simp [Rat.mul_zero, Rat.add_zero]
       · rw [zA (i - 1) (by omega), Rat.mul_zero, Rat.mul_zero, Rat.add_zero]
 by_cases hle : la + lb - 1 ≤ n + 1
 · exact polL_ext hz2 hle
 · exact (polL_ext hz (by omega)).symm
def polF : List BA → Nat → Rat
 | [] => fun k => if k = 0 then 1 else 0
 | x :: L => mulF x (polF L)
theorem polF_out (L : List BA) : ∀ k, L.length + 1 ≤ k → polF L k = 0 := by
 induction L with
 | nil => intro k h; exact if_neg (by simp at h; omega)
 | cons x L ih =>
  intro k h
  simp only [List.length_cons] at h
  show mulF x (polF L) k = 0
  rw [mulF, ih k (by omega), if_neg (by omega), ih (k - 1) (by omega), Rat.mul_zero, Rat.mul_zero, Rat.add_zero]
theorem law16_awake_ok : dendronlaw16_awake = some true := by decide +kernel
theorem rsum_shift (f : Nat → Rat) (n : Nat) : rsum f (n + 1) = f 0 + rsum (fun i => f (i + 1)) n := by
 induction n with
 | zero => simp [rsum, Rat.add_zero, Rat.zero_add]
 | succ n ih => rw [rsum, ih, rsum, Rat.add_assoc]
theorem rsum_ext {f : Nat → Rat} {n m : Nat} (h : ∀ i, n ≤ i → f i = 0) (hm : n ≤ m) : rsum f m = rsum f n := by
 induction m with
 | zero => have : n = 0 := by omega
           subst this; rfl
 | succ m ih =>
  by_cases e : n = m + 1
  · rw [e]
  · rw [rsum, h m (by omega), ih (by omega), Rat.add_zero]
theorem EE_rsum (L : List BA) : ∀ c, EE L c = rsum (fun j => polF L j * c j) (L.length + 1) := by
 induction L with
 | nil => intro c; show c 0 = 0 + 1 * c 0; rw [Rat.one_mul, Rat.zero_add]
 | cons x L ih =>
  intro c
  have e1 : rsum (fun j => polF (x :: L) j * c j) ((x :: L).length + 1) = x.1 * rsum (fun j => polF L j * c j) (L.length + 1) + x.2 * rsum (fun j => polF L j * c (j + 1)) (L.length + 1) := by
   have a : ∀ j, polF (x :: L) j * c j = (polF L j * c j) * x.1 + (if j = 0 then 0 else polF L (j - 1) * c j) * x.2 := fun j => by
    show mulF x (polF L) j * c j = _
    rw [mulF]
    split <;> grind
   have b : rsum (fun j => polF (x :: L) j * c j) (L.length + 2) = rsum (fun j => (polF L j * c j) * x.1 + (if j = 0 then 0 else polF L (j - 1) * c j) * x.2) (L.length + 2) := rsum_congr fun j _ => a j
   show rsum _ (L.length + 2) = _
   rw [b, rsum_addF, rsum_mul, rsum_mul]
   have e2 : rsum (fun j => polF L j * c j) (L.length + 2) = rsum (fun j => polF L j * c j) (L.length + 1) := rsum_ext (fun j hj => by rw [polF_out L j hj, Rat.zero_mul]) (by omega)
   have e3 : rsum (fun j => if j = 0 then 0 else polF L (j - 1) * c j) (L.length + 2) = rsum (fun j => polF L j * c (j + 1)) (L.length + 1) := by
    rw [rsum_shift, if_pos rfl, Rat.zero_add]
    exact rsum_congr fun j _ => by rw [if_neg (by omega), Nat.add_sub_cancel]
   rw [e2, e3]; grind
  rw [e1, EE, ih, ih]
theorem EE_area (m : Nat) : ∀ k d, EE (List.replicate m ((1, -1) : BA)) (fun j => wq (j + k) (j + k + 1 + d)) = wq k (k + 1 + d + m) := by
 induction m with
 | zero => intro k d; show wq (0 + k) (0 + k + 1 + d) = _; rw [Nat.zero_add]; rfl
 | succ m ih =>
  intro k d
  rw [List.replicate_succ, EE]
  have e : EE (List.replicate m ((1, -1) : BA)) (fun j => wq (j + k) (j + k + 1 + (d + 1))) = EE (List.replicate m ((1, -1) : BA)) (fun j => wq (j + k) (j + k + 1 + d) + (-1) * wq (j + 1 + k) (j + 1 + k + 1 + d)) := EE_congr fun j _ => by
   have := wq_add (k := j + k) (n := j + k + 1 + d) (by omega)
   rw [show j + k + 1 + (d + 1) = j + k + 1 + d + 1 by omega, show j + 1 + k = j + k + 1 by omega, show j + k + 1 + 1 + d = j + k + 1 + d + 1 by omega]
   grind
  have := ih k (d + 1)
  rw [e, EE_add, EE_mul] at this
  rw [show k + 1 + d + (m + 1) = k + 1 + (d + 1) + m by omega, ← this]
  show 1 * _ + (-1) * _ = _
  rw [Rat.one_mul]
theorem wq_one (j : Nat) : wq j (j + 1) = 1 / ((j : Rat) + 1) := by
 have p : ((fac j : Nat) : Rat) ≠ 0 := by
  have := fac_pos j
  intro e
  have : (fac j : Nat) = 0 := by exact_mod_cast e
  omega
 have p2 : (j : Rat) + 1 ≠ 0 := by
  intro e
  have : ((j + 1 : Nat) : Rat) = 0 := by push_cast; exact e
  have : (j + 1 : Nat) = 0 := by exact_mod_cast this
  omega
 unfold wq quo
 rw [show j + 1 - j - 1 = 0 by omega, show fac 0 = 1 from rfl, fac]
 push_cast
 grind
theorem Pow_ok {m : Nat} (hm : m ≤ 12) : poly_Pow [canQ 1, canQ (((-1 : Int)) : Rat)] (m : Int) = some (polL (m + 1) (polF (List.replicate m (1, -1))), 0) ∧ ∀ t, SzQ (polF (List.replicate m (1, -1)) t) 20000 := by
 obtain ⟨s, hs⟩ : ∃ s : Nat → Nat, s = fun i => 2 ^ i * 4 - 3 := ⟨_, rfl⟩
 have hp : ∀ i, 1 ≤ 2 ^ i := fun i => Nat.one_le_two_pow
 have hs0 : s 0 = 1 := by rw [hs]
 have hs1 : ∀ i, s (i + 1) = 2 * s i + 2 * 1 + 1 := fun i => by
  rw [hs]
  show 2 ^ (i + 1) * 4 - 3 = 2 * (2 ^ i * 4 - 3) + 2 * 1 + 1
  have := hp i
  rw [Nat.pow_succ]; omega
 have hsl : ∀ i, i ≤ 12 → s i ≤ 20000 := fun i hi => by
  have : 2 ^ i ≤ 2 ^ 12 := Nat.pow_le_pow_right (by decide) hi
  rw [hs]
  show 2 ^ i * 4 - 3 ≤ _
  omega
 have hz1 : SzQ (((-1 : Int)) : Rat) 1 := SzQ.int (z := -1) (by decide)
 have hb : LSz [canQ 1, canQ (((-1 : Int)) : Rat)] 1 := ⟨by simp, fun x hx => by
  simp only [List.mem_cons, List.not_mem_nil, or_false] at hx
  rcases hx with rfl | rfl
  · exact SzQ.one.szR
  · exact hz1.szR⟩
 have b0 : vals [canQ 1, canQ (((-1 : Int)) : Rat)] 0 = ((1, -1) : BA).1 := rv_canQ 1
 have b1 : vals [canQ 1, canQ (((-1 : Int)) : Rat)] 1 = ((1, -1) : BA).2 := by
  show rv (canQ (((-1 : Int)) : Rat)) = -1
  rw [rv_canQ]; rfl
 have main : ∀ i, i ≤ 12 → ∀ t, SzQ (polF (List.replicate i (1, -1)) t) (s i) := by
  intro i
  induction i with
  | zero =>
    intro _ t
    rw [hs0]
    show SzQ (if t = 0 then 1 else 0) 1
    split
    · exact SzQ.one
    · exact SzQ.zero
  | succ i ih =>
    intro hi t
    have hsi := hsl i (by omega)
    have := (mul_lin (n := i + 1) (P := polF (List.replicate i (1, -1))) (x := (1, -1)) (by omega) (ih (by omega)) (fun t ht => polF_out _ _ (by rw [List.length_replicate]; exact ht)) hb (by
      cases i with
      | zero => omega
      | succ i => have := hs1 i; omega) (by decide) (by omega) (by decide) b0 b1 (by simp)).2.1 t
    rw [hs1, List.replicate_succ]
    exact this
 have key := lp_up (step := poly_Pow_s5) (fun i => (([canQ 1, canQ (((-1 : Int)) : Rat)], polL (i + 1) (polF (List.replicate i (1, -1))), (m : Int), (i : Int), ()), ())) m (r := ((polL (m + 1) (polF (List.replicate m (1, -1))), ()), ())) (by omega) (by
  intro g i hi
  have hsi := hsl i (by omega)
  have hmul := (mul_lin (n := i + 1) (P := polF (List.replicate i (1, -1))) (x := (1, -1)) (by omega) (main i (by omega)) (fun t ht => polF_out _ _ (by rw [List.length_replicate]; exact ht)) hb (by
      cases i with
      | zero => omega
      | succ i => have := hs1 i; omega) (by decide) (by omega) (by decide) b0 b1 (by simp)).1
  rw [poly_Pow_s5, cnd (by omega), hmul, Option.bind_some, iadd1 (by omega), List.replicate_succ]
  rfl) (by
  intro g
  rw [poly_Pow_s5, cnd' (by omega)])
 have e0 : polL (0 + 1) (polF (List.replicate 0 (1, -1))) = [canQ 1] := by
  have : topN (polF (List.replicate 0 (1, -1))) 1 = 1 := topN_full (n := 0) (by show (if 0 = 0 then (1 : Rat) else 0) ≠ 0; decide)
  rw [polL, this]; rfl
 rw [e0] at key
 have key : lp poly_Pow_s5 K0 (([canQ 1, canQ (((-1 : Int)) : Rat)], [canQ 1], (m : Int), 0, ()), ()) = _ := key
 refine ⟨?_, fun t => (main m hm t).mono (hsl m hm)⟩
 rw [poly_Pow, cnd' (by omega), cnd' (by omega), ratio_One_ok, Option.bind_some, key]; rfl
theorem Area_ok {p : List RAT} {k : Nat} (hp : LSz p k) (hk : 0 < k) (hk2 : k < 1000000) (hl : p.length ≤ 900) :
  poly_Area p = some (polL (p.length + 1) fun t => if t = 0 then 0 else vals p (t - 1) * wq (t - 1) t) ∧ ∀ t, t ≤ 1000 → SzQ (if t = 0 then 0 else vals p (t - 1) * wq (t - 1) t) (k + 2) := by
 obtain ⟨A, hA⟩ : ∃ A : Nat → Rat, A = fun t => if t = 0 then 0 else vals p (t - 1) * wq (t - 1) t := ⟨_, rfl⟩
 have hw : ∀ i, wq i (i + 1) = ((1 : Int) : Rat) / (((i + 1 : Nat) : Int) : Rat) := fun i => by
  rw [wq_one]
  congr 1
  push_cast
  rfl
 have hwz : ∀ i, i ≤ 1000 → SzQ (wq i (i + 1)) 2 := fun i hi => by rw [hw]; exact (SzQ.int (z := 1) (by decide)).div (SzQ.int (by omega))
 have hAz : ∀ t, t ≤ 1000 → SzQ (A t) (k + 2) := fun t ht => by
  rw [hA]
  show SzQ (if t = 0 then 0 else vals p (t - 1) * wq (t - 1) t) (k + 2)
  split
  · exact SzQ.zero.mono (by omega)
  · have h1 := hwz (t - 1) (by omega)
    rw [show t - 1 + 1 = t by omega] at h1
    exact (hp.vals hk).mul h1
 have key := lp_up (step := poly_Area_s3) (fun i => ((flo (i + 1) A, p, (p.length : Int), (i : Int), ()), ())) p.length (r := ((flo (p.length + 1) A, ()), ())) (by omega) (by
  intro g i hi
  have hF : ratio_Frac 1 (iadd .i64 (i : Int) 1) = some (canQ (wq i (i + 1))) := by
    rw [show iadd .i64 (i : Int) 1 = ((i + 1 : Nat) : Int) from iadd1 (by omega), hw]
    exact ratio_Frac_ok (by decide) (by decide) (by omega) (by omega)
  have hm := ratio_Mul_ok ((hp.2 _ (List.getElem_mem hi)).sm (by omega)) ((hwz i (by omega)).sm (by decide))
  rw [rv_canQ, ← vals_get hi] at hm
  rw [poly_Area_s3, cnd (by omega), cnd (by omega), Int.toNat_natCast, List.getElem?_eq_getElem hi, Option.bind_some, hF, Option.bind_some, hm, Option.bind_some, blt (by rw [flo_len]; omega), cond_true, iadd1 (by omega)]
  have : flo (i + 1 + 1) A = flo (i + 1) A ++ [canQ (vals p i * wq i (i + 1))] := by
    rw [hA]; simp [flo, List.range_succ]
  rw [this]; rfl) (by
  intro g
  rw [poly_Area_s3, cnd' (by omega)])
 have e0 : flo (0 + 1) A = [canQ 0] := by rw [hA]; rfl
 rw [e0] at key
 have key : lp poly_Area_s3 K0 (([canQ 0], p, (p.length : Int), 0, ()), ()) = _ := key
 refine ⟨?_, fun t ht => by have := hAz t ht; rw [hA] at this; exact this⟩
 rw [poly_Area, ratio_Zero_ok, Option.bind_some, key, Option.bind_some]
 dsimp only
 rw [ptrim_ok (by omega) (fun t ht => (hAz t (by omega)).mono (by omega)), Option.bind_some, hA]
theorem Eval_ok {p : List RAT} {q : Rat} {h : Nat → Rat} {k j s : Nat} (hp : LSz p k) (hk2 : k < 1000000000) (hq : SzQ q j) (hj : j < 1000000) (hs : s < 100000000) (h0 : h p.length = 0) (h1 : ∀ i, i < p.length → h i = h (i + 1) * q + vals p i) (hz : ∀ i, i ≤ p.length → SzQ (h i) s) :
  poly_Eval p (canQ q) = some (canQ (h 0)) := by
 obtain ⟨n, hn⟩ : ∃ n, n = p.length := ⟨_, rfl⟩
 rw [← hn] at h0 h1 hz
 have hl := hp.1
 have key := lp_up (step := poly_Eval_s3) (fun i => ((p, (n : Int) - 1 - (i : Int), ()), (((canQ q).1.1, (canQ q).1.2, (canQ q).2, ()), (false, [], [], ()), ((canQ (h (n - i))).1.1, (canQ (h (n - i))).1.2, (canQ (h (n - i))).2, ()), ()))) n (r := ((), ((false, [], [], ()), ((canQ (h 0)).1.1, (canQ (h 0)).1.2, (canQ (h 0)).2, ()), ()))) (by omega) (by
  intro g i hi
  obtain ⟨m, hm⟩ : ∃ m, n - i = m + 1 := ⟨n - i - 1, by omega⟩
  have e1 : (n : Int) - 1 - (i : Int) = (m : Int) := by omega
  have e2 : n - (i + 1) = m := by omega
  have e3 : (n : Int) - 1 - ((i + 1 : Nat) : Int) = (m : Int) - 1 := by omega
  have hml : m < p.length := by omega
  rw [hm, e1, e2, e3]
  have m1 := ratio_Mul_ok ((hz (m + 1) (by omega)).sm (by omega)) (hq.sm (by omega))
  rw [rv_canQ, rv_canQ] at m1
  have m2 := ratio_Add_ok (((hz (m + 1) (by omega)).mul hq).sm (by omega)) ((hp.2 _ (List.getElem_mem hml)).sm (by omega))
  rw [rv_canQ, ← vals_get hml, ← h1 m (by omega)] at m2
  rw [poly_Eval_s3, cnd (by omega)]
  show (ratio_Mul (canQ (h (m + 1))) (canQ q)).bind _ = _
  rw [m1, Option.bind_some, cnd (by omega), Int.toNat_natCast, List.getElem?_eq_getElem hml, Option.bind_some, m2, Option.bind_some, isub_i (by omega) (by omega)]) (by
  intro g
  rw [Nat.sub_self, show (n : Int) - 1 - (n : Int) = -1 by omega, poly_Eval_s3, cnd' (by omega)])
 rw [Nat.sub_zero, h0, show (n : Int) - 1 - ((0 : Nat) : Int) = (n : Int) - 1 by omega] at key
 have i1 : isub .i64 (n : Int) 1 = (n : Int) - 1 := isub_i (by omega) (by omega)
 rw [poly_Eval, ratio_Zero_ok, Option.bind_some, ← hn, i1, key]; rfl
theorem Between_ok {p : List RAT} {k : Nat} (hp : LSz p k) (hk : 0 < k) (hk2 : k < 1000000) (hl : p.length ≤ 20) : poly_Between p (canQ 0) (canQ 1) = some (canQ (rsum (fun t => vals p t * wq t (t + 1)) p.length)) := by
 obtain ⟨a1, a2⟩ := Area_ok hp hk hk2 (by omega)
 obtain ⟨A, hA⟩ : ∃ A : Nat → Rat, A = fun t => if t = 0 then 0 else vals p (t - 1) * wq (t - 1) t := ⟨_, rfl⟩
 rw [← hA] at a1
 have a2 : ∀ t, t ≤ 1000 → SzQ (A t) (k + 2) := fun t ht => by rw [hA]; exact a2 t ht
 have Ao : ∀ t, p.length + 1 ≤ t → A t = 0 := fun t ht => by
  rw [hA]
  show (if t = 0 then 0 else vals p (t - 1) * wq (t - 1) t) = 0
  rw [if_neg (by omega), vals_out (by omega), Rat.zero_mul]
 have hv : ∀ t, vals (polL (p.length + 1) A) t = A t := fun t => vals_polL_out Ao
 obtain ⟨a, ha⟩ : ∃ a, a = polL (p.length + 1) A := ⟨_, rfl⟩
 have haL : LSz a (k + 2) := ha ▸ LSz.polL (by omega) fun i hi => a2 i (by omega)
 rw [← ha] at a1 hv
 have hal : a.length ≤ p.length + 1 := by rw [ha, polL_len]; exact topN_le _ _
 have rz : ∀ i, i ≤ 21 → SzQ (rsum (vals a) i) 30000000 := fun i hi =>
  (rsum_sz (f := vals a) (k := k + 2) (n := i) (fun j _ => haL.vals (by omega))).mono (by have := Nat.mul_le_mul hi (show k + 2 + 1 ≤ 1000003 by omega); omega)
 have E1 := Eval_ok (q := 1) (h := fun i => rsum (vals a) a.length - rsum (vals a) i) (j := 1) (s := 70000000) haL (by omega) SzQ.one (by decide) (by decide) (Rat.sub_self) (fun i hi => by
  show _ = (_ - rsum (vals a) (i + 1)) * 1 + _
  rw [rsum]; grind) (fun i hi => ((rz a.length (by omega)).sub (rz i (by omega))).mono (by decide))
 have E0 := Eval_ok (q := 0) (h := vals a) (j := 1) (s := k + 2) haL (by omega) SzQ.zero (by decide) (by omega) (vals_out (Nat.le_refl _)) (fun i hi => by rw [Rat.mul_zero, Rat.zero_add]) (fun i hi => haL.vals (by omega))
 have e0 : rsum (vals a) a.length - rsum (vals a) 0 = rsum (fun t => vals p t * wq t (t + 1)) p.length := by
  have h1 : rsum (vals a) a.length = rsum (vals a) (p.length + 1) := (rsum_ext (fun i hi => vals_out hi) hal).symm
  have h2 : rsum (vals a) (p.length + 1) = rsum A (p.length + 1) := rsum_congr fun i _ => hv i
  have h3 : A 0 = 0 := by rw [hA]; exact if_pos rfl
  rw [h1, h2, rsum_shift, h3, Rat.zero_add]
  show rsum (fun i => A (i + 1)) p.length - 0 = _
  rw [Rat.sub_eq_add_neg, Rat.neg_zero, Rat.add_zero]
  exact rsum_congr fun i _ => by rw [hA]; exact if_neg (by omega)
 have v0 : vals a 0 = 0 := by rw [hv, hA]; exact if_pos rfl
 simp only [e0] at E1
 rw [v0] at E0
 have zz := (rz a.length (by omega)).sub (rz 0 (by omega))
 rw [e0] at zz
 have S := ratio_Sub_ok (zz.sm (by decide)) (SzQ.zero.sm (by decide))
 rw [rv_canQ, rv_canQ] at S
 rw [poly_Between, a1, Option.bind_some, E1, Option.bind_some, E0, Option.bind_some, S, Option.bind_some, Rat.sub_eq_add_neg, Rat.neg_zero, Rat.add_zero]
theorem All16_ok {d st sm : Int} {f : List WH} (hT : Tab d st sm f) {n : Nat} (h1 : 1 ≤ n) (h64 : n ≤ 64) : ∃ d' st' sm' f', weigh_Table_All (n : Int) d st sm f = some (flo n fun k => wq k n, 0, d', st', sm', f') := by
 obtain ⟨r, ⟨d', st', sm', f', hr⟩, e⟩ := lp_inv (step := weigh_Table_All_s7)
  (fun i v => ∃ d st sm f, v = (((n : Int), flo i (fun k => wq k n), (n : Int), (i : Int), ()), ((d, st, sm, f, ()), ())) ∧ Tab d st sm f)
  (fun r => ∃ d' st' sm' f', r = ((flo n (fun k => wq k n), ()), ((d', st', sm', f', ()), ()))) n
  (v := (((n : Int), [], (n : Int), 0, ()), ((d, st, sm, f, ()), ()))) ⟨d, st, sm, f, rfl, hT⟩ (by omega) (by
  rintro i v hi ⟨d, st, sm, f, rfl, hT⟩
  refine ⟨_, ⟨1, 0, sm, facts, rfl, tab1 sm⟩, fun g => ?_⟩
  rw [weigh_Table_All_s7, cnd (by omega), Weight_ok hT hi h64, Option.bind_some]
  dsimp only
  rw [blt (by rw [flo_len]; omega), cond_true, iadd1 (by omega)]
  have : flo (i + 1) (fun k => wq k n) = flo i (fun k => wq k n) ++ [canQ (wq i n)] := by simp [flo, List.range_succ]
  rw [this]; rfl) (by
  rintro v ⟨d, st, sm, f, rfl, hT⟩
  exact ⟨_, ⟨d, st, sm, f, rfl⟩, fun g => by rw [weigh_Table_All_s7, cnd' (by omega)]⟩)
 refine ⟨d', st', sm', f', ?_⟩
 rw [weigh_Table_All, cnd' (by omega), cnd' (by omega), e, hr]; rfl
theorem Weigh_ok {p : List RAT} {n k : Nat} (hp : LSz p k) (hk : 0 < k) (hk2 : k < 1000000) (h1 : 1 ≤ n) (h64 : n ≤ 64) :
   linear_Weigh p (n : Int) = some (if p.length ≤ n then (canQ (rsum (fun j => wq j n * vals p j) p.length), 0) else (((false, []), []), 6)) := by
 obtain ⟨d, st, sm, f, hN, hT⟩ := New_ok
 obtain ⟨d', st', sm', f', hA⟩ := All16_ok hT h1 h64
 rw [linear_Weigh, hN, Option.bind_some]
 dsimp only
 rw [hA, Option.bind_some]
 dsimp only
 rw [show (!decide ((0 : Int) = 0)) = false by decide, cond_false]
 by_cases hl : p.length ≤ n
 · obtain ⟨s, hs⟩ : ∃ s : Nat → Rat, s = rsum (fun j => wq j n * vals p j) := ⟨_, rfl⟩
   have tz : ∀ j, j < p.length → SzQ (wq j n * vals p j) (30 + k) := fun j hj => (wq_sz (by omega) h64).mul (hp.vals hk)
   have sz : ∀ i, i ≤ p.length → SzQ (s i) 70000000 := fun i hi => by
    rw [hs]
    exact (rsum_sz (fun j hj => tz j (by omega))).mono (by have := Nat.mul_le_mul (show i ≤ 64 by omega) (show 30 + k + 1 ≤ 1000031 by omega); omega)
   have key := lp_up (step := linear_Weigh_s8) (fun i => ((flo n (fun k => wq k n), p, (p.length : Int), (i : Int), ()), ((false, [], [], ()), ((canQ (s i)).1.1, (canQ (s i)).1.2, (canQ (s i)).2, ()), ()))) p.length (r := ((), ((false, [], [], ()), ((canQ (s p.length)).1.1, (canQ (s p.length)).1.2, (canQ (s p.length)).2, ()), ()))) (by omega) (by
    intro g i hi
    have hin : i < n := by omega
    have hx := hp.2 _ (List.getElem_mem hi)
    have m1 := ratio_Mul_ok ((wq_sz hin h64).sm (by decide)) (hx.sm (by omega))
    rw [rv_canQ, ← vals_get hi] at m1
    have m2 := ratio_Add_ok ((sz i (by omega)).sm (by decide)) ((tz i hi).sm (by omega))
    rw [rv_canQ, rv_canQ] at m2
    have e : s i + wq i n * vals p i = s (i + 1) := by rw [hs]; rfl
    rw [linear_Weigh_s8, cnd (by omega), cnd (by omega), Int.toNat_natCast, List.getElem?_eq_getElem hi, Option.bind_some, cnd2 (by omega) (by rw [flo_len]; omega), flo_get _ hin, Option.bind_some, m1, Option.bind_some]
    show (ratio_Add (canQ (s i)) _).bind _ = _
    rw [m2, e, Option.bind_some, iadd1 (by omega)]; rfl) (by
    intro g
    rw [linear_Weigh_s8, cnd' (by omega)])
   have s0 : s 0 = 0 := by rw [hs]; rfl
   rw [s0] at key
   have key : lp linear_Weigh_s8 K0 ((flo n (fun k => wq k n), p, (p.length : Int), 0, ()), ((false, [], [], ()), ((canQ 0).1.1, (canQ 0).1.2, (canQ 0).2, ()), ())) = _ := key
   rw [cnd' (by omega), ratio_Zero_ok, Option.bind_some, key, if_pos hl, hs]; rfl
 · rw [cnd (by omega), if_neg hl]
def termQ (k m t : Nat) : Rat := if t < k then 0 else polF (List.replicate m (1, -1)) (t - k)
theorem term_area {k m N : Nat} (h : k + m + 1 ≤ N) : rsum (fun t => termQ k m t * wq t (t + 1)) N = wq k (k + m + 1) := by
 have e := rsum_split (fun t => termQ k m t * wq t (t + 1)) k (N - k)
 rw [show k + (N - k) = N by omega] at e
 rw [e]
 have e1 : rsum (fun t => termQ k m t * wq t (t + 1)) k = 0 := rsum_zeros fun t ht => by rw [termQ, if_pos ht, Rat.zero_mul]
 have e2 : rsum (fun i => termQ k m (i + k) * wq (i + k) (i + k + 1)) (N - k) = rsum (fun j => polF (List.replicate m (1, -1)) j * wq (j + k) (j + k + 1)) (m + 1) := by
  have : rsum (fun i => termQ k m (i + k) * wq (i + k) (i + k + 1)) (N - k) = rsum (fun j => polF (List.replicate m (1, -1)) j * wq (j + k) (j + k + 1)) (N - k) := rsum_congr fun i _ => by rw [termQ, if_neg (by omega), Nat.add_sub_cancel]
  rw [this]
  exact rsum_ext (fun j hj => by rw [polF_out _ _ (by rw [List.length_replicate]; exact hj), Rat.zero_mul]) (by omega)
 have e3 := EE_rsum (List.replicate m ((1, -1) : BA)) fun j => wq (j + k) (j + k + 1 + 0)
 have e4 := EE_area m k 0
 rw [List.length_replicate] at e3
 rw [e1, e2, Rat.zero_add]
 rw [e3] at e4
 simp only [Nat.add_zero] at e4
 rw [e4]
 congr 1; omega
theorem rsum_comm (f : Nat → Nat → Rat) (n m : Nat) : rsum (fun i => rsum (fun j => f i j) m) n = rsum (fun j => rsum (fun i => f i j) n) m := by
 induction n with
 | zero => exact (rsum_zeros fun j _ => rfl).symm
 | succ n ih => rw [rsum, ih, ← rsum_addF]; rfl
theorem ByArea_ok {p : List RAT} {n : Nat} (hp : LSz p 3) (h1 : 1 ≤ n) (h12 : n ≤ 12) :
   linear_ByArea p (n : Int) = some (if p.length ≤ n then (canQ (rsum (fun j => wq j n * vals p j) p.length), 0) else (((false, []), []), 6)) := by
 rw [linear_ByArea, cnd' (by omega), cnd' (by omega)]
 by_cases hl : p.length ≤ n
 · have hof := ratio_Of_ok (n := -1) (by decide) (by decide)
   obtain ⟨C, hC⟩ : ∃ C : Nat → Nat → Rat, C = fun i t => rsum (fun k => termQ k (n - 1 - k) t * vals p k) i := ⟨_, rfl⟩
   have tz : ∀ k, k < p.length → ∀ t, SzQ (termQ k (n - 1 - k) t) 20000 := fun k hk t => by
    unfold termQ
    split
    · exact SzQ.zero.mono (by decide)
    · exact (Pow_ok (m := n - 1 - k) (by omega)).2 _
   have cz : ∀ i, i ≤ p.length → ∀ t, SzQ (C i t) 300000 := fun i hi t => by
    rw [hC]
    exact (rsum_sz (f := fun k => termQ k (n - 1 - k) t * vals p k) (k := 20003) (n := i) (fun j hj => ((tz j (by omega) t).mul (hp.vals (by decide))).mono (by decide))).mono (by have := Nat.mul_le_mul_right 20004 (show i ≤ 12 by omega); omega)
   obtain ⟨r, ⟨L, hr, l1, l2, l3⟩, e⟩ := lp_inv (step := linear_ByArea_s8)
    (fun i v => ∃ L : List RAT, v = (((n : Int), L, [canQ 1, canQ (((-1 : Int)) : Rat)], p, (p.length : Int), (i : Int), ()), ((false, [], [], ()), ())) ∧ L.length ≤ 12 ∧ LSz L 300000 ∧ ∀ t, vals L t = C i t)
    (fun r => ∃ L : List RAT, r = ((L, ()), ((false, [], [], ()), ())) ∧ L.length ≤ 12 ∧ LSz L 300000 ∧ ∀ t, vals L t = C p.length t) p.length
    (v := (((n : Int), [], [canQ 1, canQ (((-1 : Int)) : Rat)], p, (p.length : Int), 0, ()), ((false, [], [], ()), ())))
    ⟨[], rfl, by simp, ⟨by simp, by simp⟩, fun t => by rw [vals_out (by simp), hC]; rfl⟩ (by omega) (by
    rintro i v hi ⟨L, rfl, l1, l2, l3⟩
    obtain ⟨m, hm⟩ : ∃ m, m = n - 1 - i := ⟨_, rfl⟩
    have i0 : isub .i64 (n : Int) 1 = (n : Int) - 1 := isub_i (by omega) (by omega)
    have i1 : isub .i64 (isub .i64 (n : Int) 1) (i : Int) = (m : Int) := by rw [i0, isub_i (by omega) (by omega)]; omega
    obtain ⟨q1, q2⟩ := Pow_ok (m := m) (by omega)
    obtain ⟨T, hT⟩ : ∃ T, T = List.replicate i raw0 ++ polL (m + 1) (polF (List.replicate m (1, -1))) := ⟨_, rfl⟩
    have pl := polL_len (m + 1) (polF (List.replicate m (1, -1)))
    have ptop := topN_le (polF (List.replicate m (1, -1))) (m + 1)
    have hTl : T.length ≤ 12 := by rw [hT, List.length_append, List.length_replicate, pl]; omega
    have hTz : LSz T 20000 := by
      refine ⟨by omega, fun x hx => ?_⟩
      rw [hT] at hx
      rcases List.mem_append.1 hx with hx | hx
      · rw [List.mem_replicate] at hx; rw [hx.2]; exact ⟨by decide, by decide⟩
      · obtain ⟨j, _, rfl⟩ := List.mem_map.1 hx; exact (q2 j).szR
    have hTv : ∀ t, vals T t = termQ i m t := fun t => by
      unfold termQ
      by_cases ht : t < i
      · rw [if_pos ht]
        unfold vals
        rw [hT, List.getElem?_append_left (by simpa using ht), List.getElem?_replicate, if_pos ht]
        exact rv_raw0
      · rw [if_neg ht]
        have h1 : vals T t = vals (polL (m + 1) (polF (List.replicate m (1, -1)))) (t - i) := by
         unfold vals
         rw [hT, List.getElem?_append_right (by simp; omega), List.length_replicate]
        rw [h1]
        exact vals_polL_out fun k hk => polF_out _ _ (by rw [List.length_replicate]; exact hk)
    have hx := hp.2 _ (List.getElem_mem hi)
    have hS := poly_Scale_ok hTz hx (by decide) (by decide) (by decide)
    have hxz : SzQ (rv p[i]) 3 := hx.szQ (by decide)
    have hSv : ∀ t, vals (polL T.length fun t => vals T t * rv p[i]) t = termQ i m t * vals p i := fun t => by
      rw [vals_polL_out (fun k hk => by rw [vals_out hk, Rat.zero_mul]), hTv, vals_get hi]
    have hSz : LSz (polL T.length fun t => vals T t * rv p[i]) 20003 := LSz.polL (by omega) fun j _ => ((hTz.vals (by decide)).mul hxz).mono (by decide)
    have hSl : (polL T.length fun t => vals T t * rv p[i]).length ≤ 12 := by rw [polL_len]; exact Nat.le_trans (topN_le _ _) hTl
    have hA := poly_Add_ok l2 hSz (by decide) (by decide) (by decide)
    have en : ∀ t, C (i + 1) t = C i t + termQ i m t * vals p i := fun t => by rw [hC, hm]; rfl
    obtain ⟨S, eS⟩ : ∃ S, S = (polL T.length fun t => vals T t * rv p[i]) := ⟨_, rfl⟩
    rw [← eS] at hS hSv hSz hSl hA
    have hv : ∀ t, vals (polL (max L.length S.length) fun t => vals L t + vals S t) t = C (i + 1) t := fun t => by
      rw [vals_polL_out (fun k hk => by rw [vals_out (by omega), vals_out (by omega), Rat.add_zero]), l3, hSv, en]
    refine ⟨_, ⟨polL (max L.length S.length) fun t => vals L t + vals S t, rfl, by rw [polL_len]; exact Nat.le_trans (topN_le _ _) (by omega), LSz.polL (by omega) fun t _ => by
      have := cz (i + 1) (by omega) t
      rw [en, ← l3, ← hSv] at this; exact this, hv⟩, fun g => ?_⟩
    have c1 : (decide ((i : Int) = (i : Int)) && decide (0 ≤ (i : Int)) && decide (((56 : Nat) : Int) * (i : Int) ≤ 281474976710656) && decide ((i : Int) ≤ 9223372036854775807)) = true := by
      rw [decide_eq_true rfl, decide_eq_true (by omega), decide_eq_true (by omega), decide_eq_true (by omega)]; rfl
    have hT' : (List.replicate i (((false, []), []) : RAT)) ++ polL (m + 1) (polF (List.replicate m (1, -1))) = T := hT.symm
    rw [linear_ByArea_s8, cnd (by omega), cnd (by omega), Int.toNat_natCast, List.getElem?_eq_getElem hi, Option.bind_some, i1, q1, Option.bind_some, c1, cond_true]
    dsimp only
    rw [blt (by rw [List.length_replicate, pl]; omega), cond_true, hT', hS, Option.bind_some, hA, Option.bind_some, iadd1 (by omega)]
    rfl) (by
    rintro v ⟨L, rfl, l1, l2, l3⟩
    exact ⟨_, ⟨L, rfl, l1, l2, l3⟩, fun g => by rw [linear_ByArea_s8, cnd' (by omega)]⟩)
   have hB := Between_ok l2 (by decide) (by decide) (by omega)
   have hres : rsum (fun t => vals L t * wq t (t + 1)) L.length = rsum (fun j => wq j n * vals p j) p.length := by
    have a1 : rsum (fun t => vals L t * wq t (t + 1)) L.length = rsum (fun t => vals L t * wq t (t + 1)) 12 := (rsum_ext (fun t ht => by rw [vals_out ht, Rat.zero_mul]) l1).symm
    have a2 : rsum (fun t => vals L t * wq t (t + 1)) 12 = rsum (fun t => rsum (fun k => termQ k (n - 1 - k) t * wq t (t + 1) * vals p k) p.length) 12 := rsum_congr fun t _ => by
      rw [l3, hC, ← rsum_mul]
      exact rsum_congr fun k _ => by grind
    rw [a1, a2, rsum_comm]
    refine rsum_congr fun k hk => ?_
    rw [rsum_mul, term_area (N := 12) (by omega), show k + (n - 1 - k) + 1 = n by omega]
   rw [hres] at hB
   rw [cnd' (by omega), ratio_One_ok, Option.bind_some, hof, Option.bind_some, e, hr, Option.bind_some, ratio_Zero_ok, Option.bind_some, Option.bind_some]
   dsimp only
   rw [hB, if_pos hl]; rfl
 · rw [cnd (by omega), if_neg hl]
theorem few16_ok (p : List RAT) (hl : p.length ≤ 9223372036854775807) : dendronlaw16_few p = some ((p.take 8).map (cutR 3)) := by
 have key := lp_up (step := dendronlaw16_few_s3) (fun i => ((p, (p.take i).map (cutR 3), (i : Int), ()), ())) (min p.length 8) (r := (((p.take 8).map (cutR 3), ()), ())) (by omega) (by
  intro g i hi
  have hi1 : i < p.length := by omega
  have hF := Few09_ok [(false, p[i])] 1 (by simp) (by decide)
  have hF : dendronlaw09_Few ([(false, p[i])] : List CELL) 1 = some [(false, cutR 3 p[i])] := hF
  rw [dendronlaw16_few_s3, cnd (by omega), cnd (by omega), cnd (by omega), Int.toNat_natCast, List.getElem?_eq_getElem hi1, Option.bind_some, hF, Option.bind_some, cnd (by simp)]
  show (bif _ then _ else none) = _
  rw [blt (by simp; omega), cond_true, iadd1 (by omega), List.take_succ_eq_append_getElem hi1, List.map_append]
  rfl) (by
  intro g
  by_cases h : p.length ≤ 8
  · rw [Nat.min_eq_left h, dendronlaw16_few_s3, cnd' (by omega), List.take_of_length_le (Nat.le_refl _), List.take_of_length_le h]
  · rw [Nat.min_eq_right (by omega), dendronlaw16_few_s3, cnd (by omega), cnd' (by omega)])
 have key : lp dendronlaw16_few_s3 K0 ((p, [], 0, ()), ()) = _ := key
 rw [dendronlaw16_few, key]; rfl
theorem LinearAreas_true (p0 : List RAT) (n : Int) (hl : p0.length ≤ 9223372036854775807) : dendronlaw16_LinearAreas p0 n = some true := by
 have hz : LSz ((p0.take 8).map (cutR 3)) 3 := ⟨by simp; omega, fun x hx => by obtain ⟨y, _, rfl⟩ := List.mem_map.1 hx; exact cutR_sz 3 y⟩
 obtain ⟨p, ep⟩ : ∃ p, p = (p0.take 8).map (cutR 3) := ⟨_, rfl⟩
 rw [← ep] at hz
 rw [dendronlaw16_LinearAreas, few16_ok p0 hl, Option.bind_some, ← ep]
 obtain ⟨d, st, sm, f, hN, hT⟩ := New_ok
 have bad : (n < 1 ∨ n > 64) → linear_ByArea p n = some (((false, []), []), 8) ∧ linear_Weigh p n = some (((false, []), []), 8) := fun h => by
   rcases h with h | h
   · exact ⟨by rw [linear_ByArea, cnd h], by rw [linear_Weigh, hN, Option.bind_some, weigh_Table_All, cnd h]; rfl⟩
   · exact ⟨by rw [linear_ByArea, cnd' (by omega), cnd h], by rw [linear_Weigh, hN, Option.bind_some, weigh_Table_All, cnd' (by omega), cnd h]; rfl⟩
 by_cases h12 : n > 12
 · rw [cnd h12]
   by_cases h64 : n ≤ 64
   · rw [cnd h64, law16_awake_ok]; rfl
   · obtain ⟨b1, b2⟩ := bad (.inr (by omega))
     rw [cnd' h64, b1, Option.bind_some, b2, Option.bind_some]
     dsimp only
     rw [decide_eq_true rfl, Bool.not_true, cond_false, decide_eq_false (show ¬ (8 : Int) = 0 by decide), Bool.not_false, cond_true, cnd (by simp), law16_awake_ok]
     rfl
 · rw [cnd' h12]
   by_cases h1 : n < 1
   · obtain ⟨b1, b2⟩ := bad (.inl h1)
     rw [b1, Option.bind_some, b2, Option.bind_some]
     dsimp only
     rw [decide_eq_true rfl, Bool.not_true, cond_false, decide_eq_false (show ¬ (8 : Int) = 0 by decide), Bool.not_false, cond_true, cnd (by simp), law16_awake_ok]
     rfl
   · obtain ⟨k, rfl⟩ := Int.eq_ofNat_of_zero_le (show 0 ≤ n by omega)
     have hA := ByArea_ok hz (n := k) (by omega) (by omega)
     have hW := Weigh_ok hz (n := k) (by decide) (by decide) (by omega) (by omega)
     rw [hA, Option.bind_some, hW, Option.bind_some]
     by_cases hl : p.length ≤ k
     · rw [if_pos hl]
       dsimp only
       have hsz : SzQ (rsum (fun j => wq j k * vals p j) p.length) 3000 := (rsum_sz (f := fun j => wq j k * vals p j) (k := 33) (n := p.length) (fun j hj => (wq_sz (by omega) (by omega)).mul (hz.vals (by decide)))).mono (by omega)
       rw [decide_eq_true rfl, Bool.not_true, cond_false, cond_false, is_self hsz (by decide) hsz (by decide) rfl, Option.bind_some, law16_awake_ok]
       rfl
     · rw [if_neg hl]
       dsimp only
       rw [decide_eq_true rfl, Bool.not_true, cond_false, decide_eq_false (show ¬ (6 : Int) = 0 by decide), Bool.not_false, cond_true, cnd (by simp), law16_awake_ok]
       rfl
end Go.Proofs.YtaonkcmflkmncaaGreatDoor.X
