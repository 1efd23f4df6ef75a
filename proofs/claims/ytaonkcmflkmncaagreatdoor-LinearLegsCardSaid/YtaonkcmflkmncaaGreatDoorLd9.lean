/- Own work: part of the proof; the first line of each part says what it tells. -/
import Derived.Test.YtaonkcmflkmncaaGreatDoorLd8


namespace Go.Proofs.YtaonkcmflkmncaaGreatDoor.X
open Go
set_option linter.unusedVariables false
set_option linter.unusedSimpArgs false
theorem polF_low (L : List BA) : polF L 0 = lprod (L.map (·.1)) := by
 induction L with
 | nil => rfl
 | cons x L ih =>
  show mulF x (polF L) 0 = _
  rw [mulF, if_pos rfl, ih, Rat.add_zero]; rfl
theorem polF_high (L : List BA) : polF L L.length = lprod (L.map (·.2)) := by
 induction L with
 | nil => rfl
 | cons x L ih =>
  show mulF x (polF L) (L.length + 1) = _
  rw [mulF, if_neg (by omega), polF_out L _ (Nat.le_refl _), Nat.add_sub_cancel, ih, Rat.mul_zero, Rat.zero_add]; rfl
theorem lfac_low (w : List AP) : polF (lfac (encW w)) 0 = reachA 0 w := by
 rw [polF_low, lfac, reachA, lprod_perm ((List.reverse_perm _).map _), encW, List.map_map, List.map_map]
 congr 1
 refine List.map_congr_left fun p _ => ?_
 show rv (canQ p.2.1) = facP 0 p
 rw [rv_canQ, facP, Nat.zero_testBit, if_neg (by decide)]
def FULL : Nat := 18446744073709551615
theorem full_bit {f : Nat} (h : f < 64) : FULL.testBit f = true := by
 have : FULL = 2 ^ 64 - 1 := by decide
 rw [this, Nat.testBit_two_pow_sub_one]; simpa using h
theorem lfac_high {w : List AP} (h : ∀ p ∈ w, p.1 < 64) : polF (lfac (encW w)) w.length = reachA FULL w := by
 have e : w.length = (lfac (encW w)).length := by rw [lfac_len, encW_len]
 rw [e, polF_high, lfac, reachA, lprod_perm ((List.reverse_perm _).map _), encW, List.map_map, List.map_map]
 congr 1
 refine List.map_congr_left fun p hp => ?_
 show one0 p.2.2 = facP FULL p
 rw [facP, full_bit (h p hp), if_pos rfl]; rfl
theorem LinearLegs_true (t0 : List NODE) (row0 : List CELL) (hl : t0.length ≤ 9223372036854775807) (hr : row0.length ≤ 9223372036854775807) : dendronlaw16_LinearLegs t0 row0 = some true := by
 have hf := Few07_ok ((row0.length : Int), [t0]) (by simp) (by intro u hu; simp at hu; subst hu; exact hl)
 have ht := cutTree_len t0
 have hs := cutTree_sz t0
 obtain ⟨t, et⟩ : ∃ t, t = cutTree t0 := ⟨_, rfl⟩
 have hf' : dendronlaw07_Few ((row0.length : Int), [t0]) = some ((cutM ((row0.length : Int), [t0])).1, [t]) := by rw [hf, et]; rfl
 rw [← et] at ht hs
 have h9 := Few09_ok row0 70 hr (by decide)
 have hc := cutRow_sz (row0.take 70)
 obtain ⟨row, er⟩ : ∃ row, row = (row0.take 70).map cutCell := ⟨_, rfl⟩
 rw [← er] at h9 hc
 have h9 : dendronlaw09_Few row0 70 = some row := h9
 have hS : dendronlaw11_Small ((row0.length : Int), [t0]) row0 = some (((cutM ((row0.length : Int), [t0])).1, [t]), row) := by
  rw [dendronlaw11_Small, hf', Option.bind_some]
  dsimp only
  rw [cnd' (by simp), h9]; rfl
 obtain ⟨b, h1, h2⟩ := TreeV_ok (f := (row.length : Int)) ht hs
 rw [dendronlaw16_LinearLegs, hS, Option.bind_some]
 dsimp only
 rw [List.getElem?_cons_zero, Option.bind_some]
 cases b with
 | false =>
  rw [Legs_bad h1, Option.bind_some, decide_eq_false (show ¬ (1 : Int) = 0 by decide), Bool.not_false, cond_true, cnd rfl, law16_awake_ok]
  rfl
 | true =>
  have hg := h2.1 rfl
  have h64 : (row.length : Int) ≤ 64 := hg.1.2.1
  have ha : Askd ((row.length : Int), [t]) row := ⟨hg, rfl, by intro u hu; simp at hu; subst hu; exact hs, by simp, by intro u hu; simp at hu; subst hu; exact ht, hc⟩
  obtain ⟨g1, g2, g3⟩ := hg.treeOf (i := 0) (by simp)
  have g1 : Is t (row.length : Int) (treeOf t) := g1
  have hcov : CoversP t := hg.covers (i := 0) (by simp)
  obtain ⟨k1, k2, k3⟩ := Legs_ok ht hs hc hg (by omega)
  have sayAll := fun set => legs_say (row := row) (set := set) (CoversP.ne hcov) g1 []
  obtain ⟨L, eL⟩ : ∃ L, L = legsT t row (treeOf t) [] := ⟨_, rfl⟩
  rw [← eL] at k1 k2 k3
  obtain ⟨V, eV⟩ : ∃ V : Nat → Nat → Rat, V = fun set i => lsum ((L.take i).map (legV set)) := ⟨_, rfl⟩
  have Vz : ∀ set i, i ≤ L.length → SzQ (V set i) 200000000 := fun set i hi => by
   have := lsum_sz (l := (L.take i).map (legV set)) (k := 3004) (fun x hx => by
     obtain ⟨s, hs, rfl⟩ := List.mem_map.1 hx
     have := k2 s (List.mem_of_mem_take hs)
     exact legV_sz this.1 this.2)
   rw [eV]
   exact this.mono (by rw [List.length_map, List.length_take]; have := Nat.mul_le_mul_right 3005 (show min i L.length ≤ 65536 by omega); omega)
  have Vs : ∀ set i (hi : i < L.length), V set (i + 1) = V set i + legV set L[i] := fun set i hi => by
   have := lsum_take_succ (l := L.map (legV set)) (i := i) (by simpa using hi)
   rw [← List.map_take, ← List.map_take] at this
   rw [eV]
   show lsum _ = lsum _ + _
   rw [this]; simp
  have key := lp_up (step := dendronlaw16_LinearLegs_s8) (fun i => ((row, L.map encL, (i : Int), ()), (((row.length : Int), [t], ()), ((canQ (V 0 i)).1.1, (canQ (V 0 i)).1.2, (canQ (V 0 i)).2, ()), ((canQ (V FULL i)).1.1, (canQ (V FULL i)).1.2, (canQ (V FULL i)).2, ()), ()))) L.length (r := ((row, ()), (((row.length : Int), [t], ()), ((canQ (V 0 L.length)).1.1, (canQ (V 0 L.length)).1.2, (canQ (V 0 L.length)).2, ()), ((canQ (V FULL L.length)).1.1, (canQ (V FULL L.length)).1.2, (canQ (V FULL L.length)).2, ()), ()))) (by omega) (by
   intro g i hi
   obtain ⟨x, ex⟩ : ∃ x, x = L[i] := ⟨_, rfl⟩
   obtain ⟨kw, kv⟩ := k2 _ (List.getElem_mem hi)
   rw [← ex] at kw kv
   have d0 : (i : Int) < ((L.map encL).length : Int) := by rw [List.length_map]; omega
   have d1 : (0 : Int) ≤ (i : Int) := by omega
   have gL : (L.map encL)[i]? = some (encL x) := by simp [hi, ex]
   have hfl : ∀ p ∈ x.2.2, p.1 < 64 := fun p hp => by have := kw.2.2 p hp; omega
   have hps : PaSz (encL x).2.2 129 := by
     refine ⟨by show (encW x.2.2).length ≤ 16; rw [encW_len]; exact kw.2.1, fun p hp => ?_⟩
     obtain ⟨a, ha, rfl⟩ := List.mem_map.1 hp
     exact (kw.1 a ha).szR
   obtain ⟨p1, p2⟩ := Leaf_ok hps (by decide) (by decide)
   obtain ⟨n, hn⟩ : ∃ n, n = x.2.2.length := ⟨_, rfl⟩
   have hn16 : n ≤ 16 := by rw [hn]; exact kw.2.1
   have epl : (encL x).2.2.length = n := by rw [hn]; exact encW_len _
   obtain ⟨c, ec⟩ : ∃ c, c = polF (lfac (encL x).2.2) := ⟨_, rfl⟩
   have c0 : c 0 = reachA 0 x.2.2 := by rw [ec]; exact lfac_low _
   have cn : c n = reachA FULL x.2.2 := by rw [ec, hn]; exact lfac_high hfl
   rw [epl, ← ec] at p1
   rw [← ec] at p2
   have ev : (encL x).2.1 = canQ x.2.1 := rfl
   have r0z := reach16 (set := 0) kw
   have rFz := reach16 (set := FULL) kw
   have s0 := Vs 0 i hi
   have sF := Vs FULL i hi
   rw [← ex] at s0 sF
   have m0 := ratio_Mul_ok (r0z.sm (by decide)) (kv.sm (by decide))
   rw [rv_canQ, rv_canQ] at m0
   have mF := ratio_Mul_ok (rFz.sm (by decide)) (kv.sm (by decide))
   rw [rv_canQ, rv_canQ] at mF
   have a0 := ratio_Add_ok ((Vz 0 i (by omega)).sm (by decide)) ((r0z.mul kv).sm (by decide))
   rw [rv_canQ, rv_canQ] at a0
   have aF := ratio_Add_ok ((Vz FULL i (by omega)).sm (by decide)) ((rFz.mul kv).sm (by decide))
   rw [rv_canQ, rv_canQ] at aF
   have e0 : V 0 i + reachA 0 x.2.2 * x.2.1 = V 0 (i + 1) := by rw [s0]; rfl
   have eF : V FULL i + reachA FULL x.2.2 * x.2.1 = V FULL (i + 1) := by rw [sF]; rfl
   rw [e0] at a0
   rw [eF] at aF
   have i1 : iadd .i64 (n : Int) 1 = ((n + 1 : Nat) : Int) := iadd1 (by omega)
   have i2 : iadd .i64 (i : Int) 1 = ((i + 1 : Nat) : Int) := iadd1 (by omega)
   obtain ⟨top, ht⟩ : ∃ top, top = topN c (n + 1) := ⟨_, rfl⟩
   have htop : top ≤ n + 1 := by rw [ht]; exact topN_le _ _
   have pl : (polL (n + 1) c).length = top := by rw [polL_len, ht]
   have pg : ∀ j, j < top → (polL (n + 1) c)[j]? = some (canQ (c j)) := fun j hj => by rw [polL, ← ht]; exact flo_get c hj
   have fin : ∀ (X : RAT), X = canQ (V 0 (i + 1)) → (bif (decide ((top : Int) = (iadd .i64 (n : Int) 1))) then (bif decide (0 ≤ (isub .i64 (top : Int) 1)) && decide ((isub .i64 (top : Int) 1) < (top : Int)) then ((polL (n + 1) c)[(isub .i64 (top : Int) 1).toNat]?).bind fun x15 => bif decide (0 ≤ (i : Int)) && decide ((i : Int) < ((L.map encL).length : Int)) then ((L.map encL)[(i : Int).toNat]?).bind fun x16 => (ratio_Mul x15 x16.2.1).bind fun r17 => (ratio_Add (((canQ (V FULL i)).1.1, (canQ (V FULL i)).1.2), (canQ (V FULL i)).2) r17).bind fun r18 => g ((row, L.map encL, (iadd .i64 (i : Int) 1), ()), (((row.length : Int), [t], ()), (X.1.1, X.1.2, X.2, ()), (r18.1.1, r18.1.2, r18.2, ()), ())) else none else none) else (g ((row, L.map encL, (iadd .i64 (i : Int) 1), ()), (((row.length : Int), [t], ()), (X.1.1, X.1.2, X.2, ()), ((canQ (V FULL i)).1.1, (canQ (V FULL i)).1.2, (canQ (V FULL i)).2, ()), ())))) =
       g ((row, L.map encL, ((i + 1 : Nat) : Int), ()), (((row.length : Int), [t], ()), ((canQ (V 0 (i + 1))).1.1, (canQ (V 0 (i + 1))).1.2, (canQ (V 0 (i + 1))).2, ()), ((canQ (V FULL (i + 1))).1.1, (canQ (V FULL (i + 1))).1.2, (canQ (V FULL (i + 1))).2, ()), ())) := by
     rintro X rfl
     rw [i1, i2]
     by_cases hcn : c n = 0
     · have hlt : top ≤ n := by rw [ht, topN, if_pos hcn]; exact topN_le _ _
       have : V FULL (i + 1) = V FULL i := by rw [← eF, ← cn, hcn, Rat.zero_mul, Rat.add_zero]
       rw [cnd' (by omega), this]
     · have hful : top = n + 1 := by rw [ht]; exact topN_full hcn
       have i3 : isub .i64 (top : Int) 1 = (n : Int) := by rw [isub_i (by omega) (by omega)]; omega
       rw [cnd (by omega), i3, cnd2 (by omega) (by omega), Int.toNat_natCast, pg n (by omega), Option.bind_some, cnd2 d1 d0, Int.toNat_natCast, gL, Option.bind_some, ev, cn, mF, Option.bind_some]
       show (ratio_Add (canQ (V FULL i)) _).bind _ = _
       rw [aF]; rfl
   rw [dendronlaw16_LinearLegs_s8, cnd d0, cnd2 d1 d0, Int.toNat_natCast, gL, Option.bind_some, p1, Option.bind_some, ratio_Zero_ok, Option.bind_some, pl]
   by_cases hz : top = 0
   · have hc0 : c 0 = 0 := topN_zero (n := n + 1) (by omega) (by omega)
     have mz := ratio_Mul_ok (SzQ.zero.sm (by decide)) (kv.sm (by decide))
     rw [rv_canQ, rv_canQ, Rat.zero_mul] at mz
     rw [← c0, hc0, Rat.zero_mul] at a0
     rw [cnd' (by omega), cnd2 d1 d0, Option.bind_some, ev, mz, Option.bind_some]
     show (ratio_Add (canQ (V 0 i)) _).bind _ = _
     rw [a0, Option.bind_some, cnd2 d1 d0, Option.bind_some, epl]
     have := fin (canQ (V 0 (i + 1))) rfl
     rw [Int.toNat_natCast, gL] at this
     exact this
   · rw [cnd (by omega), cnd (by omega), pg 0 (by omega), Option.bind_some, cnd2 d1 d0, Option.bind_some, ev, c0, m0, Option.bind_some]
     show (ratio_Add (canQ (V 0 i)) _).bind _ = _
     rw [a0, Option.bind_some, cnd2 d1 d0, Option.bind_some, epl]
     have := fin (canQ (V 0 (i + 1))) rfl
     rw [Int.toNat_natCast, gL] at this
     exact this) (by
   intro g
   rw [dendronlaw16_LinearLegs_s8, cnd' (by rw [List.length_map]; omega)])
  have v0 : ∀ set, V set 0 = 0 := fun set => by rw [eV]; rfl
  rw [v0, v0] at key
  have key : lp dendronlaw16_LinearLegs_s8 K0 ((row, L.map encL, 0, ()), (((row.length : Int), [t], ()), ((canQ 0).1.1, (canQ 0).1.2, (canQ 0).2, ()), ((canQ 0).1.1, (canQ 0).1.2, (canQ 0).2, ()), ())) = _ := key
  have vl : ∀ set, V set L.length = sayM ((row.length : Int), [t]) row set := fun set => by
   have := sayAll set
   rw [← eL] at this
   rw [eV]
   show lsum ((L.take L.length).map (legV set)) = _
   rw [List.take_of_length_le (Nat.le_refl _), this]
   show 1 * expT t row set (treeOf t) = 0 + expT t row set (treeOf t)
   rw [Rat.one_mul, Rat.zero_add]
  have hB := Base_ok hg ha.ms ha.ml ha.mt row
  have hV := eValue_ok ha (set := FULL) (by decide)
  have hV : expect_Value ((row.length : Int), [t]) row 18446744073709551615 = _ := hV
  have z0 := Vz 0 L.length (Nat.le_refl _)
  have zF := Vz FULL L.length (Nat.le_refl _)
  rw [vl] at z0 zF
  have S0 := ratio_Same_ok (z0.sm (by decide)) (z0.sm (by decide))
  have SF := ratio_Same_ok (zF.sm (by decide)) (zF.sm (by decide))
  rw [decide_eq_true rfl] at S0 SF
  rw [k1, Option.bind_some, show (!decide ((0 : Int) = 0)) = false by decide, cond_false, ratio_Zero_ok, Option.bind_some, Option.bind_some]
  dsimp only
  rw [key, Option.bind_some]
  dsimp only
  rw [hB, Option.bind_some, hV, Option.bind_some, cnd rfl, cnd rfl, vl, vl]
  show (ratio_Same (canQ _) (canQ _)).bind _ = _
  rw [S0, Option.bind_some, cond_true]
  show (ratio_Same (canQ _) (canQ _)).bind _ = _
  rw [SF, Option.bind_some, cond_true, law16_awake_ok]
  rfl
end Go.Proofs.YtaonkcmflkmncaaGreatDoor.X
