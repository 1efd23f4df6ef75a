/- Sums over all sets: what a game of a product comes to. -/
import Derived.Test.YtaonkcmflkmncaaDoorLa7

namespace Go.Proofs.YtaonkcmflkmncaaDoor.X
open Go
set_option linter.unusedVariables false
set_option linter.unusedSimpArgs false

/-! Bits. -/
theorem bit_add {S f : Nat} (h : S.testBit f = false) : ∀ j, (S + 2 ^ f).testBit j = (decide (j = f) || S.testBit j) := by
  induction f generalizing S with
  | zero =>
    intro j
    have h0 : S % 2 = 0 := by rw [Nat.testBit_zero] at h; simpa using h
    cases j with
    | zero => rw [Nat.testBit_zero]; simp; omega
    | succ j =>
      rw [Nat.testBit_succ, Nat.testBit_succ, show (S + 2 ^ 0) / 2 = S / 2 by omega]
      simp
  | succ f ih =>
    intro j
    rw [Nat.testBit_succ] at h
    have e1 : (S + 2 ^ (f + 1)) / 2 = S / 2 + 2 ^ f := by rw [Nat.pow_succ]; omega
    have e2 : (S + 2 ^ (f + 1)) % 2 = S % 2 := by rw [Nat.pow_succ]; omega
    cases j with
    | zero => rw [Nat.testBit_zero, Nat.testBit_zero, e2]; simp
    | succ j =>
      rw [Nat.testBit_succ, Nat.testBit_succ, e1, ih h]
      simp
/-- How many of the first places a set has. -/
def popc : Nat → Nat → Nat
  | 0, _ => 0
  | n + 1, S => popc n S + (if S.testBit n then 1 else 0)
theorem popc_le (n S : Nat) : popc n S ≤ n := by
  induction n with
  | zero => exact Nat.le_refl _
  | succ n ih => rw [popc]; split <;> omega
theorem popc_congr {n S S' : Nat} (h : ∀ j, j < n → S.testBit j = S'.testBit j) : popc n S = popc n S' := by
  induction n with
  | zero => rfl
  | succ n ih => rw [popc, popc, ih fun j hj => h j (by omega), h n (by omega)]
theorem rsum_split (f : Nat → Rat) (a b : Nat) : rsum f (a + b) = rsum f a + rsum (fun i => f (i + a)) b := by
  induction b with
  | zero => simp [rsum, Rat.add_zero]
  | succ b ih => rw [← Nat.add_assoc, rsum, ih, rsum, Rat.add_assoc, Nat.add_comm a b]

theorem rprod_congr {f g : Nat → Rat} {n : Nat} (h : ∀ i, i < n → f i = g i) : rprod f n = rprod g n := by
  induction n with
  | zero => rfl
  | succ n ih => rw [rprod, rprod, ih fun i hi => h i (by omega), h n (by omega)]

/-! Products over places, by a set: (what a place gives that is not in it, what one that is). -/
abbrev BA := Rat × Rat
def pick (x : BA) (b : Bool) : Rat := if b then x.2 else x.1
/-- The sum over all sets of what their sizes weigh times the product. -/
def EE : List BA → (Nat → Rat) → Rat
  | [], c => c 0
  | x :: L, c => x.1 * EE L c + x.2 * EE L fun k => c (k + 1)
theorem EE_congr {L : List BA} : ∀ {c d : Nat → Rat}, (∀ k, k ≤ L.length → c k = d k) → EE L c = EE L d := by
  induction L with
  | nil => intro c d h; exact h 0 (Nat.le_refl _)
  | cons x L ih =>
    intro c d h
    rw [EE, EE, ih fun k hk => h k (by simp only [List.length_cons]; omega), ih fun k hk => h (k + 1) (by simp only [List.length_cons]; omega)]
theorem EE_mul {L : List BA} : ∀ {c : Nat → Rat} {q : Rat}, EE L (fun k => q * c k) = q * EE L c := by
  induction L with
  | nil => intro c q; rfl
  | cons x L ih => intro c q; rw [EE, EE, ih, ih]; grind
theorem EE_perm {L M : List BA} (h : L.Perm M) : ∀ c, EE L c = EE M c := by
  induction h with
  | nil => intro c; rfl
  | cons x _ ih => intro c; rw [EE, EE, ih, ih]
  | swap x y L => intro c; simp only [EE]; grind
  | trans _ _ ih1 ih2 => intro c; rw [ih1, ih2]
theorem EE_out {L : List BA} {x : BA} : ∀ c, EE (x :: L) c = EE (L ++ [x]) c := fun c => EE_perm (by
  have := (List.perm_append_comm (l₁ := [x]) (l₂ := L)); simpa using this) c
/-- The sum over all sets of places below n. -/
theorem sets_sum (g : Nat → BA) (n : Nat) : ∀ c : Nat → Rat, rsum (fun S => c (popc n S) * rprod (fun j => pick (g j) (S.testBit j)) n) (2 ^ n) = EE ((List.range n).map g) c := by
  induction n with
  | zero => intro c; simp [rsum, popc, rprod, EE, Rat.mul_one, Rat.zero_add]
  | succ n ih =>
    intro c
    have hb : ∀ S, S < 2 ^ n → S.testBit n = false := fun S hS => Nat.testBit_lt_two_pow hS
    have e1 : rsum (fun S => c (popc (n + 1) S) * rprod (fun j => pick (g j) (S.testBit j)) (n + 1)) (2 ^ n) = (g n).1 * rsum (fun S => c (popc n S) * rprod (fun j => pick (g j) (S.testBit j)) n) (2 ^ n) := by
      rw [Rat.mul_comm (g n).1, ← rsum_mul]
      refine rsum_congr fun S hS => ?_
      rw [popc, rprod, hb S hS, if_neg (by decide), Nat.add_zero, pick, if_neg (by decide)]; grind
    have e2 : rsum (fun S => c (popc (n + 1) (S + 2 ^ n)) * rprod (fun j => pick (g j) ((S + 2 ^ n).testBit j)) (n + 1)) (2 ^ n) = (g n).2 * rsum (fun S => c (popc n S + 1) * rprod (fun j => pick (g j) (S.testBit j)) n) (2 ^ n) := by
      rw [Rat.mul_comm (g n).2, ← rsum_mul]
      refine rsum_congr fun S hS => ?_
      have hj := bit_add (hb S hS)
      have hp : popc n (S + 2 ^ n) = popc n S := popc_congr fun j hj' => by rw [hj j, decide_eq_false (by omega), Bool.false_or]
      have hr : rprod (fun j => pick (g j) ((S + 2 ^ n).testBit j)) n = rprod (fun j => pick (g j) (S.testBit j)) n := rprod_congr fun j hj' => by rw [hj j, decide_eq_false (by omega), Bool.false_or]
      rw [popc, rprod, hp, hr, hj n, decide_eq_true rfl, Bool.true_or, if_pos rfl, pick, if_pos rfl]; grind
    rw [Nat.pow_succ, Nat.mul_two, rsum_split, e1, e2, ih c, ih fun k => c (k + 1), List.range_succ, List.map_append]
    show _ = EE (_ ++ [g n]) c
    rw [← EE_out, EE]
end Go.Proofs.YtaonkcmflkmncaaDoor.X


/- What a place adds to a game, by the sum over all sets; a product's. -/
namespace Go.Proofs.YtaonkcmflkmncaaDoor.X
open Go
set_option linter.unusedVariables false
set_option linter.unusedSimpArgs false

/-! A product's. -/
end Go.Proofs.YtaonkcmflkmncaaDoor.X


/- Depend: DependCovers, DependRests. -/
namespace Go.Proofs.YtaonkcmflkmncaaDoor.X
open Go
set_option linter.unusedVariables false
set_option linter.unusedSimpArgs false

end Go.Proofs.YtaonkcmflkmncaaDoor.X


/- Depend: DependAverages. -/
namespace Go.Proofs.YtaonkcmflkmncaaDoor.X
open Go
set_option linter.unusedVariables false
set_option linter.unusedSimpArgs false

end Go.Proofs.YtaonkcmflkmncaaDoor.X


/- Versus: means over rows. -/
namespace Go.Proofs.YtaonkcmflkmncaaDoor.X
open Go
set_option linter.unusedVariables false
set_option linter.unusedSimpArgs false

def flx (n : Nat) (g : Nat → RAT) : List RAT := (List.range n).map g
theorem flx_len (n : Nat) (g : Nat → RAT) : (flx n g).length = n := by simp [flx]
theorem flx_get {n f : Nat} (g : Nat → RAT) (h : f < n) : (flx n g)[f]? = some (g f) := by simp [flx, h]
theorem flx_set {n i : Nat} {o p : Nat → RAT} {x : RAT} (hx : p i = x) (hp : ∀ f, f ≠ i → p f = o f) : (flx n o).set i x = flx n p := by
  apply List.ext_getElem?
  intro f
  rw [List.getElem?_set]
  by_cases hf : f < n
  · rw [flx_get _ hf, flx_get _ hf, flx_len]
    by_cases e : i = f
    · rw [if_pos e, if_pos (by omega), ← e, hx]
    · rw [if_neg e, hp f (fun h => e h.symm)]
  · have h1 : (flx n o)[f]? = none := List.getElem?_eq_none (by rw [flx_len]; omega)
    have h2 : (flx n p)[f]? = none := List.getElem?_eq_none (by rw [flx_len]; omega)
    rw [h1, h2]
    split
    · rw [if_neg (by rw [flx_len]; omega)]
    · rfl
theorem flx_congr {n : Nat} {o p : Nat → RAT} (h : ∀ f, f < n → o f = p f) : flx n o = flx n p := List.map_congr_left fun f hf => h f (List.mem_range.1 hf)
/-- A model, a row and rows that may be asked. -/
structure AskB (m : MODEL) (row : List CELL) (l : List (List CELL)) : Prop where
  a : Askd m row
  b : ∀ r ∈ l, Askd m r
  ll : l.length ≤ 8
  ne : l.length ≠ 0
theorem AskB.at {m : MODEL} {row : List CELL} {l : List (List CELL)} (h : AskB m row l) {i : Nat} (hi : i < l.length) : Askd m l[i] := h.b _ (List.getElem_mem hi)
end Go.Proofs.YtaonkcmflkmncaaDoor.X


/- Versus: VersusMeans. -/
namespace Go.Proofs.YtaonkcmflkmncaaDoor.X
open Go
set_option linter.unusedVariables false
set_option linter.unusedSimpArgs false

def raw0 : RAT := ((false, []), [])
theorem rv_raw0 : rv raw0 = 0 := by decide +kernel
end Go.Proofs.YtaonkcmflkmncaaDoor.X


/- Versus: what sets are worth: VersusWorths, VersusTables. -/
namespace Go.Proofs.YtaonkcmflkmncaaDoor.X
open Go
set_option linter.unusedVariables false
set_option linter.unusedSimpArgs false

end Go.Proofs.YtaonkcmflkmncaaDoor.X


/- Versus: VersusTables. -/
namespace Go.Proofs.YtaonkcmflkmncaaDoor.X
open Go
set_option linter.unusedVariables false
set_option linter.unusedSimpArgs false

end Go.Proofs.YtaonkcmflkmncaaDoor.X


/- The document's sum over all sets: dendronlaw15.Shapley with no place given. -/
namespace Go.Proofs.YtaonkcmflkmncaaDoor.X
open Go
set_option linter.unusedVariables false
set_option linter.unusedSimpArgs false

end Go.Proofs.YtaonkcmflkmncaaDoor.X


/- Versus: VersusValues. -/
namespace Go.Proofs.YtaonkcmflkmncaaDoor.X
open Go
set_option linter.unusedVariables false
set_option linter.unusedSimpArgs false

def one0 (b : Bool) : Rat := if b then 1 else 0
/-! A leg's game. -/
end Go.Proofs.YtaonkcmflkmncaaDoor.X


/- Polynomials: their lists of coefficients. -/
namespace Go.Proofs.YtaonkcmflkmncaaDoor.X
open Go
set_option linter.unusedVariables false
set_option linter.unusedSimpArgs false

/-- How many coefficients stay. -/
def topN (c : Nat → Rat) : Nat → Nat
  | 0 => 0
  | n + 1 => if c n = 0 then topN c n else n + 1
theorem topN_le (c : Nat → Rat) (n : Nat) : topN c n ≤ n := by
  induction n with
  | zero => exact Nat.le_refl _
  | succ n ih => rw [topN]; split <;> omega
theorem topN_zero {c : Nat → Rat} {n k : Nat} (h1 : topN c n ≤ k) (h2 : k < n) : c k = 0 := by
  induction n with
  | zero => omega
  | succ n ih =>
    rw [topN] at h1
    split at h1
    · rename_i e
      by_cases hk : k = n
      · rw [hk]; exact e
      · exact ih h1 (by omega)
    · omega
theorem topN_none {c : Nat → Rat} {n : Nat} (h : ∀ k, k < n → c k = 0) : topN c n = 0 := by
  induction n with
  | zero => rfl
  | succ n ih => rw [topN, if_pos (h n (by omega)), ih fun k hk => h k (by omega)]
theorem topN_full {c : Nat → Rat} {n : Nat} (h : c n ≠ 0) : topN c (n + 1) = n + 1 := by rw [topN, if_neg h]
theorem topN_ext {c : Nat → Rat} {n m : Nat} (h : ∀ k, n ≤ k → c k = 0) (hm : n ≤ m) : topN c m = topN c n := by
  induction m with
  | zero => have : n = 0 := by omega
            subst this; rfl
  | succ m ih =>
    by_cases e : n = m + 1
    · rw [e]
    · rw [topN, if_pos (h m (by omega)), ih (by omega)]
/-- The list of a polynomial: no coefficient 0 on top. -/
def polL (n : Nat) (c : Nat → Rat) : List RAT := flo (topN c n) c
theorem polL_len (n : Nat) (c : Nat → Rat) : (polL n c).length = topN c n := flo_len _ _
theorem polL_ext {n m : Nat} {c : Nat → Rat} (h : ∀ k, n ≤ k → c k = 0) (hm : n ≤ m) : polL m c = polL n c := by rw [polL, polL, topN_ext h hm]
theorem vals_flo {n k : Nat} (c : Nat → Rat) : vals (flo n c) k = if k < n then c k else 0 := by
  unfold vals
  split
  · rename_i h; rw [flo_get c h]; exact rv_canQ _
  · rename_i h
    rw [List.getElem?_eq_none (by rw [flo_len]; omega)]
    exact rv_raw0
theorem vals_polL {n k : Nat} (c : Nat → Rat) : vals (polL n c) k = if k < n then c k else 0 := by
  rw [polL, vals_flo]
  by_cases h : k < topN c n
  · rw [if_pos h, if_pos (by have := topN_le c n; omega)]
  · rw [if_neg h]
    split
    · rename_i h2; exact (topN_zero (c := c) (n := n) (k := k) (by omega) h2).symm
    · rfl
theorem vals_out {l : List RAT} {k : Nat} (h : l.length ≤ k) : vals l k = 0 := by
  unfold vals
  rw [List.getElem?_eq_none h]
  exact rv_raw0
theorem vals_polL_out {n k : Nat} {c : Nat → Rat} (h : ∀ k, n ≤ k → c k = 0) : vals (polL n c) k = c k := by
  rw [vals_polL]
  split
  · rfl
  · rw [h k (by omega)]

theorem ptrim_ok {n : Nat} {c : Nat → Rat} (hn : n ≤ 1000000) (hc : ∀ k, k < n → SzQ (c k) 1000000000) : poly_trim (flo n c) = some (polL n c) := by
  obtain ⟨r, ⟨d, hd, hd2⟩, e⟩ := lp_wf (step := poly_trim_s2)
    (fun v => ∃ m : Nat, v = ((flo n c, (m : Int), ()), ()) ∧ m ≤ n ∧ topN c n = topN c m) (fun v => v.1.2.1.toNat)
    (fun r => ∃ m : Nat, r = ((flo n c, (m : Int), ()), ()) ∧ m = topN c n)
    (v := ((flo n c, ((flo n c).length : Int), ()), ())) ⟨n, by rw [flo_len], Nat.le_refl _, rfl⟩ (by show ((flo n c).length : Int).toNat < _; rw [flo_len]; omega) (by
    rintro v ⟨m, rfl, hm, ht⟩
    cases m with
    | zero =>
      left
      refine ⟨_, ⟨0, rfl, by rw [ht]; rfl⟩, fun g => ?_⟩
      rw [poly_trim_s2, cnd' (by omega)]
    | succ m =>
      have e1 : isub .i64 ((m + 1 : Nat) : Int) 1 = (m : Int) := by rw [isub_i (by omega) (by omega)]; omega
      have st : ∀ g, poly_trim_s2 g ((flo n c, ((m + 1 : Nat) : Int), ()), ()) = bif decide (rcmp (c m) 0 = 0) then g ((flo n c, (m : Int), ()), ()) else some ((flo n c, ((m + 1 : Nat) : Int), ()), ()) := by
        intro g
        rw [poly_trim_s2, cnd (by omega), e1, cnd2 (by omega) (by rw [flo_len]; omega), Int.toNat_natCast, flo_get c (by omega), Option.bind_some, ratio_Sign_ok ((hc m (by omega)).sm (by decide)), Option.bind_some, rv_canQ]
      by_cases h0 : c m = 0
      · right
        refine ⟨_, ⟨m, rfl, by omega, by rw [ht, topN, if_pos h0]⟩, ?_, fun g => ?_⟩
        · show ((m : Nat) : Int).toNat < ((m + 1 : Nat) : Int).toNat; omega
        · rw [st g, h0, show rcmp 0 0 = 0 by decide, cnd rfl]
      · left
        refine ⟨_, ⟨m + 1, rfl, by rw [ht, topN, if_neg h0]⟩, fun g => ?_⟩
        have : ¬ rcmp (c m) 0 = 0 := by
          unfold rcmp
          intro e
          split at e
          · exact absurd e (by decide)
          · split at e
            · exact absurd e (by decide)
            · rename_i h1 h2
              exact h0 (by grind)
        rw [st g, cnd' this])
  rw [poly_trim, e, hd, Option.bind_some]
  dsimp only
  subst hd2
  have hle := topN_le c n
  rw [decide_eq_true (by omega), decide_eq_true (by omega), decide_eq_true (by rw [flo_len]; omega)]
  show some _ = _
  rw [Int.sub_zero, Int.toNat_natCast, polL]
  congr 1
  unfold flo
  rw [← List.map_take, List.take_range, Nat.min_eq_left hle]
theorem at4_ok {l : List RAT} {k : Nat} : ∃ x, poly_at l (k : Int) = some x ∧ rv x = vals l k ∧ (k < l.length → l[k]? = some x) ∧ (l.length ≤ k → x = canQ 0) := by
  by_cases h : k < l.length
  · refine ⟨l[k], ?_, by rw [vals_get h], fun _ => List.getElem?_eq_getElem h, fun h' => by omega⟩
    rw [poly_at, cnd (by omega), cnd (by omega), Int.toNat_natCast, List.getElem?_eq_getElem h, Option.bind_some]
  · refine ⟨canQ 0, ?_, by rw [rv_canQ, vals_out (by omega)], fun h' => absurd h' h, fun _ => rfl⟩
    rw [poly_at, cnd' (by omega), ratio_Zero_ok]; rfl
/-- Numbers that are small, and what they tell. -/
def LSz (l : List RAT) (k : Nat) : Prop := l.length ≤ 1000 ∧ ∀ x ∈ l, SzR x k
theorem LSz.vals {l : List RAT} {k i : Nat} (h : LSz l k) (hk : 0 < k) : SzQ (vals l i) k := by
  by_cases hi : i < l.length
  · exact vals_sz h.2 hk hi
  · rw [vals_out (by omega)]; exact SzQ.zero.mono hk
theorem LSz.polL {n k : Nat} {c : Nat → Rat} (hn : n ≤ 1000) (h : ∀ i, i < n → SzQ (c i) k) : LSz (polL n c) k := by
  refine ⟨by rw [polL_len]; have := topN_le c n; omega, fun x hx => ?_⟩
  obtain ⟨i, hi, rfl⟩ := List.mem_map.1 hx
  have := List.mem_range.1 hi
  exact (h i (by have := topN_le c n; omega)).szR

theorem poly_Add_ok {a b : List RAT} {j k : Nat} (ha : LSz a j) (hb : LSz b k) (hj : 0 < j) (hk : 0 < k) (hjk : j + k < 1000000000) : poly_Add a b = some (polL (max a.length b.length) fun i => vals a i + vals b i) := by
  obtain ⟨n, hn⟩ : ∃ n, n = max a.length b.length := ⟨_, rfl⟩
  have n1 : n ≤ 1000 := by have := ha.1; have := hb.1; omega
  have hmx : mx (a.length : Int) (b.length : Int) = (n : Int) := by unfold mx; split <;> omega
  obtain ⟨c, hc⟩ : ∃ c : Nat → Rat, c = fun i => vals a i + vals b i := ⟨_, rfl⟩
  have key := lp_up (step := poly_Add_s3) (fun i => ((a, b, flo i c, (n : Int), (i : Int), ()), ())) n (r := ((flo n c, ()), ())) (by omega) (by
    intro g i hi
    have d0 : (i : Int) < (n : Int) := by omega
    obtain ⟨x, x1, x2, x3, x4⟩ := at4_ok (l := a) (k := i)
    obtain ⟨y, y1, y2, y3, y4⟩ := at4_ok (l := b) (k := i)
    have sx : Sm x := by
      by_cases h : i < a.length
      · exact (ha.2 x (List.mem_of_getElem? (x3 h))).sm (by omega)
      · rw [x4 (by omega)]; exact SzQ.zero.sm (by decide)
    have sy : Sm y := by
      by_cases h : i < b.length
      · exact (hb.2 y (List.mem_of_getElem? (y3 h))).sm (by omega)
      · rw [y4 (by omega)]; exact SzQ.zero.sm (by decide)
    rw [poly_Add_s3, cnd d0, x1, Option.bind_some, y1, Option.bind_some, ratio_Add_ok sx sy, Option.bind_some, x2, y2, blt (by rw [flo_len]; omega), cond_true, iadd1 (by omega)]
    have : flo (i + 1) c = flo i c ++ [canQ (vals a i + vals b i)] := by rw [hc]; simp [flo, List.range_succ]
    rw [this]; rfl) (by
    intro g
    rw [poly_Add_s3, cnd' (by omega)])
  have key : lp poly_Add_s3 K0 ((a, b, [], (n : Int), 0, ()), ()) = _ := key
  rw [poly_Add, hmx, key, Option.bind_some]
  dsimp only
  rw [ptrim_ok (by omega) (fun i _ => by rw [hc]; exact ((ha.vals hj).add (hb.vals hk)).mono (by omega)), Option.bind_some, ← hn, hc]
theorem poly_Scale_ok {a : List RAT} {q : RAT} {j k : Nat} (ha : LSz a j) (hq : SzR q k) (hj : 0 < j) (hk : 0 < k) (hjk : j + k < 1000000000) : poly_Scale a q = some (polL a.length fun i => vals a i * rv q) := by
  obtain ⟨n, hn⟩ : ∃ n, n = a.length := ⟨_, rfl⟩
  have n1 : n ≤ 1000 := by have := ha.1; omega
  have hqz : SzQ (rv q) k := hq.szQ hk
  obtain ⟨c, hc⟩ : ∃ c : Nat → Rat, c = fun i => vals a i * rv q := ⟨_, rfl⟩
  have key := lp_up (step := poly_Scale_s3) (fun i => ((flo i c, a, (a.length : Int), (i : Int), ()), ((q.1.1, q.1.2, q.2, ()), ()))) n (r := ((flo n c, ()), ())) (by omega) (by
    intro g i hi
    have d0 : (i : Int) < (a.length : Int) := by omega
    have hi' : i < a.length := by omega
    have hm := ratio_Mul_ok ((ha.2 _ (List.getElem_mem hi')).sm (by omega)) (hq.sm (by omega))
    rw [poly_Scale_s3, cnd d0, cnd (by omega), Int.toNat_natCast, List.getElem?_eq_getElem hi', Option.bind_some]
    show (ratio_Mul a[i] q).bind _ = _
    rw [hm, Option.bind_some, blt (by rw [flo_len]; omega), cond_true, iadd1 (by omega)]
    have : flo (i + 1) c = flo i c ++ [canQ (rv a[i] * rv q)] := by rw [hc]; simp [flo, List.range_succ, vals_get hi']
    rw [this]; rfl) (by
    intro g
    rw [poly_Scale_s3, cnd' (by omega)])
  have key : lp poly_Scale_s3 K0 (([], a, (a.length : Int), 0, ()), ((q.1.1, q.1.2, q.2, ()), ())) = _ := key
  rw [poly_Scale, key, Option.bind_some]
  dsimp only
  rw [ptrim_ok (by omega) (fun i _ => by rw [hc]; exact ((ha.vals hj).mul hqz).mono (by omega)), Option.bind_some, hn, hc]
theorem poly_Sub_ok {a b : List RAT} {j k : Nat} (ha : LSz a j) (hb : LSz b k) (hj : 0 < j) (hk : 0 < k) (hjk : j + k < 900000000) : poly_Sub a b = some (polL (max a.length b.length) fun i => vals a i - vals b i) := by
  have hof := ratio_Of_ok (n := -1) (by decide) (by decide)
  have s1 : SzQ (((-1 : Int)) : Rat) 2 := (SzQ.int (z := -1) (by decide)).mono (by decide)
  have hs := poly_Scale_ok hb s1.szR hk (by decide) (by omega)
  rw [rv_canQ] at hs
  have hz : ∀ i, SzQ (vals b i * (((-1 : Int)) : Rat)) (k + 2) := fun i => (hb.vals hk).mul s1
  have hl : LSz (polL b.length fun i => vals b i * (((-1 : Int)) : Rat)) (k + 2) := LSz.polL hb.1 fun i _ => hz i
  have hA := poly_Add_ok ha hl hj (by omega) (by omega)
  rw [poly_Sub, hof, Option.bind_some, hs, Option.bind_some, hA, Option.bind_some]
  congr 1
  have hv : ∀ i, vals (polL b.length fun i => vals b i * (((-1 : Int)) : Rat)) i = -vals b i := fun i => by
    rw [vals_polL_out (fun k hk => by rw [vals_out hk, Rat.zero_mul])]
    have : (((-1 : Int)) : Rat) = -1 := rfl
    rw [this]; grind
  have hc : (fun i => vals a i + vals (polL b.length fun i => vals b i * (((-1 : Int)) : Rat)) i) = fun i => vals a i - vals b i := by
    funext i; rw [hv, Rat.sub_eq_add_neg]
  rw [hc]
  have hle : (polL b.length fun i => vals b i * (((-1 : Int)) : Rat)).length ≤ b.length := by rw [polL_len]; exact topN_le _ _
  symm
  apply polL_ext
  · intro i hi
    have h1 : vals a i = 0 := vals_out (by omega)
    have h2 : vals b i = 0 := by
      have := hv i
      rw [vals_out (by omega)] at this
      grind
    rw [h1, h2, Rat.sub_self]
  · omega
theorem poly_Same_ok {a b : List RAT} {j k : Nat} (ha : LSz a j) (hb : LSz b k) (hj : 0 < j) (hk : 0 < k) (hjk : j + k < 900000000) (h : ∀ i, vals a i = vals b i) : poly_Same a b = some true := by
  rw [poly_Same, poly_Sub_ok ha hb hj hk hjk, Option.bind_some, polL_len, topN_none (fun i _ => by rw [h i, Rat.sub_self])]
  rfl
theorem poly_Clean_ok {a : List RAT} {j : Nat} (ha : LSz a j) (hj : 0 < j) (hj2 : j < 1000000000) : poly_Clean a = some (polL a.length (vals a)) := by
  obtain ⟨n, hn⟩ : ∃ n, n = a.length := ⟨_, rfl⟩
  have n1 : n ≤ 1000 := by have := ha.1; omega
  obtain ⟨G, hG⟩ : ∃ G : Nat → Nat → RAT, G = fun i f => if f < i then canQ (vals a f) else raw0 := ⟨_, rfl⟩
  have key := lp_up (step := poly_Clean_s3) (fun i => ((flx n (G i), a, (a.length : Int), (i : Int), ()), ())) n (r := ((flo n (vals a), ()), ())) (by omega) (by
    intro g i hi
    have d0 : (i : Int) < (a.length : Int) := by omega
    have hi' : i < a.length := by omega
    have hm := ratio_Clean_ok ((ha.2 _ (List.getElem_mem hi')).sm (by omega))
    rw [poly_Clean_s3, cnd d0, cnd (by omega), Int.toNat_natCast, List.getElem?_eq_getElem hi', Option.bind_some, hm, Option.bind_some, cnd2 (by omega) (by rw [flx_len]; omega), flx_get _ hi, Option.bind_some, iadd1 (by omega)]
    rw [flx_set (p := G (i + 1)) (by rw [hG]; show (if i < i + 1 then _ else _) = _; rw [if_pos (by omega), vals_get hi']) (fun f hf => by
      rw [hG]
      show (if f < i + 1 then _ else _) = if f < i then _ else _
      by_cases h : f < i
      · rw [if_pos (by omega), if_pos h]
      · rw [if_neg (by omega), if_neg h])]
    rfl) (by
    intro g
    rw [poly_Clean_s3, cnd' (by omega), flx_congr (o := G n) (p := fun f => canQ (vals a f)) (fun f hf => by rw [hG]; exact if_pos hf)]; rfl)
  have e0 : flx n (G 0) = List.replicate n raw0 := by
    have : G 0 = fun _ => raw0 := by funext f; rw [hG]; exact if_neg (by omega)
    rw [this, flx, List.map_const', List.length_range]
  rw [e0, hn] at key
  have key : lp poly_Clean_s3 K0 ((List.replicate a.length (((false, []), []) : RAT), a, (a.length : Int), 0, ()), ()) = _ := key
  have c1 : (decide ((a.length : Int) = (a.length : Int)) && decide (0 ≤ (a.length : Int)) && decide (((56 : Nat) : Int) * (a.length : Int) ≤ 281474976710656) && decide ((a.length : Int) ≤ 9223372036854775807)) = true := by
    have := ha.1
    rw [decide_eq_true rfl, decide_eq_true (by omega), decide_eq_true (by omega), decide_eq_true (by omega)]; rfl
  rw [poly_Clean, c1, cond_true, Int.toNat_natCast, key, Option.bind_some]
  dsimp only
  rw [ptrim_ok (by omega) (fun i _ => (ha.vals hj).mono (by omega)), Option.bind_some]
end Go.Proofs.YtaonkcmflkmncaaDoor.X


/- Polynomials: products; leaves' polynomials. -/
namespace Go.Proofs.YtaonkcmflkmncaaDoor.X
open Go
set_option linter.unusedVariables false
set_option linter.unusedSimpArgs false

/-- The part of a product's coefficient that the first coefficients of a polynomial give. -/
def PS (A B : Nat → Rat) (i t : Nat) : Rat := rsum (fun i' => if i' ≤ t then A i' * B (t - i') else 0) i
theorem PS_succ (A B : Nat → Rat) (i t : Nat) : PS A B (i + 1) t = PS A B i t + (if i ≤ t then A i * B (t - i) else 0) := rfl
theorem poly_Mul_ok {a b : List RAT} {j k s : Nat} (ha : LSz a j) (hb : LSz b k) (hj : 0 < j) (hk : 0 < k) (hj2 : j < 100000000) (hk2 : k < 100000000) (hs : s < 1000000000)
    (hS : ∀ i t, SzQ (PS (vals a) (vals b) i t) s) :
    poly_Mul a b = some (polL (topN (vals a) a.length + topN (vals b) b.length - 1) (PS (vals a) (vals b) (topN (vals a) a.length))) := by
  obtain ⟨A, eA⟩ : ∃ A, A = vals a := ⟨_, rfl⟩
  obtain ⟨B, eB⟩ : ∃ B, B = vals b := ⟨_, rfl⟩
  have hA : ∀ i, SzQ (A i) j := fun i => eA ▸ ha.vals hj
  have hB : ∀ i, SzQ (B i) k := fun i => eB ▸ hb.vals hk
  have ca := poly_Clean_ok ha hj (by omega)
  have cb := poly_Clean_ok hb hk (by omega)
  rw [← eA, ← eB] at hS ⊢
  rw [← eA] at ca
  rw [← eB] at cb
  have tla := topN_le A a.length
  have tlb := topN_le B b.length
  have hal := ha.1
  have hbl := hb.1
  have zb : ∀ t, topN B b.length ≤ t → B t = 0 := fun t ht => by
    by_cases h : t < b.length
    · exact topN_zero ht h
    · rw [eB]; exact vals_out (by omega)
  obtain ⟨la, ela⟩ : ∃ la, la = topN A a.length := ⟨_, rfl⟩
  obtain ⟨lb, elb⟩ : ∃ lb, lb = topN B b.length := ⟨_, rfl⟩
  have pa : polL a.length A = flo la A := by rw [polL, ela]
  have pb : polL b.length B = flo lb B := by rw [polL, elb]
  rw [pa] at ca
  rw [pb] at cb
  rw [← ela, ← elb]
  rw [← elb] at zb
  rw [poly_Mul, ca, Option.bind_some, cb, Option.bind_some, flo_len, flo_len]
  by_cases h1 : la = 0
  · rw [cnd (by omega), h1, polL, topN_none (c := PS A B 0) (fun t _ => rfl)]; rfl
  · by_cases h2 : lb = 0
    · rw [cnd' (by omega), cnd (by omega), h2, polL, topN_none (c := PS A B la) (fun t _ => rsum_zeros fun i _ => by
        rw [zb _ (by omega), Rat.mul_zero, ite_self])]; rfl
    · obtain ⟨N, eN⟩ : ∃ N, N = la + lb - 1 := ⟨_, rfl⟩
      have i1 : iadd .i64 (la : Int) (lb : Int) = ((la + lb : Nat) : Int) := by rw [iadd_i (by omega) (by omega)]; omega
      have i2 : isub .i64 ((la + lb : Nat) : Int) 1 = (N : Int) := by rw [isub_i (by omega) (by omega)]; omega
      have c1 : (decide ((N : Int) = (N : Int)) && decide (0 ≤ (N : Int)) && decide (((56 : Nat) : Int) * (N : Int) ≤ 281474976710656) && decide ((N : Int) ≤ 9223372036854775807)) = true := by
        rw [decide_eq_true rfl, decide_eq_true (by omega), decide_eq_true (by omega), decide_eq_true (by omega)]; rfl
      -- all 0
      obtain ⟨G, hG⟩ : ∃ G : Nat → Nat → RAT, G = fun i f => if f < i then canQ 0 else raw0 := ⟨_, rfl⟩
      have k1 := lp_up (step := poly_Mul_s6) (fun i => ((flo la A, flo lb B, flx N (G i), (N : Int), (i : Int), ()), ())) N (r := ((flo la A, flo lb B, flo N (fun _ => 0), ()), ())) (by omega) (by
        intro g i hi
        have d0 : (i : Int) < (N : Int) := by omega
        rw [poly_Mul_s6, cnd d0, ratio_Zero_ok, Option.bind_some, cnd2 (by omega) (by rw [flx_len]; omega), Int.toNat_natCast, flx_get _ hi, Option.bind_some, iadd1 (by omega)]
        rw [flx_set (p := G (i + 1)) (by rw [hG]; show (if i < i + 1 then _ else _) = _; rw [if_pos (by omega)]) (fun f hf => by
          rw [hG]
          show (if f < i + 1 then _ else _) = if f < i then _ else _
          by_cases h : f < i
          · rw [if_pos (by omega), if_pos h]
          · rw [if_neg (by omega), if_neg h])]
        rfl) (by
        intro g
        rw [poly_Mul_s6, cnd' (by omega), flx_congr (o := G N) (p := fun f => canQ 0) (fun f hf => by rw [hG]; exact if_pos hf)]; rfl)
      have e0 : flx N (G 0) = List.replicate N raw0 := by
        have : G 0 = fun _ => raw0 := by funext f; rw [hG]; exact if_neg (by omega)
        rw [this, flx, List.map_const', List.length_range]
      rw [e0] at k1
      have k1 : lp poly_Mul_s6 K0 ((flo la A, flo lb B, List.replicate N (((false, []), []) : RAT), (N : Int), 0, ()), ()) = _ := k1
      -- rows
      have k2 := lp_up (step := poly_Mul_s11) (fun i => ((flo lb B, flo N (PS A B i), flo la A, (la : Int), (i : Int), ()), ())) la (r := ((flo N (PS A B la), ()), ())) (by omega) (by
        intro g i hi
        have d0 : (i : Int) < (la : Int) := by omega
        have d1 : (i : Int) < ((flo la A).length : Int) := by rw [flo_len]; omega
        obtain ⟨O, hO⟩ : ∃ O : Nat → Nat → Rat, O = fun j t => if i ≤ t ∧ t < i + j then PS A B (i + 1) t else PS A B i t := ⟨_, rfl⟩
        have k3 := lp_up (step := poly_Mul_s14) (fun j => ((flo lb B, flo N (O j), (i : Int), flo la A, (la : Int), (i : Int), flo lb B, ((flo lb B).length : Int), (j : Int), ()), (((canQ (A i)).1.1, (canQ (A i)).1.2, (canQ (A i)).2, ()), ()))) lb (r := ((flo lb B, flo N (PS A B (i + 1)), flo la A, (la : Int), (i : Int), ()), ())) (by omega) (by
          intro g t ht
          have e0 : (t : Int) < ((flo lb B).length : Int) := by rw [flo_len]; omega
          have ix : iadd .i64 (i : Int) (t : Int) = ((i + t : Nat) : Int) := by rw [iadd_i (by omega) (by omega)]; omega
          have hit : i + t < N := by omega
          have o1 : O t (i + t) = PS A B i (i + t) := by rw [hO]; exact if_neg (by omega)
          have m1 := ratio_Mul_ok ((hA i).sm (by omega)) ((hB t).sm (by omega))
          rw [rv_canQ, rv_canQ] at m1
          have m2 := ratio_Add_ok ((hS i (i + t)).sm (by omega)) (((hA i).mul (hB t)).sm (by omega))
          rw [rv_canQ, rv_canQ] at m2
          have e1 : PS A B i (i + t) + A i * B t = PS A B (i + 1) (i + t) := by rw [PS_succ, if_pos (by omega), show i + t - i = t by omega]
          rw [poly_Mul_s14, cnd e0, cnd (by omega), Int.toNat_natCast, flo_get _ ht, Option.bind_some, ix, cnd2 (by omega) (by rw [flo_len]; omega), Int.toNat_natCast, flo_get _ hit, Option.bind_some, o1]
          show (ratio_Mul (canQ (A i)) (canQ (B t))).bind _ = _
          rw [m1, Option.bind_some, m2, Option.bind_some, cnd2 (by omega) (by rw [flo_len]; omega), Option.bind_some, iadd1 (by omega), e1]
          rw [flo_set (p := O (t + 1)) (by rw [hO]; exact if_pos (by omega)) (fun f hf => by
            rw [hO]
            show (if i ≤ f ∧ f < i + (t + 1) then _ else _) = if i ≤ f ∧ f < i + t then _ else _
            by_cases h : i ≤ f ∧ f < i + t
            · rw [if_pos (by omega), if_pos h]
            · rw [if_neg (by omega), if_neg h])]
          rfl) (by
          intro g
          rw [poly_Mul_s14, cnd' (by rw [flo_len]; omega)]
          rw [flo_congr (o := O lb) (p := PS A B (i + 1)) (fun f hf => by
            rw [hO]
            show (if i ≤ f ∧ f < i + lb then _ else _) = _
            by_cases h : i ≤ f ∧ f < i + lb
            · rw [if_pos h]
            · rw [if_neg h, PS_succ]
              split
              · rw [zb _ (by omega), Rat.mul_zero, Rat.add_zero]
              · rw [Rat.add_zero])])
        have e3 : flo N (O 0) = flo N (PS A B i) := flo_congr fun f _ => by rw [hO]; exact if_neg (by omega)
        rw [e3] at k3
        have k3 : lp poly_Mul_s14 K0 ((flo lb B, flo N (PS A B i), (i : Int), flo la A, (la : Int), (i : Int), flo lb B, ((flo lb B).length : Int), 0, ()), (((canQ (A i)).1.1, (canQ (A i)).1.2, (canQ (A i)).2, ()), ())) = _ := k3
        rw [poly_Mul_s11, cnd d0, cnd2 (by omega) d1, Int.toNat_natCast, flo_get _ hi, Option.bind_some, k3, Option.bind_some]
        dsimp only
        rw [iadd1 (by omega)]
        rfl) (by
        intro g
        rw [poly_Mul_s11, cnd' (by omega)])
      have k2 : lp poly_Mul_s11 K0 ((flo lb B, flo N (fun _ => 0), flo la A, (la : Int), 0, ()), ()) = _ := k2
      rw [cnd' (by omega), cnd' (by omega), i1, i2, c1, cond_true, Int.toNat_natCast, List.length_replicate, k1, Option.bind_some]
      dsimp only
      rw [flo_len, k2, Option.bind_some]
      dsimp only
      rw [ptrim_ok (by omega) (fun t _ => (hS la t).mono (by omega)), Option.bind_some, eN]

/-! Times a factor of two coefficients. -/
def mulF (x : BA) (P : Nat → Rat) (k : Nat) : Rat := x.1 * P k + (if k = 0 then 0 else x.2 * P (k - 1))
theorem PS_lin {A B : Nat → Rat} (hB : ∀ t, 2 ≤ t → B t = 0) (i t : Nat) : PS A B i t = (if t < i then A t * B 0 else 0) + (if 1 ≤ t ∧ t - 1 < i then A (t - 1) * B 1 else 0) := by
  induction i with
  | zero => rw [if_neg (by omega), if_neg (by omega), Rat.add_zero]; rfl
  | succ i ih =>
    rw [PS_succ, ih]
    by_cases h1 : t = i
    · subst h1
      rw [if_neg (show ¬ t < t by omega), if_pos (show t ≤ t by omega), if_pos (show t < t + 1 by omega), Nat.sub_self]
      by_cases h2 : 1 ≤ t
      · rw [if_pos (show 1 ≤ t ∧ t - 1 < t by omega), if_pos (show 1 ≤ t ∧ t - 1 < t + 1 by omega)]; grind
      · rw [if_neg (show ¬ (1 ≤ t ∧ t - 1 < t) by omega), if_neg (show ¬ (1 ≤ t ∧ t - 1 < t + 1) by omega), Rat.add_zero, Rat.zero_add, Rat.add_zero]
    · by_cases h2 : t = i + 1
      · subst h2
        rw [if_neg (show ¬ i + 1 < i by omega), if_neg (show ¬ (1 ≤ i + 1 ∧ i + 1 - 1 < i) by omega), if_pos (show i ≤ i + 1 by omega), if_neg (show ¬ i + 1 < i + 1 by omega), if_pos (show 1 ≤ i + 1 ∧ i + 1 - 1 < i + 1 by omega), show i + 1 - i = 1 by omega, show i + 1 - 1 = i by omega, Rat.add_zero]
      · by_cases h3 : t < i
        · rw [if_pos h3, if_neg (show ¬ i ≤ t by omega), if_pos (show t < i + 1 by omega), Rat.add_zero]
          by_cases h4 : 1 ≤ t
          · rw [if_pos (show 1 ≤ t ∧ t - 1 < i by omega), if_pos (show 1 ≤ t ∧ t - 1 < i + 1 by omega)]
          · rw [if_neg (show ¬ (1 ≤ t ∧ t - 1 < i) by omega), if_neg (show ¬ (1 ≤ t ∧ t - 1 < i + 1) by omega)]
        · rw [if_neg h3, if_neg (show ¬ (1 ≤ t ∧ t - 1 < i) by omega), if_pos (show i ≤ t by omega), if_neg (show ¬ t < i + 1 by omega), if_neg (show ¬ (1 ≤ t ∧ t - 1 < i + 1) by omega), hB _ (show 2 ≤ t - i by omega), Rat.mul_zero, Rat.add_zero]
/-- A polynomial times a linear one. -/
theorem mul_lin {n j k : Nat} {P : Nat → Rat} {b : List RAT} {x : BA} (hn : n ≤ 900) (hP : ∀ i, SzQ (P i) j) (h0 : ∀ i, n ≤ i → P i = 0) (hb : LSz b k) (hj : 0 < j) (hk : 0 < k) (hj2 : j < 100000000) (hk2 : k < 100000000)
    (b0 : vals b 0 = x.1) (b1 : vals b 1 = x.2) (b2 : b.length ≤ 2) :
    poly_Mul (polL n P) b = some (polL (n + 1) (mulF x P)) ∧ (∀ i, SzQ (mulF x P i) (2 * j + 2 * k + 1)) ∧ ∀ i, n + 1 ≤ i → mulF x P i = 0 := by
  have hv : vals (polL n P) = P := by funext i; exact vals_polL_out h0
  have hB : ∀ t, 2 ≤ t → vals b t = 0 := fun t ht => vals_out (by omega)
  have hbz : ∀ t, SzQ (vals b t) k := fun t => hb.vals hk
  have z0 : ∀ m, SzQ 0 (m + k) := fun m => SzQ.zero.mono (by omega)
  have hS : ∀ i t, SzQ (PS P (vals b) i t) (2 * j + 2 * k + 1) := fun i t => by
    rw [PS_lin hB]
    have s1 : SzQ (if t < i then P t * vals b 0 else 0) (j + k) := by
      split
      · exact (hP t).mul (hbz 0)
      · exact z0 j
    have s2 : SzQ (if 1 ≤ t ∧ t - 1 < i then P (t - 1) * vals b 1 else 0) (j + k) := by
      split
      · exact (hP (t - 1)).mul (hbz 1)
      · exact z0 j
    exact (s1.add s2).mono (by omega)
  have hM := poly_Mul_ok (a := polL n P) (b := b) (LSz.polL (by omega) fun i _ => hP i) hb hj hk hj2 hk2 (s := 2 * j + 2 * k + 1) (by omega) (by rw [hv]; exact hS)
  rw [hv] at hM
  obtain ⟨la, ela⟩ : ∃ la, la = topN P (polL n P).length := ⟨_, rfl⟩
  obtain ⟨lb, elb⟩ : ∃ lb, lb = topN (vals b) b.length := ⟨_, rfl⟩
  have hla : la ≤ n := by rw [ela]; exact Nat.le_trans (topN_le _ _) (by rw [polL_len]; exact topN_le _ _)
  have zA : ∀ t, la ≤ t → P t = 0 := fun t ht => by
    by_cases h : t < (polL n P).length
    · exact topN_zero (by omega) h
    · rw [← hv]; exact vals_out (by omega)
  have zB : ∀ t, lb ≤ t → vals b t = 0 := fun t ht => by
    by_cases h : t < b.length
    · exact topN_zero (by omega) h
    · exact vals_out (by omega)
  have hlb : lb ≤ 2 := by rw [elb]; exact Nat.le_trans (topN_le _ _) b2
  have hPS : ∀ t, PS P (vals b) la t = mulF x P t := fun t => by
    rw [PS_lin hB, mulF, b0, b1]
    congr 1
    · split
      · rw [Rat.mul_comm]
      · rw [zA t (by omega), Rat.mul_zero]
    · by_cases h : t = 0
      · rw [if_neg (by omega), if_pos h]
      · rw [if_neg h]
        by_cases h2 : t - 1 < la
        · rw [if_pos (by omega), Rat.mul_comm]
        · rw [if_neg (by omega), zA _ (by omega), Rat.mul_zero]
  have hz : ∀ i, n + 1 ≤ i → mulF x P i = 0 := fun i hi => by
    rw [mulF, h0 i (by omega), if_neg (by omega), h0 (i - 1) (by omega), Rat.mul_zero, Rat.mul_zero, Rat.add_zero]
  refine ⟨?_, fun i => by rw [← hPS]; exact hS la i, hz⟩
  rw [hM, ← ela, ← elb]
  congr 1
  have e1 : PS P (vals b) la = mulF x P := by funext t; exact hPS t
  rw [e1]
  symm
  have hz2 : ∀ i, la + lb - 1 ≤ i → mulF x P i = 0 := fun i hi => by
    by_cases hlb0 : lb = 0
    · rw [mulF, ← b0, ← b1, zB 0 (by omega), zB 1 (by omega)]
      split <;> simp [Rat.zero_mul, Rat.add_zero]
    · by_cases hlb1 : lb = 1
      · rw [mulF, ← b1, zB 1 (by omega), zA i (by omega)]
        split <;> simp [Rat.zero_mul, Rat.mul_zero, Rat.add_zero]
      · rw [mulF, zA i (by omega)]
        split
        · simp [Rat.mul_zero, Rat.add_zero]
        · rw [zA (i - 1) (by omega), Rat.mul_zero, Rat.mul_zero, Rat.add_zero]
  by_cases hle : la + lb - 1 ≤ n + 1
  · exact polL_ext hz2 hle
  · exact (polL_ext hz (by omega)).symm
end Go.Proofs.YtaonkcmflkmncaaDoor.X


/- Leaves' polynomials: LinearLeaves. -/
namespace Go.Proofs.YtaonkcmflkmncaaDoor.X
open Go
set_option linter.unusedVariables false
set_option linter.unusedSimpArgs false

/-- The coefficients of a product of linear factors. -/
def polF : List BA → Nat → Rat
  | [] => fun k => if k = 0 then 1 else 0
  | x :: L => mulF x (polF L)
theorem polF_EE (L : List BA) : ∀ k, polF L k = EE L fun j => if j = k then 1 else 0 := by
  induction L with
  | nil => intro k; show (if k = 0 then (1 : Rat) else 0) = if 0 = k then 1 else 0
           by_cases h : k = 0
           · subst h; rfl
           · rw [if_neg h, if_neg (fun e => h e.symm)]
  | cons x L ih =>
    intro k
    show mulF x (polF L) k = _
    rw [mulF, EE, ih]
    congr 1
    by_cases h : k = 0
    · subst h
      rw [if_pos rfl]
      have : EE L (fun j => if j + 1 = 0 then (1 : Rat) else 0) = EE L fun j => 0 * 0 := EE_congr fun j _ => by rw [if_neg (by omega), Rat.mul_zero]
      rw [this, EE_mul, Rat.zero_mul, Rat.mul_zero]
    · rw [if_neg h, ih]
      congr 1
      refine EE_congr fun j _ => ?_
      by_cases e : j = k - 1
      · rw [if_pos e, if_pos (by omega)]
      · rw [if_neg e, if_neg (by omega)]
theorem polF_out (L : List BA) : ∀ k, L.length + 1 ≤ k → polF L k = 0 := by
  induction L with
  | nil => intro k h; exact if_neg (by simp at h; omega)
  | cons x L ih =>
    intro k h
    simp only [List.length_cons] at h
    show mulF x (polF L) k = 0
    rw [mulF, ih k (by omega), if_neg (by omega), ih (k - 1) (by omega), Rat.mul_zero, Rat.mul_zero, Rat.add_zero]
def baP (p : PART) : BA := (rv p.2.1, one0 p.2.2)
/-- Parts whose shares are small. -/
def PaSz (l : List PART) (k : Nat) : Prop := l.length ≤ 16 ∧ ∀ p ∈ l, SzR p.2.1 k
theorem factor_ok {p : PART} {k : Nat} (h : SzR p.2.1 k) (hk : 0 < k) : ∃ b, linear_factor p = some b ∧ LSz b k ∧ b.length ≤ 2 ∧ vals b 0 = (baP p).1 ∧ vals b 1 = (baP p).2 ∧ b = (if p.2.2 then [p.2.1, canQ 1] else [p.2.1]) := by
  unfold linear_factor baP
  cases hb : p.2.2 with
  | true =>
    refine ⟨[p.2.1, canQ 1], by rw [cond_true, ratio_One_ok]; rfl, ⟨by simp, fun x hx => ?_⟩, by simp, rfl, ?_, rfl⟩
    · simp only [List.mem_cons, List.not_mem_nil, or_false] at hx
      rcases hx with rfl | rfl
      · exact h
      · exact (SzQ.one.mono hk).szR
    · show rv (canQ 1) = one0 true
      rw [rv_canQ]; rfl
  | false =>
    refine ⟨[p.2.1], rfl, ⟨by simp, fun x hx => ?_⟩, by simp, rfl, rv_raw0, rfl⟩
    simp only [List.mem_cons, List.not_mem_nil, or_false] at hx
    subst hx; exact h
def lfac (l : List PART) : List BA := (l.map baP).reverse
theorem lfac_step {l : List PART} {i : Nat} (h : i < l.length) : lfac (l.take (i + 1)) = baP l[i] :: lfac (l.take i) := by
  rw [lfac, List.take_succ_eq_append_getElem h, List.map_append, List.reverse_append]; rfl
theorem lfac_len (l : List PART) : (lfac l).length = l.length := by simp [lfac]
/-- A leaf's polynomial. -/
theorem Leaf_ok {l : LEG} {k : Nat} (h : PaSz l.2.2 k) (hk : 0 < k) (hk2 : k ≤ 200) : linear_Leaf l = some (polL (l.2.2.length + 1) (polF (lfac l.2.2))) ∧ ∀ t, SzQ (polF (lfac l.2.2) t) (65536 * (2 * k + 2)) := by
  obtain ⟨ps, eps⟩ : ∃ ps, ps = l.2.2 := ⟨_, rfl⟩
  rw [← eps] at h ⊢
  have h16 := h.1
  -- sizes: each factor doubles
  obtain ⟨s, hs⟩ : ∃ s : Nat → Nat, s = fun i => 2 ^ i * (2 * k + 2) - (2 * k + 1) := ⟨_, rfl⟩
  have hs0 : s 0 = 1 := by rw [hs]; show 2 ^ 0 * (2 * k + 2) - (2 * k + 1) = 1; omega
  have hs1 : ∀ i, s (i + 1) = 2 * s i + 2 * k + 1 := fun i => by
    rw [hs]
    show 2 ^ (i + 1) * (2 * k + 2) - (2 * k + 1) = 2 * (2 ^ i * (2 * k + 2) - (2 * k + 1)) + 2 * k + 1
    have hp : 1 ≤ 2 ^ i := Nat.one_le_two_pow
    obtain ⟨x, hx⟩ : ∃ x, x = 2 ^ i * (2 * k + 2) := ⟨_, rfl⟩
    have hx2 : 2 ^ (i + 1) * (2 * k + 2) = 2 * x := by rw [hx, Nat.pow_succ, Nat.mul_comm (2 ^ i) 2, Nat.mul_assoc]
    have hx3 : 2 * k + 2 ≤ x := by have := Nat.mul_le_mul_right (2 * k + 2) hp; omega
    rw [hx2, ← hx]; omega
  have hsl : ∀ i, i ≤ 16 → s i ≤ 65536 * (2 * k + 2) := fun i hi => by
    have hp : 2 ^ i ≤ 65536 := Nat.pow_le_pow_right (n := 2) (by decide) hi
    have := Nat.mul_le_mul_right (2 * k + 2) hp
    rw [hs]
    show 2 ^ i * (2 * k + 2) - (2 * k + 1) ≤ _
    omega
  have main : ∀ i, i ≤ ps.length → ∀ t, SzQ (polF (lfac (ps.take i)) t) (s i) := by
    intro i
    induction i with
    | zero =>
      intro _ t
      rw [hs0]
      show SzQ (if t = 0 then 1 else 0) 1
      split
      · exact SzQ.one
      · exact SzQ.zero
    | succ i ih =>
      intro hi
      obtain ⟨b, _, b2, b3, b4, b5, _⟩ := factor_ok (h.2 _ (List.getElem_mem (show i < ps.length by omega))) hk
      have := (mul_lin (n := i + 1) (P := polF (lfac (ps.take i))) (b := b) (x := baP ps[i]) (by omega) (ih (by omega)) (fun t ht => polF_out _ _ (by rw [lfac_len, List.length_take]; omega)) b2 (by
        have : 1 ≤ s i := by
          cases i with
          | zero => omega
          | succ i => have := hs1 i; omega
        omega) hk (by have := hsl i (by omega); omega) (by omega) b4 b5 b3).2.1
      intro t
      rw [lfac_step (by omega), hs1]
      exact this t
  have key := lp_up (step := linear_Leaf_s3) (fun i => ((polL (i + 1) (polF (lfac (ps.take i))), ps, (ps.length : Int), (i : Int), ()), ())) ps.length (r := ((polL (ps.length + 1) (polF (lfac ps)), ()), ())) (by omega) (by
    intro g i hi
    have d0 : (i : Int) < (ps.length : Int) := by omega
    obtain ⟨b, b1, b2, b3, b4, b5, _⟩ := factor_ok (h.2 _ (List.getElem_mem hi)) hk
    have hm := (mul_lin (n := i + 1) (P := polF (lfac (ps.take i))) (b := b) (x := baP ps[i]) (by omega) (main i (by omega)) (fun t ht => polF_out _ _ (by rw [lfac_len, List.length_take]; omega)) b2 (by
        have : 1 ≤ s i := by
          cases i with
          | zero => omega
          | succ i => have := hs1 i; omega
        omega) hk (by have := hsl i (by omega); omega) (by omega) b4 b5 b3).1
    rw [linear_Leaf_s3, cnd d0, cnd (by omega), Int.toNat_natCast, List.getElem?_eq_getElem hi, Option.bind_some, b1, Option.bind_some, hm, Option.bind_some, iadd1 (by omega), lfac_step hi]
    rfl) (by
    intro g
    rw [linear_Leaf_s3, cnd' (by omega), List.take_of_length_le (Nat.le_refl _)])
  have e0 : polL (0 + 1) (polF (lfac (ps.take 0))) = [canQ 1] := by
    have : topN (polF (lfac (ps.take 0))) 1 = 1 := topN_full (n := 0) (by show (if 0 = 0 then (1 : Rat) else 0) ≠ 0; decide)
    rw [polL, this]; rfl
  rw [e0] at key
  have key : lp linear_Leaf_s3 K0 (([canQ 1], ps, (ps.length : Int), 0, ()), ()) = _ := key
  refine ⟨?_, fun t => ?_⟩
  · rw [linear_Leaf, ratio_One_ok, Option.bind_some, ← eps, key]; rfl
  · have := main ps.length (Nat.le_refl _) t
    rw [List.take_of_length_le (Nat.le_refl _)] at this
    exact this.mono (hsl _ h16)
end Go.Proofs.YtaonkcmflkmncaaDoor.X


/- Sums over sets of parts; LinearLeaves. -/
namespace Go.Proofs.YtaonkcmflkmncaaDoor.X
open Go
set_option linter.unusedVariables false
set_option linter.unusedSimpArgs false

theorem in16_ok {S f : Nat} (hS : S < 9223372036854775808) (hf : f ≤ 1000000) : dendronlaw16_in (S : Int) (f : Int) = some (S.testBit f) := by
  have key := lp_up (step := dendronlaw16_in_s2) (fun i => ((((S / 2 ^ i : Nat) : Int), (f : Int), (i : Int), ()), ())) f (r := ((((S / 2 ^ f : Nat) : Int), ()), ())) (by omega) (by
    intro g i hi
    have d0 : (i : Int) < (f : Int) := by omega
    have hd : (S / 2 ^ i : Nat) < 9223372036854775808 := Nat.lt_of_le_of_lt (Nat.div_le_self _ _) hS
    have hq : iquo .i64 ((S / 2 ^ i : Nat) : Int) 2 = ((S / 2 ^ (i + 1) : Nat) : Int) := by
      obtain ⟨x, hx⟩ : ∃ x, x = S / 2 ^ i := ⟨_, rfl⟩
      rw [Nat.pow_succ, ← Nat.div_div_eq_div_mul, ← hx]
      rw [← hx] at hd
      rw [iquo_i (by omega) (by omega) (by omega)]; omega
    rw [dendronlaw16_in_s2, cnd d0, hq, iadd1 (by omega)]
    rfl) (by
    intro g
    rw [dendronlaw16_in_s2, cnd' (by omega)])
  have e0 : ((S / 2 ^ 0 : Nat) : Int) = (S : Int) := by simp
  rw [e0] at key
  have key : lp dendronlaw16_in_s2 K0 (((S : Int), (f : Int), 0, ()), ()) = _ := key
  rw [dendronlaw16_in, key, Option.bind_some]
  dsimp only
  congr 1
  have := testBit_div S f
  obtain ⟨x, hx⟩ : ∃ x, x = S / 2 ^ f := ⟨_, rfl⟩
  rw [← hx] at this ⊢
  rw [irem_n (by omega)]
  cases hb : S.testBit f with
  | true => rw [hb] at this; have := this.2 rfl; exact decide_eq_true (by omega)
  | false => rw [hb] at this; exact decide_eq_false (fun e => by have := this.1 (by omega); exact absurd this (by decide))

/-- What comes through where a set is known. -/
def thro (ps : List PART) (S : Nat) (n : Nat) : Rat := rprod (fun j => pick (baP ((ps[j]?).getD (0, raw0, false))) (S.testBit j)) n
theorem thro_sz {ps : List PART} {k S n : Nat} (h : PaSz ps k) (hk : 0 < k) (hn : n ≤ ps.length) : SzQ (thro ps S n) (1 + n * k) := by
  refine rprod_sz fun j hj => ?_
  have hj' : j < ps.length := by omega
  rw [List.getElem?_eq_getElem hj', Option.getD_some]
  unfold pick baP
  split
  · show SzQ (one0 _) k
    unfold one0
    split
    · exact SzQ.one.mono hk
    · exact SzQ.zero.mono (by omega)
  · exact (h.2 _ (List.getElem_mem hj')).szQ hk
theorem sums16_ok {ps : List PART} {k : Nat} (h : PaSz ps k) (hk : 0 < k) (hk2 : k ≤ 200) (h6 : ps.length ≤ 6) :
    ∃ L, dendronlaw16_sums ps = some L ∧ LSz L 1000000 ∧ ∀ t, vals L t = polF (lfac ps) t := by
  obtain ⟨n, hn⟩ : ∃ n, n = ps.length := ⟨_, rfl⟩
  have hp6 : 2 ^ n ≤ 2 ^ 6 := Nat.pow_le_pow_right (by decide) (by omega)
  have hp6 : 2 ^ n ≤ 64 := hp6
  have k1 := lp_up (step := dendronlaw16_sums_s4) (fun i => ((ps, (n : Int), ((2 ^ i : Nat) : Int), (i : Int), ()), ())) n (r := ((ps, (n : Int), ((2 ^ n : Nat) : Int), ()), ())) (by omega) (by
    intro g i hi
    have d0 : (i : Int) < (n : Int) := by omega
    have hpi : 2 ^ i ≤ 2 ^ 6 := Nat.pow_le_pow_right (by decide) (by omega)
    have em : imul .i64 2 ((2 ^ i : Nat) : Int) = ((2 ^ (i + 1) : Nat) : Int) := by
      obtain ⟨x, hx⟩ : ∃ x, x = 2 ^ i := ⟨_, rfl⟩
      have : 2 ^ (i + 1) = 2 * x := by rw [hx, Nat.pow_succ]; omega
      rw [← hx] at hpi
      rw [this, ← hx, imul_i] <;> omega
    rw [dendronlaw16_sums_s4, cnd d0, em, iadd1 (by omega)]
    rfl) (by
    intro g
    rw [dendronlaw16_sums_s4, cnd' (by omega)])
  have k1 : lp dendronlaw16_sums_s4 K0 ((ps, (n : Int), 1, 0, ()), ()) = _ := k1
  obtain ⟨N, hN⟩ : ∃ N, N = 2 ^ n := ⟨_, rfl⟩
  rw [← hN] at k1 hp6
  have tz : ∀ S m, m ≤ n → SzQ (thro ps S m) 1201 := fun S m hm => (thro_sz h hk (by omega)).mono (by
    have := Nat.mul_le_mul (show m ≤ 6 by omega) hk2; omega)
  obtain ⟨W, hW⟩ : ∃ W : Nat → Nat → Rat, W = fun S t => rsum (fun S => (if popc n S = t then 1 else 0) * thro ps S n) S := ⟨_, rfl⟩
  have wz : ∀ S t, S ≤ N → SzQ (W S t) 100000 := fun S t hS => by
    have := rsum_sz (f := fun S => (if popc n S = t then (1 : Rat) else 0) * thro ps S n) (k := 1202) (n := S) (fun j _ => by
      have : SzQ (if popc n j = t then (1 : Rat) else 0) 1 := by
        split
        · exact SzQ.one
        · exact SzQ.zero
      exact (this.mul (tz j n (Nat.le_refl _))).mono (by decide))
    rw [hW]
    exact this.mono (by have := Nat.mul_le_mul_right 1203 (show S ≤ 64 by omega); omega)
  obtain ⟨r, ⟨L, hr, l1, l2, l3⟩, e⟩ := lp_inv (step := dendronlaw16_sums_s9)
    (fun S v => ∃ L : List RAT, v = ((ps, (n : Int), (N : Int), L, (S : Int), ()), ()) ∧ L.length = n + 1 ∧ LSz L 100000 ∧ ∀ t, t ≤ n → vals L t = W S t)
    (fun r => ∃ L : List RAT, r = ((L, ()), ()) ∧ L.length = n + 1 ∧ LSz L 100000 ∧ ∀ t, t ≤ n → vals L t = W N t) N
    (v := ((ps, (n : Int), (N : Int), List.replicate (n + 1) (((false, []), []) : RAT), 0, ()), ()))
    ⟨List.replicate (n + 1) raw0, rfl, by simp, ⟨by simp; omega, fun x hx => by rw [List.mem_replicate] at hx; rw [hx.2]; exact ⟨by decide, by decide⟩⟩, fun t ht => by
      rw [vals_get (by simp; omega), List.getElem_replicate, rv_raw0, hW]; rfl⟩ (by omega) (by
    rintro S v hS ⟨L, rfl, l1, l2, l3⟩
    have d0 : (S : Int) < (N : Int) := by omega
    have k3 := lp_up (step := dendronlaw16_sums_s14) (fun i => ((ps, (n : Int), (N : Int), L, (S : Int), ((popc i S : Nat) : Int), (i : Int), ()), (((canQ (thro ps S i)).1.1, (canQ (thro ps S i)).1.2, (canQ (thro ps S i)).2, ()), ()))) n (r := ((ps, (n : Int), (N : Int), L, (S : Int), ((popc n S : Nat) : Int), ()), (((canQ (thro ps S n)).1.1, (canQ (thro ps S n)).1.2, (canQ (thro ps S n)).2, ()), ()))) (by omega) (by
      intro g i hi
      have e0 : (i : Int) < (n : Int) := by omega
      have hi' : i < ps.length := by omega
      have hp := popc_le i S
      have i1 : iadd .i64 (i : Int) 1 = (i : Int) + 1 := iadd1 (by omega)
      have i2 : iadd .i64 ((popc i S : Nat) : Int) 1 = ((popc i S : Nat) : Int) + 1 := iadd1 (by omega)
      have et : thro ps S (i + 1) = thro ps S i * pick (baP ps[i]) (S.testBit i) := by
        show _ * pick (baP ((ps[i]?).getD (0, raw0, false))) (S.testBit i) = _
        rw [List.getElem?_eq_getElem hi', Option.getD_some]; rfl
      have hz := h.2 _ (List.getElem_mem hi')
      rw [dendronlaw16_sums_s14, cnd e0, in16_ok (by omega) (by omega), Option.bind_some, i1, i2]
      cases hb : S.testBit i with
      | false =>
        have hm := ratio_Mul_ok ((tz S i (by omega)).sm (by decide)) (hz.sm (by omega))
        rw [rv_canQ] at hm
        rw [hb] at et
        have et : thro ps S (i + 1) = thro ps S i * rv ps[i].2.1 := et
        have ep : popc (i + 1) S = popc i S := by rw [popc, hb, if_neg (by decide)]; rfl
        rw [Bool.not_false, cond_true, cnd (by omega), Int.toNat_natCast, List.getElem?_eq_getElem hi', Option.bind_some]
        show (ratio_Mul (canQ (thro ps S i)) ps[i].2.1).bind _ = _
        rw [hm, Option.bind_some, et, ep]
        rfl
      | true =>
        rw [hb] at et
        have et : thro ps S (i + 1) = thro ps S i * one0 ps[i].2.2 := et
        have ep : popc (i + 1) S = popc i S + 1 := by rw [popc, hb, if_pos rfl]
        rw [Bool.not_true, cond_false, cnd (by omega), Int.toNat_natCast, List.getElem?_eq_getElem hi', Option.bind_some, ep, et]
        cases hk : ps[i].2.2 with
        | false =>
          have : thro ps S i * one0 false = 0 := Rat.mul_zero _
          rw [Bool.not_false, cond_true, ratio_Zero_ok, Option.bind_some, this]; rfl
        | true =>
          have : thro ps S i * one0 true = thro ps S i := Rat.mul_one _
          rw [Bool.not_true, cond_false, this]; rfl) (by
      intro g
      rw [dendronlaw16_sums_s14, cnd' (by omega)])
    have k3 : lp dendronlaw16_sums_s14 K0 ((ps, (n : Int), (N : Int), L, (S : Int), 0, 0, ()), (((canQ 1).1.1, (canQ 1).1.2, (canQ 1).2, ()), ())) = _ := k3
    have hpn := popc_le n S
    obtain ⟨p, hp⟩ : ∃ p, p = popc n S := ⟨_, rfl⟩
    rw [← hp] at k3 hpn
    have hpl : p < L.length := by omega
    have hx := l2.2 _ (List.getElem_mem hpl)
    have ha := ratio_Add_ok (hx.sm (by decide)) ((tz S n (Nat.le_refl _)).sm (by decide))
    rw [rv_canQ] at ha
    have hv : rv L[p] = W S p := by rw [← vals_get hpl, l3 p hpn]
    rw [hv] at ha
    have hWs : ∀ t, W (S + 1) t = W S t + (if p = t then 1 else 0) * thro ps S n := fun t => by rw [hW, hp]; rfl
    refine ⟨_, ⟨L.set p (canQ (W S p + thro ps S n)), rfl, by rw [List.length_set]; exact l1, ⟨by rw [List.length_set]; omega, fun x hx => ?_⟩, fun t ht => ?_⟩, fun g => ?_⟩
    · rcases List.mem_or_eq_of_mem_set hx with hx | rfl
      · exact l2.2 x hx
      · have := wz (S + 1) p (by omega)
        rw [hWs, if_pos rfl, Rat.one_mul] at this
        exact this.szR
    · rw [hWs]
      unfold vals
      rw [List.getElem?_set]
      by_cases e : p = t
      · subst e
        rw [if_pos rfl, if_pos hpl, Option.getD_some, rv_canQ, if_pos rfl, Rat.one_mul]
      · rw [if_neg e, if_neg e, Rat.zero_mul, Rat.add_zero]
        exact l3 t ht
    · rw [dendronlaw16_sums_s9, cnd d0, ratio_One_ok, Option.bind_some, k3, Option.bind_some]
      dsimp only
      rw [cnd2 (by omega) (by omega), Int.toNat_natCast, List.getElem?_eq_getElem hpl, Option.bind_some]
      show (ratio_Add L[p] (canQ (thro ps S n))).bind _ = _
      rw [ha, Option.bind_some, cnd2 (by omega) (by omega), Option.bind_some, iadd1 (by omega)]
      rfl) (by
    rintro v ⟨L, rfl, l1, l2, l3⟩
    refine ⟨_, ⟨L, rfl, l1, l2, l3⟩, fun g => ?_⟩
    rw [dendronlaw16_sums_s9, cnd' (by omega)])
  have i1 : iadd .i64 (n : Int) 1 = ((n + 1 : Nat) : Int) := iadd1 (by omega)
  have c1 : (decide (((n + 1 : Nat) : Int) = ((n + 1 : Nat) : Int)) && decide (0 ≤ ((n + 1 : Nat) : Int)) && decide (((56 : Nat) : Int) * ((n + 1 : Nat) : Int) ≤ 281474976710656) && decide (((n + 1 : Nat) : Int) ≤ 9223372036854775807)) = true := by
    rw [decide_eq_true rfl, decide_eq_true (by omega), decide_eq_true (by omega), decide_eq_true (by omega)]; rfl
  refine ⟨L, ?_, ⟨l2.1, fun x hx => ⟨Nat.le_trans (l2.2 x hx).1 (by decide), Nat.le_trans (l2.2 x hx).2 (by decide)⟩⟩, fun t => ?_⟩
  · rw [dendronlaw16_sums, ← hn, k1, Option.bind_some]
    dsimp only
    rw [i1, c1, cond_true, Int.toNat_natCast, e, hr]; rfl
  · by_cases ht : t ≤ n
    · rw [l3 t ht, hW]
      have hss := sets_sum (fun j => baP ((ps[j]?).getD (0, raw0, false))) n fun j => if j = t then 1 else 0
      have e1 : (List.range n).map (fun j => baP ((ps[j]?).getD (0, raw0, false))) = ps.map baP := by
        apply List.ext_getElem?
        intro j
        by_cases hj : j < n
        · have hj' : j < ps.length := by omega
          simp [hj, hj']
        · rw [List.getElem?_eq_none (by simp; omega), List.getElem?_eq_none (by simp; omega)]
      rw [e1] at hss
      rw [polF_EE, lfac, EE_perm (List.reverse_perm _), ← hss, hN]; rfl
    · rw [vals_out (by omega), polF_out _ _ (by rw [lfac_len]; omega)]

/-! A leg cut small. -/
def cut16P (p : PART) : PART := (p.1, (cutR 3 p.2.1, p.2.2))
theorem leg16_ok (l : LEG) (hl : l.2.2.length ≤ 9223372036854775807) : dendronlaw16_leg l = some (l.1, (((false, []), []), (l.2.2.take 6).map cut16P)) := by
  obtain ⟨ps, eps⟩ : ∃ ps, ps = l.2.2 := ⟨_, rfl⟩
  rw [← eps] at hl ⊢
  have key := lp_up (step := dendronlaw16_leg_s3) (fun i => (((ps.take i).map cut16P, (i : Int), ()), ((l.1, l.2.1.1.1, l.2.1.1.2, l.2.1.2, ps, ()), (0, false, [], [], [], ()), ()))) (min ps.length 6) (r := (((ps.take 6).map cut16P, ()), ((l.1, l.2.1.1.1, l.2.1.1.2, l.2.1.2, ps, ()), (0, false, [], [], [], ()), ()))) (by omega) (by
    intro g i hi
    have hi1 : i < ps.length := by omega
    have hF := Few09_ok [(false, ps[i].2.1)] 1 (by simp) (by decide)
    have hF : dendronlaw09_Few ([(false, ps[i].2.1)] : List CELL) 1 = some [(false, cutR 3 ps[i].2.1)] := hF
    rw [dendronlaw16_leg_s3, cnd (by omega), cnd (by omega), cnd (by omega), Int.toNat_natCast, List.getElem?_eq_getElem hi1, Option.bind_some, hF, Option.bind_some, cnd (by simp)]
    show (bif _ then _ else none) = _
    rw [blt (by simp; omega), cond_true, iadd1 (by omega), List.take_succ_eq_append_getElem hi1, List.map_append]
    rfl) (by
    intro g
    by_cases h : ps.length ≤ 6
    · rw [Nat.min_eq_left h, dendronlaw16_leg_s3, cnd' (by omega), List.take_of_length_le (Nat.le_refl _), List.take_of_length_le h]
    · rw [Nat.min_eq_right (by omega), dendronlaw16_leg_s3, cnd (by omega), cnd' (by omega)])
  have key : lp dendronlaw16_leg_s3 K0 (([], 0, ()), ((l.1, l.2.1.1.1, l.2.1.1.2, l.2.1.2, ps, ()), (0, false, [], [], [], ()), ())) = _ := key
  rw [dendronlaw16_leg, ← eps, key]; rfl
theorem cut16P_sz (l : List PART) : PaSz ((l.take 6).map cut16P) 3 := by
  refine ⟨by simp; omega, fun p hp => ?_⟩
  obtain ⟨x, _, rfl⟩ := List.mem_map.1 hp
  exact cutR_sz 3 _
theorem law16_awake_ok : dendronlaw16_awake = some true := by decide +kernel
theorem LinearLeaves_true (l : LEG) (hl : l.2.2.length ≤ 9223372036854775807) : dendronlaw16_LinearLeaves l = some true := by
  have hz := cut16P_sz l.2.2
  obtain ⟨ps, eps⟩ : ∃ ps, ps = (l.2.2.take 6).map cut16P := ⟨_, rfl⟩
  have h6 : ps.length ≤ 6 := by rw [eps]; simp; omega
  rw [← eps] at hz
  obtain ⟨p1, p2⟩ := Leaf_ok (l := (l.1, (((false, []), []), ps))) hz (by decide) (by decide)
  obtain ⟨L, s1, s2, s3⟩ := sums16_ok hz (by decide) (by decide) h6
  have hS := poly_Same_ok (a := polL (ps.length + 1) (polF (lfac ps))) (b := L) (LSz.polL (by omega) fun i _ => p2 i) s2 (by decide) (by decide) (by decide) (fun t => by
    rw [s3, vals_polL_out (fun k hk => polF_out _ _ (by rw [lfac_len]; omega))])
  rw [dendronlaw16_LinearLeaves, leg16_ok l hl, Option.bind_some, ← eps, p1, Option.bind_some]
  dsimp only
  rw [s1, Option.bind_some, hS, Option.bind_some, law16_awake_ok]
  rfl
end Go.Proofs.YtaonkcmflkmncaaDoor.X

