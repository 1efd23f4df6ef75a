/- Trees: means below nodes, leaves, all nodes. -/
import Derived.Test.YtongppphgbkckaaGreatDoorLa7

namespace Go.Proofs.YtongppphgbkckaaGreatDoor.X
open Go
set_option linter.unusedVariables false
set_option linter.unusedSimpArgs false

/-- What the leaves below a node say on the mean. -/
def mT (t : List NODE) (T : TR) : Rat := expT t [] 0 T
theorem mT_split (t : List NODE) (i : Nat) (l r : TR) : mT t (.split i l r) = (cov t l.top * mT t l + cov t r.top * mT t r) / cov t i := by
  simp only [mT, expT, Nat.zero_testBit]; rw [if_neg (by decide)]
theorem mT_sz {t : List NODE} {f : Int} {T : TR} (hs : TSz t 4) (h : Is t f T) : SzQ (mT t T) (16 * T.size) := expT_sz hs h
def leavesT : TR → List Nat
  | .leaf i => [i]
  | .split _ l r => leavesT l ++ leavesT r
theorem leavesT_len (T : TR) : (leavesT T).length ≤ T.size := by
  induction T with
  | leaf i => simp [leavesT, TR.size]
  | split i l r ihl ihr => simp only [leavesT, TR.size, List.length_append]; omega
theorem leavesT_lt {t : List NODE} {f : Int} {T : TR} (h : Is t f T) : ∀ i ∈ leavesT T, ∃ hi : i < t.length, nLeaf t[i] = true := by
  induction T with
  | leaf i => intro j hj; simp only [leavesT, List.mem_singleton] at hj; subst hj; exact h
  | split i l r ihl ihr =>
    obtain ⟨_, _, _, _, _, _, h2, h3⟩ := h
    intro j hj
    simp only [leavesT, List.mem_append] at hj
    rcases hj with hj | hj
    · exact ihl h2 j hj
    · exact ihr h3 j hj
def lsum : List Rat → Rat
  | [] => 0
  | x :: r => x + lsum r
theorem lsum_append (a b : List Rat) : lsum (a ++ b) = lsum a + lsum b := by
  induction a with
  | nil => simp [lsum, Rat.zero_add]
  | cons x a ih => simp only [List.cons_append, lsum, ih, Rat.add_assoc]
theorem lsum_take_succ {l : List Rat} {i : Nat} (h : i < l.length) : lsum (l.take (i + 1)) = lsum (l.take i) + l[i] := by
  rw [List.take_succ_eq_append_getElem h, lsum_append]; simp [lsum, Rat.add_zero]
theorem lsum_sz {l : List Rat} {k : Nat} (h : ∀ x ∈ l, SzQ x k) : SzQ (lsum l) (1 + l.length * (k + 1)) := by
  induction l with
  | nil => simpa [lsum] using SzQ.zero
  | cons x l ih =>
    have h1 := h x List.mem_cons_self
    have h2 := ih fun y hy => h y (List.mem_cons_of_mem _ hy)
    exact (h1.add h2).mono (by simp only [List.length_cons, Nat.add_mul]; omega)
/-- A leaf's value times its cover. -/
def cvT (t : List NODE) (i : Nat) : Rat := cov t i * rv (nVal (nodeAt t i))
theorem mT_cov {t : List NODE} {f : Int} {T : TR} (hc : ∀ i, i < t.length → cov t i ≠ 0) (h : Is t f T) : mT t T * cov t T.top = lsum ((leavesT T).map (cvT t)) := by
  induction T with
  | leaf i => simp only [leavesT, List.map_cons, List.map_nil, lsum, mT, expT, TR.top, cvT]; grind
  | split i l r ihl ihr =>
    obtain ⟨h1, _, _, _, _, _, h2, h3⟩ := h
    have a := ihl h2
    have b := ihr h3
    have c := hc i h1
    rw [mT_split]
    simp only [leavesT, List.map_append, lsum_append]
    rw [← a, ← b]
    show (cov t l.top * mT t l + cov t r.top * mT t r) / cov t i * cov t i = _
    rw [Rat.div_mul_cancel c, Rat.mul_comm (cov t l.top), Rat.mul_comm (cov t r.top)]
theorem CoversP.ne {t : List NODE} (h : CoversP t) : ∀ i, i < t.length → cov t i ≠ 0 := by
  intro i hi e
  have := h i hi
  rw [cov_get hi] at e
  rw [e] at this
  exact absurd this (by decide)

/-- A tree below one of another's nodes. -/
def InT (U : TR) : TR → Prop
  | .leaf i => U = .leaf i
  | .split i l r => U = .split i l r ∨ InT U l ∨ InT U r
theorem InT.self (T : TR) : InT T T := by cases T <;> simp [InT]
theorem InT.left {U : TR} {T : TR} {i : Nat} {l r : TR} (h : InT (.split i l r) T) : InT l T ∧ InT r T := by
  induction T with
  | leaf j => simp [InT] at h
  | split j a b iha ihb =>
    rcases h with h | h | h
    · injection h with h1 h2 h3; subst h2; subst h3; exact ⟨.inr (.inl (InT.self _)), .inr (.inr (InT.self _))⟩
    · have := iha h; exact ⟨.inr (.inl this.1), .inr (.inl this.2)⟩
    · have := ihb h; exact ⟨.inr (.inr this.1), .inr (.inr this.2)⟩
theorem InT.is {t : List NODE} {f : Int} {U T : TR} (h : InT U T) (hT : Is t f T) : Is t f U := by
  induction T with
  | leaf j => cases h; exact hT
  | split j a b iha ihb =>
    rcases h with h | h | h
    · subst h; exact hT
    · exact iha h hT.2.2.2.2.2.2.1
    · exact ihb h hT.2.2.2.2.2.2.2
theorem InT.deep {U T : TR} (h : InT U T) : U.deep ≤ T.deep := by
  induction T with
  | leaf j => cases h; exact Nat.le_refl _
  | split j a b iha ihb =>
    simp only [TR.deep]
    rcases h with h | h | h
    · subst h; simp only [TR.deep]; omega
    · have := iha h; omega
    · have := ihb h; omega
theorem InT.size {U T : TR} (h : InT U T) : U.size ≤ T.size := by
  induction T with
  | leaf j => cases h; exact Nat.le_refl _
  | split j a b iha ihb =>
    simp only [TR.size]
    rcases h with h | h | h
    · subst h; simp only [TR.size]; omega
    · have := iha h; omega
    · have := ihb h; omega
theorem InT.uniq {t : List NODE} {f : Int} {U U' T : TR} (h : InT U T) (h' : InT U' T) (hT : Is t f T) (e : U.top = U'.top) : U = U' := by
  have h1 := mkT_eq T.deep U (h.is hT) h.deep
  have h2 := mkT_eq T.deep U' (h'.is hT) h'.deep
  rw [← h1, ← h2, e]
/-- All nodes of a tree that may be are reached. -/
theorem Good.reach {m : MODEL} (h : Good m) {i : Nat} (hi : i < m.2.length) : ∀ j, j < m.2[i].length → ∃ U, InT U (X.treeOf m.2[i]) ∧ U.top = j := by
  have hr := h.ranges hi
  obtain ⟨hc, rk, hrk⟩ := h.shape hi
  obtain ⟨g1, g2, _⟩ := h.treeOf hi
  obtain ⟨t, et⟩ : ∃ t, t = m.2[i] := ⟨_, rfl⟩
  rw [← et] at hr hc hrk g1 g2 ⊢
  have key : ∀ (d j : Nat), j < t.length → t.length - rk j ≤ d → ∃ U, InT U (X.treeOf t) ∧ U.top = j := by
    intro d
    induction d with
    | zero =>
      intro j hj hd
      by_cases h0 : j = 0
      · subst h0; exact ⟨_, InT.self _, g2⟩
      · obtain ⟨p, hp, hm⟩ := has_parent hc (by omega) hj
        have h1 := (hrk p hp).1
        have h2 := (hrk p hp).2 j hm
        omega
    | succ d ih =>
      intro j hj hd
      by_cases h0 : j = 0
      · subst h0; exact ⟨_, InT.self _, g2⟩
      · obtain ⟨p, hp, hm⟩ := has_parent hc (by omega) hj
        have h1 := (hrk p hp).1
        have h2 := (hrk p hp).2 j hm
        obtain ⟨U, hU, hUt⟩ := ih p hp (by omega)
        have hI := hU.is g1
        cases U with
        | leaf q =>
          obtain ⟨q1, q2⟩ := hI
          have : q = p := hUt
          subst this
          rw [kids_leaf q1 q2] at hm; cases hm
        | split q l r =>
          obtain ⟨q1, q2, _, _, q3, q4, _, _⟩ := hI
          have : q = p := hUt
          subst this
          rw [kids_split q1 q2, q3, q4] at hm
          simp at hm
          have := hU.left (U := .leaf 0)
          rcases hm with rfl | rfl
          · exact ⟨l, this.1, rfl⟩
          · exact ⟨r, this.2, rfl⟩
  exact fun j hj => key _ j hj (Nat.le_refl _)

/-! The nodes in the order in which they are looked at. -/
def kidsT : TR → List TR
  | .leaf _ => []
  | .split _ l r => [l, r]
def sizes : List TR → Nat
  | [] => 0
  | U :: r => U.size + sizes r
theorem sizes_append (a b : List TR) : sizes (a ++ b) = sizes a + sizes b := by
  induction a with
  | nil => simp [sizes]
  | cons x a ih => simp only [List.cons_append, sizes, ih]; omega
theorem sizes_kids (U : TR) : U.size = 1 + sizes (kidsT U) := by cases U <;> simp [kidsT, sizes, TR.size]; omega
/-- A list of trees, the first so many of which have their children behind them. -/
structure Down (T : TR) (L : List TR) (n : Nat) : Prop where
  le : n ≤ L.length
  all : ∀ U ∈ L, InT U T
  kid : ∀ p (h : p < L.length), p < n → ∀ c ∈ kidsT L[p], ∃ q, ∃ hq : q < L.length, p < q ∧ L[q] = c
  top : T ∈ L
  size : n + sizes (L.drop n) = T.size
theorem Down.init (T : TR) : Down T [T] 0 := ⟨by simp, by simp [InT.self], by intro p h hp; omega, by simp, by simp [sizes]⟩
theorem Down.step {T : TR} {L : List TR} {n : Nat} (h : Down T L n) (hn : n < L.length) : Down T (L ++ kidsT L[n]) (n + 1) := by
  have hm : L[n] ∈ L := List.getElem_mem hn
  refine ⟨by simp; omega, fun U hU => ?_, fun p hp hpn c hc => ?_, by simp [h.top], ?_⟩
  · rcases List.mem_append.1 hU with hU | hU
    · exact h.all U hU
    · have hi := h.all _ hm
      cases e : L[n] with
      | leaf j => rw [e] at hU; simp [kidsT] at hU
      | split j l r =>
        rw [e] at hU hi
        simp [kidsT] at hU
        have := hi.left (U := .leaf 0)
        rcases hU with rfl | rfl
        · exact this.1
        · exact this.2
  · have hpL : p < L.length := by omega
    rw [List.getElem_append_left hpL] at hc
    by_cases e : p = n
    · subst e
      obtain ⟨q, hq, rfl⟩ := List.getElem_of_mem hc
      exact ⟨L.length + q, by simp; omega, by omega, by rw [List.getElem_append_right (by omega)]; simp⟩
    · obtain ⟨q, hq, h1, h2⟩ := h.kid p hpL (by omega) c hc
      exact ⟨q, by simp; omega, h1, by rw [List.getElem_append_left hq]; exact h2⟩
  · have h1 := h.size
    rw [List.drop_eq_getElem_cons hn] at h1
    simp only [sizes] at h1
    rw [sizes_kids L[n]] at h1
    rw [List.drop_append_of_le_length (by omega), sizes_append]
    omega
theorem Down.len {T : TR} {L : List TR} {n : Nat} (h : Down T L n) : n ≤ T.size := by have := h.size; omega
theorem sizes_len (L : List TR) : L.length ≤ sizes L := by
  induction L with
  | nil => simp [sizes]
  | cons x L ih =>
    have : 0 < x.size := by cases x <;> simp [TR.size] <;> omega
    simp only [List.length_cons, sizes]; omega
theorem Down.llen {T : TR} {L : List TR} {n : Nat} (h : Down T L n) : L.length ≤ T.size := by
  have h1 := h.size
  have h2 := sizes_len (L.drop n)
  have h3 := h.le
  simp only [List.length_drop] at h2
  omega
theorem Down.has {T : TR} {L : List TR} (h : Down T L L.length) : ∀ U, InT U T → U ∈ L := by
  have key : ∀ A, A ∈ L → ∀ U, InT U A → U ∈ L := by
    intro A
    induction A with
    | leaf i => intro hA U hU; cases hU; exact hA
    | split i l r ihl ihr =>
      intro hA U hU
      obtain ⟨p, hp, e⟩ := List.getElem_of_mem hA
      have hk := h.kid p hp hp
      rw [e] at hk
      obtain ⟨q1, hq1, _, e1⟩ := hk l (by simp [kidsT])
      obtain ⟨q2, hq2, _, e2⟩ := hk r (by simp [kidsT])
      rcases hU with hU | hU | hU
      · subst hU; exact hA
      · exact ihl (e1 ▸ List.getElem_mem hq1) U hU
      · exact ihr (e2 ▸ List.getElem_mem hq2) U hU
  exact key T h.top
end Go.Proofs.YtongppphgbkckaaGreatDoor.X


/- Expect: ExpectNodes. -/
namespace Go.Proofs.YtongppphgbkckaaGreatDoor.X
open Go
set_option linter.unusedVariables false
set_option linter.unusedSimpArgs false

def tops (L : List TR) : List Int := ints (L.map TR.top)
theorem tops_len (L : List TR) : (tops L).length = L.length := by simp [tops, ints]
theorem tops_get {L : List TR} {n : Nat} (h : n < L.length) : (tops L)[n]? = some ((L[n].top : Nat) : Int) := by
  have := ints_get (o := L.map TR.top) (i := n) (by simpa using h)
  rw [tops, this]; simp
theorem tops_append (a b : List TR) : tops (a ++ b) = tops a ++ tops b := by simp [tops, ints]

theorem down_ok {t : List NODE} {f : Int} {T : TR} (h : Is t f T) (h0 : T.top = 0) (hz : T.size ≤ 1000000) :
    ∃ L, Down T L L.length ∧ expect_down t = some (tops L) := by
  obtain ⟨r, ⟨L, hL, rfl⟩, hlp⟩ := lp_wf (step := expect_down_s3) (fun s => ∃ L : List TR, ∃ n : Nat, Down T L n ∧ s = ((t, tops L, (n : Int), ()), ())) (fun s => T.size - s.1.2.2.1.toNat)
    (fun r => ∃ L, Down T L L.length ∧ r = ((tops L, ()), ())) (v := ((t, [0], 0, ()), ())) ⟨[T], 0, Down.init T, by simp [tops, ints, h0]⟩ (by simp; omega) (by
      rintro s ⟨L, n, hD, rfl⟩
      have hll := hD.llen
      have hle := hD.le
      have d1 : (0 : Int) ≤ (n : Int) := by omega
      have tl := tops_len L
      by_cases hn : n < L.length
      · have hst := hD.step hn
        have hns := hst.len
        have d0 : (n : Int) < ((tops L).length : Int) := by omega
        have hI := (hD.all _ (List.getElem_mem hn)).is h
        refine .inr ⟨((t, tops (L ++ kidsT L[n]), ((n + 1 : Nat) : Int), ()), ()), ⟨_, _, hst, rfl⟩, ?_, fun g => ?_⟩
        · simp only [Int.toNat_natCast]; omega
        · rw [expect_down_s3, cnd d0, cnd2 d1 d0, Int.toNat_natCast, tops_get hn, Option.bind_some, cnd (by omega), Int.toNat_natCast]
          cases e : L[n] with
          | leaf i =>
            rw [e] at hI
            obtain ⟨h1, h2⟩ := hI
            rw [show (TR.leaf i).top = i from rfl, List.getElem?_eq_getElem h1, Option.bind_some, show t[i].1 = true from h2, Bool.not_true, cond_false, iadd1 (by omega)]
            simp only [kidsT, List.append_nil]
            rfl
          | split i l r =>
            rw [e] at hI
            obtain ⟨h1, h2, f0, f1, h3, h4, h5, h6⟩ := hI
            rw [show (TR.split i l r).top = i from rfl, List.getElem?_eq_getElem h1, Option.bind_some, show (!t[i].1) = true by rw [show t[i].1 = false from h2]; rfl, cond_true, blt (by omega), cond_true, show t[i].2.2.2.1 = _ from h3, show t[i].2.2.2.2.1 = _ from h4, iadd1 (by omega), tops_append]
            rfl
      · have e : n = L.length := by omega
        subst e
        refine .inl ⟨_, ⟨L, hD, rfl⟩, fun g => ?_⟩
        rw [expect_down_s3, cnd' (by omega)])
  exact ⟨L, hL, by rw [expect_down, hlp, Option.bind_some]⟩

def meansL (t : List NODE) (T : TR) (out : List RAT) : Prop := out.length = t.length ∧ ∀ U, InT U T → out[U.top]? = some (canQ (mT t U))

theorem nodes_lp {t : List NODE} {f : Int} {T : TR} {L : List TR} (hs : TSz t 4) (hcov : CoversP t) (h : Is t f T) (hD : Down T L L.length) (hz : T.size ≤ 1000000) :
    ∃ out, meansL t T out ∧ lp expect_Nodes_s6 K0 ((t, List.replicate t.length zR, tops L, (L.length : Int) - 1, ()), ()) = some ((out, ()), ()) := by
  have hll := hD.llen
  obtain ⟨r, ⟨out, ho, rfl⟩, hlp⟩ := lp_inv (step := expect_Nodes_s6)
    (fun k s => ∃ out : List RAT, out.length = t.length ∧ (∀ p (hp : p < L.length), L.length ≤ p + k → out[L[p].top]? = some (canQ (mT t L[p]))) ∧ s = ((t, out, tops L, (L.length : Int) - 1 - (k : Int), ()), ()))
    (fun r => ∃ out, meansL t T out ∧ r = ((out, ()), ())) L.length (v := ((t, List.replicate t.length zR, tops L, (L.length : Int) - 1, ()), ()))
    ⟨List.replicate t.length zR, List.length_replicate .., fun p hp hk => by omega, by simp⟩ (by omega) (by
      rintro k s hk ⟨out, hol, hout, rfl⟩
      obtain ⟨p, hp⟩ : ∃ p, p = L.length - 1 - k := ⟨_, rfl⟩
      have hpl : p < L.length := by omega
      have ep : (L.length : Int) - 1 - (k : Int) = (p : Int) := by omega
      have hIn := hD.all _ (List.getElem_mem hpl)
      have hI := hIn.is h
      have hsz := hIn.size
      have htop := hI.top_lt
      have d1 : (0 : Int) ≤ (p : Int) := by omega
      have tl := tops_len L
      have d0 : (p : Int) < ((tops L).length : Int) := by omega
      have d2 : ((L[p].top : Nat) : Int) < (out.length : Int) := by omega
      have i1 : isub .i64 (p : Int) 1 = (L.length : Int) - 1 - ((k + 1 : Nat) : Int) := by rw [isub_i] <;> omega
      -- what is written stays right
      have new : ∀ q (hq : q < L.length), L.length ≤ q + (k + 1) → (out.set L[p].top (canQ (mT t L[p])))[L[q].top]? = some (canQ (mT t L[q])) := by
        intro q hq hqk
        rw [List.getElem?_set]
        by_cases e : L[p].top = L[q].top
        · have := hIn.uniq (hD.all _ (List.getElem_mem hq)) h e
          rw [if_pos e, if_pos (by omega), ← this]
        · rw [if_neg e]
          have : q ≠ p := by rintro rfl; exact e rfl
          exact hout q hq (by omega)
      refine ⟨((t, out.set L[p].top (canQ (mT t L[p])), tops L, (L.length : Int) - 1 - ((k + 1 : Nat) : Int), ()), ()), ⟨_, by simp [hol], new, rfl⟩, fun g => ?_⟩
      have hkid := hD.kid p hpl hpl
      rw [ep, expect_Nodes_s6, cnd (by omega), cnd2 d1 d0, Int.toNat_natCast, tops_get hpl, Option.bind_some, cnd (by omega), Int.toNat_natCast, i1]
      cases e : L[p] with
      | leaf i =>
        rw [e] at hI d2
        obtain ⟨h1, h2⟩ := hI
        have z := hs _ (List.getElem_mem h1)
        have et : (TR.leaf i).top = i := rfl
        rw [et] at d2 ⊢
        rw [List.getElem?_eq_getElem h1, Option.bind_some, show t[i].1 = true from h2, cond_true, cnd2 d1 d0, Option.bind_some, ratio_Clean_ok (z.2.1.sm (by decide)), Option.bind_some, cnd2 (by omega) d2, Int.toNat_natCast, List.getElem?_eq_getElem (by omega), Option.bind_some]
        simp only [mT, expT, nodeAt_get h1]
      | split i l r =>
        rw [e] at hI d2 hsz hkid
        simp only [TR.size] at hsz
        obtain ⟨h1, h2, f0, f1, h3, h4, h5, h6⟩ := hI
        have et : (TR.split i l r).top = i := rfl
        rw [et] at d2 ⊢
        obtain ⟨q1, hq1, hl1, e1⟩ := hkid l (by simp [kidsT])
        obtain ⟨q2, hq2, hl2, e2⟩ := hkid r (by simp [kidsT])
        have o1 := hout q1 hq1 (by omega)
        have o2 := hout q2 hq2 (by omega)
        rw [e1] at o1
        rw [e2] at o2
        have t1 := h5.top_lt
        have t2 := h6.top_lt
        have sl := (mT_sz hs h5).mono (m := 16000000) (by omega)
        have sr := (mT_sz hs h6).mono (m := 16000000) (by omega)
        have hm := mean_ok hs hcov h1 t1 t2 h3 h4 (rv_canQ (mT t l)) (rv_canQ (mT t r)) (sl.sm (by decide)) (sr.sm (by decide)) sl sr (by decide)
        rw [List.getElem?_eq_getElem h1, Option.bind_some, show t[i].1 = false from h2, cond_false, cnd2 d1 d0, Option.bind_some, show t[i].2.2.2.1 = _ from h3, cnd2 (by omega) (by omega), Int.toNat_natCast, o1, Option.bind_some, show t[i].2.2.2.2.1 = _ from h4, cnd2 (by omega) (by omega), Int.toNat_natCast, o2, Option.bind_some, hm, Option.bind_some, cnd2 (by omega) d2, Int.toNat_natCast, List.getElem?_eq_getElem (by omega), Option.bind_some, mT_split]) (by
      rintro s ⟨out, hol, hout, rfl⟩
      refine ⟨_, ⟨out, ⟨hol, fun U hU => ?_⟩, rfl⟩, fun g => ?_⟩
      · obtain ⟨p, hp, e⟩ := List.getElem_of_mem (hD.has U hU)
        rw [← e]
        exact hout p hp (by omega)
      · rw [expect_Nodes_s6, cnd' (by omega)])
  exact ⟨out, ho, hlp⟩

theorem Nodes_ok {t : List NODE} {f : Int} (ht : t.length ≤ 15) (hs : TSz t 4) (hg : Good (f, [t])) : ∃ out, meansL t (treeOf t) out ∧ expect_Nodes t f = some (out, 0) := by
  obtain ⟨b, h1, h2⟩ := TreeV_ok (f := f) ht hs
  have hb : b = true := h2.2 hg
  subst hb
  obtain ⟨g1, g2, g3⟩ := hg.treeOf (i := 0) (by simp)
  have g1 : Is t f (treeOf t) := g1
  have g2 : (treeOf t).top = 0 := g2
  have g3 : (treeOf t).deep ≤ t.length + 1 := g3
  have hz := TR.size_le (T := treeOf t) (by omega)
  obtain ⟨L, hD, hd⟩ := down_ok g1 g2 (by omega)
  have hll := hD.llen
  have hcov : CoversP t := hg.covers (i := 0) (by simp)
  obtain ⟨out, ho, hlp⟩ := nodes_lp hs hcov g1 hD (by omega)
  have c1 : (decide ((t.length : Int) = (t.length : Int)) && decide (0 ≤ (t.length : Int)) && decide (((56 : Nat) : Int) * (t.length : Int) ≤ 281474976710656) && decide ((t.length : Int) ≤ 9223372036854775807)) = true := by
    rw [decide_eq_true rfl, decide_eq_true (by omega), decide_eq_true (by omega), decide_eq_true (by omega)]; rfl
  have i1 : isub .i64 ((tops L).length : Int) 1 = (L.length : Int) - 1 := by rw [tops_len, isub_i] <;> omega
  refine ⟨out, ho, ?_⟩
  rw [expect_Nodes, h1, Option.bind_some, Bool.not_true, cond_false, c1, cond_true, hd, Option.bind_some, i1, Int.toNat_natCast, hlp, Option.bind_some]
theorem Nodes_bad {t : List NODE} {f : Int} (h : valid_Tree t f = some false) : expect_Nodes t f = some ([], 1) := by rw [expect_Nodes, h]; rfl

theorem leaves_ok {t : List NODE} {f : Int} : ∀ (n : Nat) (T : TR), Is t f T → T.deep ≤ n → T.size ≤ 1000000 → dendronlaw11_leaves n t (T.top : Int) = some (ints (leavesT T)) := by
  intro n
  induction n with
  | zero => intro T _ hd; have := T.deep_pos; omega
  | succ n ih =>
    intro T h hd hz
    show dendronlaw11_leaves_b (dendronlaw11_leaves n) t T.top = _
    cases T with
    | leaf i =>
      obtain ⟨h1, h2⟩ := h
      rw [dendronlaw11_leaves_b, show ((TR.leaf i).top : Int) = (i : Int) from rfl, cnd (by omega), Int.toNat_natCast, List.getElem?_eq_getElem h1, Option.bind_some, show t[i].1 = true from h2]
      rfl
    | split i l r =>
      obtain ⟨h1, h2, f0, f1, h3, h4, h5, h6⟩ := h
      simp only [TR.deep] at hd
      simp only [TR.size] at hz
      have d0 : (0 : Int) ≤ (i : Int) := by omega
      have el : dendronlaw11_leaves n t t[i].2.2.2.1 = some (ints (leavesT l)) := by rw [show t[i].2.2.2.1 = _ from h3]; exact ih l h5 (by omega) (by omega)
      have er : dendronlaw11_leaves n t t[i].2.2.2.2.1 = some (ints (leavesT r)) := by rw [show t[i].2.2.2.2.1 = _ from h4]; exact ih r h6 (by omega) (by omega)
      have ll := leavesT_len l
      have lr := leavesT_len r
      rw [dendronlaw11_leaves_b, show ((TR.split i l r).top : Int) = (i : Int) from rfl, cnd d0, Int.toNat_natCast, List.getElem?_eq_getElem h1, Option.bind_some, show t[i].1 = false from h2, cond_false, cnd d0, Option.bind_some, el, Option.bind_some, cnd d0, Option.bind_some, er, Option.bind_some, blt (by simp [ints]; omega), cond_true]
      simp [leavesT, ints]

theorem cvT_sz {t : List NODE} (hs : TSz t 4) {i : Nat} (hi : i < t.length) : SzQ (cvT t i) 8 := by
  have z := hs.at hi
  exact (cov_sz hs hi).mul (z.2.1.szQ (by decide))

theorem ExpectNodes_true (t0 : List NODE) (f : Int) (hl : t0.length ≤ 9223372036854775807) : dendronlaw11_ExpectNodes t0 f = some true := by
  have hf := Few07_ok (0, [t0]) (by simp) (by intro u hu; simp at hu; subst hu; exact hl)
  have ht := cutTree_len t0
  have hs := cutTree_sz t0
  obtain ⟨t, et⟩ : ∃ t, t = cutTree t0 := ⟨_, rfl⟩
  have hf' : dendronlaw07_Few (0, [t0]) = some (0, [t]) := by rw [hf, et]; rfl
  rw [← et] at ht hs
  obtain ⟨b, h1, h2⟩ := TreeV_ok (f := f) ht hs
  rw [dendronlaw11_ExpectNodes, hf', Option.bind_some, List.getElem?_cons_zero, Option.bind_some]
  cases b with
  | false =>
    rw [Nodes_bad h1, Option.bind_some, h1, Option.bind_some, Bool.not_false, cond_true, cnd (by simp), cnd rfl, law11_awake_ok]
    rfl
  | true =>
    have hg := h2.1 rfl
    obtain ⟨out, ⟨hol, ho⟩, hN⟩ := Nodes_ok ht hs hg
    obtain ⟨g1, g2, g3⟩ := hg.treeOf (i := 0) (by simp)
    have g1 : Is t f (treeOf t) := g1
    have g2 : (treeOf t).top = 0 := g2
    have g3 : (treeOf t).deep ≤ t.length + 1 := g3
    have hz := TR.size_le (T := treeOf t) (by omega)
    have hcov : CoversP t := hg.covers (i := 0) (by simp)
    have hne := hcov.ne
    have key := lp_up (step := dendronlaw11_ExpectNodes_s8) (fun i => ((t, out, (i : Int), ()), ())) t.length (r := .inl ((), ())) (by omega) (by
      intro g i hi
      have d0 : (i : Int) < ((t.length : Nat) : Int) := by omega
      have d1 : (0 : Int) ≤ (i : Int) := by omega
      have d2 : (i : Int) < ((out.length : Nat) : Int) := by omega
      obtain ⟨U, hU, hUt⟩ := hg.reach (i := 0) (by simp) i hi
      have hU : InT U (treeOf t) := hU
      have hI := hU.is g1
      have hus := hU.size
      have hud := hU.deep
      have hoU := ho U hU
      rw [hUt] at hoU
      have hlv := leaves_ok R0 U hI (by unfold R0; omega) (by omega)
      rw [hUt] at hlv
      have ll := leavesT_len U
      obtain ⟨l, el⟩ : ∃ l, l = leavesT U := ⟨_, rfl⟩
      rw [← el] at hlv ll
      have hlt : ∀ j ∈ l, j < t.length := fun j hj => by
        rw [el] at hj
        exact (leavesT_lt hI j hj).1
      have hsz : ∀ k, k ≤ l.length → SzQ (lsum ((l.map (cvT t)).take k)) 1000000 := fun k hk => by
        have := lsum_sz (l := (l.map (cvT t)).take k) (k := 8) (fun x hx => by
          obtain ⟨j, hj, rfl⟩ := List.mem_map.1 (List.mem_of_mem_take hx)
          exact cvT_sz hs (hlt j hj))
        exact this.mono (by simp; omega)
      have li : (ints l).length = l.length := by simp [ints]
      have key2 := lp_up (step := dendronlaw11_ExpectNodes_s13) (fun k => ((t, out, (i : Int), ints l, (k : Int), ()), (((canQ (lsum ((l.map (cvT t)).take k))).1.1, (canQ (lsum ((l.map (cvT t)).take k))).1.2, (canQ (lsum ((l.map (cvT t)).take k))).2, ()), ()))) l.length (by omega) (by
        intro g k hk
        have e0 : (k : Int) < ((ints l).length : Int) := by omega
        have e1 : (0 : Int) ≤ (k : Int) := by omega
        have hj := hlt _ (List.getElem_mem hk)
        have z := hs _ (List.getElem_mem hj)
        have m1 := ratio_Mul_ok (z.2.2.sm (by decide)) (z.2.1.sm (by decide))
        have hv : rv (nCov t[l[k]]) * rv (nVal t[l[k]]) = cvT t l[k] := by rw [cvT, cov_get hj, nodeAt_get hj]
        rw [hv] at m1
        have a1 := ratio_Add_ok ((hsz k (by omega)).sm (by decide)) ((cvT_sz hs hj).sm (by decide))
        rw [rv_canQ, rv_canQ] at a1
        have e2 : lsum ((l.map (cvT t)).take (k + 1)) = lsum ((l.map (cvT t)).take k) + cvT t l[k] := by rw [lsum_take_succ (by simpa using hk)]; simp
        rw [dendronlaw11_ExpectNodes_s13, cnd e0, cnd2 e1 e0, Int.toNat_natCast, ints_get hk, Option.bind_some, cnd (by omega), Int.toNat_natCast, List.getElem?_eq_getElem hj, Option.bind_some, cnd2 e1 e0, Option.bind_some, cnd (by omega), Int.toNat_natCast, List.getElem?_eq_getElem hj, Option.bind_some, m1, Option.bind_some, e2]
        show (ratio_Add (canQ _) _).bind _ = _
        rw [a1, Option.bind_some, iadd1 (by omega)]
        rfl) (by
        intro g
        rw [dendronlaw11_ExpectNodes_s13, cnd' (by omega)])
      have key2 : lp dendronlaw11_ExpectNodes_s13 K0 ((t, out, (i : Int), ints l, 0, ()), (((canQ 0).1.1, (canQ 0).1.2, (canQ 0).2, ()), ())) = _ := key2
      have hall : (l.map (cvT t)).take l.length = l.map (cvT t) := List.take_of_length_le (by simp)
      rw [hall] at key2
      have hfin := hsz l.length (Nat.le_refl _)
      rw [hall] at hfin
      have zi := hs _ (List.getElem_mem hi)
      have hmz := (mT_sz hs hI).mono (m := 2000000) (by omega)
      have m2 := ratio_Mul_ok (hmz.sm (by decide)) (zi.2.2.sm (by decide))
      have hcv := mT_cov hne hI
      rw [hUt, ← el] at hcv
      have hv2 : mT t U * rv (nCov t[i]) = lsum (l.map (cvT t)) := by rw [← hcv, cov_get hi]
      rw [rv_canQ, hv2] at m2
      have his := is_self hfin (by decide) hfin (by decide) rfl
      rw [dendronlaw11_ExpectNodes_s8, cnd d0, ratio_Zero_ok, Option.bind_some, hlv, Option.bind_some, key2, Option.bind_some]
      dsimp only
      rw [cnd2 d1 d2, Int.toNat_natCast, hoU, Option.bind_some, cnd d1, List.getElem?_eq_getElem hi, Option.bind_some, m2, Option.bind_some]
      show (dendronref10_Is _ (canQ _)).bind _ = _
      rw [his, Option.bind_some, Bool.not_true, cond_false, cnd2 d1 d2, Option.bind_some, ratio_Right_ok (hmz.sm (by decide)), Option.bind_some, Bool.not_true, cond_false, iadd1 (by omega)]
      rfl) (by
      intro g
      rw [dendronlaw11_ExpectNodes_s8, cnd' (by omega)])
    have key : lp dendronlaw11_ExpectNodes_s8 K0 ((t, out, 0, ()), ()) = _ := key
    rw [hN, Option.bind_some, h1, Option.bind_some, Bool.not_true, cond_false, show (!decide ((0 : Int) = 0)) = false by decide, cond_false]
    dsimp only
    rw [hol, decide_eq_true rfl, Bool.not_true, cond_false, key, Option.bind_some, law11_awake_ok]
    rfl
end Go.Proofs.YtongppphgbkckaaGreatDoor.X


/- Expect: legs: what leads to a leaf. -/
namespace Go.Proofs.YtongppphgbkckaaGreatDoor.X
open Go
set_option linter.unusedVariables false
set_option linter.unusedSimpArgs false

theorem over_set' {α : Type} (l : List α) (x y : α) {k : Nat} (hk : k ≤ l.length) :
    (over (l ++ [x]) (k + 1) (((l ++ [x]).drop k).take ((l ++ [x]).drop (k + 1)).length)).set k y = l.take k ++ y :: l.drop k := by
  have h := over_set l x hk
  obtain ⟨o, eo⟩ : ∃ o, o = over (l ++ [x]) (k + 1) (((l ++ [x]).drop k).take ((l ++ [x]).drop (k + 1)).length) := ⟨_, rfl⟩
  rw [← eo] at h ⊢
  have e : o.set k y = (o.set k x).set k y := by rw [List.set_set]
  rw [e, h, List.set_append, if_neg (by rw [List.length_take]; omega), List.length_take, Nat.min_eq_left hk, Nat.sub_self]
  rfl
theorem over_shift_len' {α : Type} (l : List α) (x : α) {k : Nat} (hk : k ≤ l.length) :
    (over (l ++ [x]) (k + 1) (((l ++ [x]).drop k).take ((l ++ [x]).drop (k + 1)).length)).length = l.length + 1 := by
  have h := congrArg List.length (over_set l x hk)
  rw [List.length_set] at h
  rw [h]; simp; omega

/-- A part: of which feature, which share, whether the row goes that way. -/
abbrev AP := Nat × Rat × Bool
def encP (p : AP) : PART := ((p.1 : Int), canQ p.2.1, p.2.2)
def encW (w : List AP) : List PART := w.map encP
theorem encW_len (w : List AP) : (encW w).length = w.length := by simp [encW]
theorem encW_get {w : List AP} {i : Nat} (h : i < w.length) : (encW w)[i]? = some (encP w[i]) := by simp [encW, h]
def along (f : Nat) (q : Rat) (ok : Bool) : List AP → List AP
  | [] => [(f, q, ok)]
  | p :: w => if p.1 < f then p :: along f q ok w else if p.1 = f then (f, p.2.1 * q, p.2.2 && ok) :: w else (f, q, ok) :: p :: w
/-- The place where a feature stands, or would. -/
def spot (f : Nat) : List AP → Nat
  | [] => 0
  | p :: w => if p.1 < f then spot f w + 1 else 0
theorem spot_le (f : Nat) (w : List AP) : spot f w ≤ w.length := by
  induction w with
  | nil => simp [spot]
  | cons p w ih => simp only [spot, List.length_cons]; split <;> omega
theorem spot_lt {f : Nat} {w : List AP} {i : Nat} (h : i < spot f w) : ∃ hi : i < w.length, w[i].1 < f := by
  induction w generalizing i with
  | nil => simp [spot] at h
  | cons p w ih =>
    simp only [spot] at h
    split at h
    · rename_i hp
      cases i with
      | zero => exact ⟨by simp, hp⟩
      | succ i => obtain ⟨hi, h2⟩ := ih (i := i) (by omega); exact ⟨by simp; omega, by simpa using h2⟩
    · omega
theorem spot_at {f : Nat} {w : List AP} (h : spot f w < w.length) : ¬ w[spot f w].1 < f := by
  induction w with
  | nil => simp at h
  | cons p w ih =>
    by_cases hp : p.1 < f
    · have e : spot f (p :: w) = spot f w + 1 := by simp only [spot, if_pos hp]
      have h' : spot f w < w.length := by rw [e] at h; simpa using h
      simp only [e, List.getElem_cons_succ]
      exact ih h'
    · have e : spot f (p :: w) = 0 := by simp only [spot, if_neg hp]
      simp only [e, List.getElem_cons_zero]
      exact hp
theorem along_hit {f : Nat} {q : Rat} {ok : Bool} {w : List AP} (h : spot f w < w.length) (e : w[spot f w].1 = f) : along f q ok w = w.set (spot f w) (f, w[spot f w].2.1 * q, w[spot f w].2.2 && ok) := by
  induction w with
  | nil => simp at h
  | cons p w ih =>
    by_cases hp : p.1 < f
    · have es : spot f (p :: w) = spot f w + 1 := by simp only [spot, if_pos hp]
      have h' : spot f w < w.length := by rw [es] at h; simpa using h
      simp only [es, List.getElem_cons_succ] at e ⊢
      rw [along, if_pos hp, ih h' e, List.set_cons_succ]
    · have es : spot f (p :: w) = 0 := by simp only [spot, if_neg hp]
      simp only [es, List.getElem_cons_zero] at e ⊢
      rw [along, if_neg hp, if_pos e, List.set_cons_zero]
theorem along_miss {f : Nat} {q : Rat} {ok : Bool} {w : List AP} (h : ∀ h : spot f w < w.length, w[spot f w].1 ≠ f) : along f q ok w = w.take (spot f w) ++ (f, q, ok) :: w.drop (spot f w) := by
  induction w with
  | nil => simp [along, spot]
  | cons p w ih =>
    by_cases hp : p.1 < f
    · have es : spot f (p :: w) = spot f w + 1 := by simp only [spot, if_pos hp]
      rw [along, if_pos hp, es, List.take_succ_cons, List.drop_succ_cons, List.cons_append, ← ih (fun h' => by
        have := h (by rw [es]; simpa using h')
        simpa only [es, List.getElem_cons_succ] using this)]
    · have es : spot f (p :: w) = 0 := by simp only [spot, if_neg hp]
      have hne : p.1 ≠ f := by
        have := h (by rw [es]; simp)
        simpa only [es, List.getElem_cons_zero] using this
      rw [along, if_neg hp, if_neg hne, es]
      rfl
theorem along_len (f : Nat) (q : Rat) (ok : Bool) (w : List AP) : (along f q ok w).length ≤ w.length + 1 := by
  induction w with
  | nil => simp [along]
  | cons p w ih => simp only [along]; split
                   · simp only [List.length_cons]; omega
                   · split <;> simp
def ASz (w : List AP) (k : Nat) : Prop := ∀ p ∈ w, SzQ p.2.1 k
theorem along_sz {f : Nat} {q : Rat} {ok : Bool} {w : List AP} {k j : Nat} (h : ASz w k) (hq : SzQ q j) : ASz (along f q ok w) (k + j) := by
  induction w with
  | nil => intro p hp; simp [along] at hp; subst hp; exact hq.mono (by omega)
  | cons p w ih =>
    have h1 : SzQ p.2.1 k := h p List.mem_cons_self
    have h2 : ASz w k := fun x hx => h x (List.mem_cons_of_mem _ hx)
    intro x hx
    simp only [along] at hx
    split at hx
    · rcases List.mem_cons.1 hx with rfl | hx
      · exact h1.mono (by omega)
      · exact ih h2 x hx
    · split at hx
      · rcases List.mem_cons.1 hx with rfl | hx
        · exact h1.mul hq
        · exact (h2 x hx).mono (by omega)
      · rcases List.mem_cons.1 hx with rfl | hx
        · exact hq.mono (by omega)
        · exact (h x hx).mono (by omega)

theorem along_ok {w : List AP} {f : Nat} {q : Rat} {ok : Bool} {k j : Nat} (hw : ASz w k) (hq : SzQ q j) (hk : k < 1000000000) (hj : j < 1000000000) (hl : w.length ≤ 1000000) (hf : f < 1000000) :
    expect_along (encW w) (f : Int) (canQ q) ok = some (encW (along f q ok w)) := by
  have el := encW_len w
  have hs := spot_le f w
  obtain ⟨s, es⟩ : ∃ s, s = spot f w := ⟨_, rfl⟩
  have key := lp_up (step := expect_along_s3) (fun i => (((f : Int), ok, encW w, (i : Int), ()), (((canQ q).1.1, (canQ q).1.2, (canQ q).2, ()), ()))) s (r := (((f : Int), ok, encW w, (s : Int), ()), (((canQ q).1.1, (canQ q).1.2, (canQ q).2, ()), ()))) (by omega) (by
    intro g i hi
    obtain ⟨h1, h2⟩ := spot_lt (f := f) (w := w) (i := i) (by omega)
    have d0 : (i : Int) < ((encW w).length : Int) := by omega
    have d1 : (0 : Int) ≤ (i : Int) := by omega
    have d2 : (encP w[i]).1 < (f : Int) := by show ((w[i].1 : Nat) : Int) < _; omega
    rw [expect_along_s3, cnd d0, cnd2 d1 d0, Int.toNat_natCast, encW_get h1, Option.bind_some, cnd d2, iadd1 (by omega)]
    rfl) (by
    intro g
    by_cases h : s < w.length
    · have d0 : (s : Int) < ((encW w).length : Int) := by omega
      have d1 : (0 : Int) ≤ (s : Int) := by omega
      have h3 := spot_at (f := f) (w := w) (by omega)
      have d2 : ¬ (encP w[s]).1 < (f : Int) := by subst es; show ¬ ((w[spot f w].1 : Nat) : Int) < _; omega
      rw [expect_along_s3, cnd d0, cnd2 d1 d0, Int.toNat_natCast, encW_get h, Option.bind_some, cnd' d2]
    · rw [expect_along_s3, cnd' (by omega)])
  have key : lp expect_along_s3 K0 (((f : Int), ok, ([] : List PART) ++ encW w, 0, ()), (((canQ q).1.1, (canQ q).1.2, (canQ q).2, ()), ())) = _ := key
  have c0 : (Nat.ble ((([] : List PART).length + (encW w).length) * 72) 140737488355328 && !false) = true := blt (by simp; omega)
  have miss : (∀ h : spot f w < w.length, w[spot f w].1 ≠ f) → (over (encW w ++ [(0, (((false, []), []), false))]) (s + 1) (((encW w ++ [(0, (((false, []), []), false))]).drop s).take ((encW w ++ [(0, (((false, []), []), false))]).drop (s + 1)).length)).set s ((f : Int), canQ q, ok) = encW (along f q ok w) := by
    intro h
    have e := over_set' (encW w) (0, (((false, []), []), false)) ((f : Int), canQ q, ok) (k := s) (by omega)
    rw [e, along_miss h, ← es]
    simp [encW, encP]
  have ol := over_shift_len' (encW w) (0, (((false, []), []), false)) (k := s) (by omega)
  have i1 : iadd .i64 (s : Int) 1 = ((s + 1 : Nat) : Int) := iadd1 (by omega)
  have d1 : (0 : Int) ≤ (s : Int) := by omega
  have al : (encW w ++ [((0, (((false, []), []), false)) : PART)]).length = w.length + 1 := by simp [encW]
  rw [expect_along, c0, cond_true, key, Option.bind_some]
  dsimp only
  by_cases h : s < w.length
  · have d0 : (s : Int) < ((encW w).length : Int) := by omega
    rw [cnd d0, cnd2 d1 d0, Int.toNat_natCast, encW_get h, Option.bind_some]
    by_cases e : w[s].1 = f
    · have d2 : (encP w[s]).1 = (f : Int) := by show ((w[s].1 : Nat) : Int) = _; omega
      have hsz := hw _ (List.getElem_mem h)
      have hm := ratio_Mul_ok (hsz.sm (by omega)) (hq.sm (by omega))
      rw [rv_canQ, rv_canQ] at hm
      have hm : ratio_Mul (encP w[s]).2.1 (canQ q) = some (canQ (w[s].2.1 * q)) := hm
      obtain ⟨x, ex⟩ : ∃ x : PART, x = ((encP w[s]).1, canQ (w[s].2.1 * q), (encP w[s]).2.2) := ⟨_, rfl⟩
      have ls : ((encW w).set s x).length = w.length := by simp [encW]
      have gx : ((encW w).set s x)[s]? = some x := by rw [List.getElem?_set, if_pos rfl, if_pos (by omega)]
      have d3 : (s : Int) < (((encW w).set s x).length : Int) := by omega
      have fin : (encW w).set s ((f : Int), canQ (w[s].2.1 * q), w[s].2.2 && ok) = encW (along f q ok w) := by
        rw [along_hit (by omega) (by subst es; exact e)]
        subst es
        simp [encW, encP]
      rw [cnd d2, cnd2 d1 d0, Option.bind_some]
      show (ratio_Mul (encP w[s]).2.1 (canQ q)).bind _ = _
      rw [hm, Option.bind_some, cnd2 d1 d0, Option.bind_some, ← ex, cnd2 d1 d3, gx, Option.bind_some, show x.2.2 = w[s].2.2 by rw [ex]; rfl]
      rw [← fin]
      cases hok : w[s].2.2 with
      | true =>
        rw [cond_true, cnd2 d1 d3, Option.bind_some, List.set_set, ex, Bool.true_and]
        simp only
        rw [d2]
      | false =>
        rw [cond_false, cnd2 d1 d3, Option.bind_some, List.set_set, ex, Bool.false_and]
        simp only
        rw [d2]
    · have d2 : ¬ (encP w[s]).1 = (f : Int) := by show ¬ ((w[s].1 : Nat) : Int) = _; omega
      rw [cnd' d2, blt (by omega), cond_true, i1, cnd2 (by omega) (by rw [al]; omega), cnd2 d1 (by rw [al]; omega), Int.toNat_natCast, cnd2 d1 (by rw [ol]; omega), List.getElem?_eq_getElem (by rw [ol]; omega), Option.bind_some]
      show some _ = _
      rw [← miss (fun h' => by subst es; exact e)]
  · rw [cnd' (by omega), blt (by omega), cond_true, i1, cnd2 (by omega) (by rw [al]; omega), cnd2 d1 (by rw [al]; omega), Int.toNat_natCast, Int.toNat_natCast, cnd2 d1 (by rw [ol]; omega), List.getElem?_eq_getElem (by rw [ol]; omega), Option.bind_some]
    show some _ = _
    rw [← miss (fun h' => absurd h' (by omega))]
end Go.Proofs.YtongppphgbkckaaGreatDoor.X


/- Expect: ExpectReaches. -/
namespace Go.Proofs.YtongppphgbkckaaGreatDoor.X
open Go
set_option linter.unusedVariables false
set_option linter.unusedSimpArgs false

abbrev AL := Nat × Rat × List AP
def encL (x : AL) : LEG := ((x.1 : Int), canQ x.2.1, encW x.2.2)
def featT (t : List NODE) (i : Nat) : Nat := (nFeat (nodeAt t i)).toNat
/-- A tree's leaves, with what leads to them behind a way. -/
def legsT (t : List NODE) (row : List CELL) : TR → List AP → List AL
  | .leaf i, w => [(i, rv (nVal (nodeAt t i)), w)]
  | .split i l r, w => legsT t row l (along (featT t i) (cov t l.top / cov t i) (goL t row i) w) ++ legsT t row r (along (featT t i) (cov t r.top / cov t i) (!goL t row i) w)
theorem legsT_len (t : List NODE) (row : List CELL) (T : TR) (w : List AP) : (legsT t row T w).length = (leavesT T).length := by
  induction T generalizing w with
  | leaf i => rfl
  | split i l r ihl ihr => simp only [legsT, leavesT, List.length_append, ihl, ihr]
/-- The ways of a tree's legs are small. -/
def WSz (w : List AP) (m : Nat) (f : Nat) : Prop := ASz w (8 * m + 1) ∧ w.length ≤ m ∧ ∀ p ∈ w, p.1 < f
theorem along_mem {f : Nat} {q : Rat} {ok : Bool} {w : List AP} : ∀ p ∈ along f q ok w, p.1 = f ∨ ∃ p' ∈ w, p'.1 = p.1 := by
  induction w with
  | nil => intro p hp; simp [along] at hp; subst hp; exact .inl rfl
  | cons a w ih =>
    intro p hp
    simp only [along] at hp
    split at hp
    · rcases List.mem_cons.1 hp with rfl | hp
      · exact .inr ⟨p, List.mem_cons_self, rfl⟩
      · rcases ih p hp with h | ⟨p', h1, h2⟩
        · exact .inl h
        · exact .inr ⟨p', List.mem_cons_of_mem _ h1, h2⟩
    · split at hp
      · rcases List.mem_cons.1 hp with rfl | hp
        · exact .inl rfl
        · exact .inr ⟨p, List.mem_cons_of_mem _ hp, rfl⟩
      · rcases List.mem_cons.1 hp with rfl | hp
        · exact .inl rfl
        · exact .inr ⟨p, hp, rfl⟩
theorem WSz.along {w : List AP} {m f g : Nat} {q : Rat} {ok : Bool} (h : WSz w m g) (hq : SzQ q 8) (hf : f < g) : WSz (X.along f q ok w) (m + 1) g := by
  refine ⟨fun p hp => (along_sz h.1 hq p hp).mono (by omega), Nat.le_trans (along_len _ _ _ _) (by have := h.2.1; omega), fun p hp => ?_⟩
  rcases along_mem p hp with e | ⟨p', h1, h2⟩
  · omega
  · have := h.2.2 p' h1; omega
theorem share_sz {t : List NODE} (hs : TSz t 4) {a i : Nat} (ha : a < t.length) (hi : i < t.length) : SzQ (cov t a / cov t i) 8 := (cov_sz hs ha).div (cov_sz hs hi)
theorem legsT_sz {t : List NODE} {row : List CELL} {T : TR} {g : Nat} (hs : TSz t 4) (h : Is t (g : Int) T) : ∀ {w : List AP} {m : Nat}, WSz w m g → ∀ x ∈ legsT t row T w, WSz x.2.2 (m + T.deep) g ∧ SzQ x.2.1 4 := by
  induction T with
  | leaf i =>
    intro w m hw x hx
    simp only [legsT, List.mem_singleton] at hx
    subst hx
    refine ⟨⟨fun p hp => (hw.1 p hp).mono (by simp only [TR.deep]; omega), by have := hw.2.1; simp only [TR.deep]; omega, hw.2.2⟩, (hs.at h.1).2.1.szQ (by decide)⟩
  | split i l r ihl ihr =>
    intro w m hw x hx
    obtain ⟨h1, h2, f0, f1, h3, h4, h5, h6⟩ := h
    have hf : featT t i < g := by rw [featT, nodeAt_get h1]; omega
    simp only [legsT, List.mem_append] at hx
    rcases hx with hx | hx
    · have := ihl h5 (hw.along (ok := goL t row i) (share_sz hs h5.top_lt h1) hf) x hx
      refine ⟨⟨fun p hp => (this.1.1 p hp).mono (by simp only [TR.deep]; omega), by have := this.1.2.1; simp only [TR.deep]; omega, this.1.2.2⟩, this.2⟩
    · have := ihr h6 (hw.along (ok := !goL t row i) (share_sz hs h6.top_lt h1) hf) x hx
      refine ⟨⟨fun p hp => (this.1.1 p hp).mono (by simp only [TR.deep]; omega), by have := this.1.2.1; simp only [TR.deep]; omega, this.1.2.2⟩, this.2⟩

theorem legs_ok {t : List NODE} {row : List CELL} (hs : TSz t 4) (hc : CSz row 9) (hcov : CoversP t) (hrl : row.length ≤ 64) : ∀ (n : Nat) (T : TR) (w : List AP) (m : Nat), Is t (row.length : Int) T → T.deep ≤ n → T.size ≤ 1000000 → WSz w m row.length → m + T.deep ≤ 10000 →
    expect_legs n t row (T.top : Int) (encW w) = some ((legsT t row T w).map encL) := by
  intro n
  induction n with
  | zero => intro T w m _ hd; have := T.deep_pos; omega
  | succ n ih =>
    intro T w m h hd hz hw hm
    show expect_legs_b (expect_legs n) t row T.top (encW w) = _
    have hwl := hw.2.1
    cases T with
    | leaf i =>
      obtain ⟨h1, h2⟩ := h
      have z := hs _ (List.getElem_mem h1)
      rw [expect_legs_b, show ((TR.leaf i).top : Int) = (i : Int) from rfl, cnd (by omega), Int.toNat_natCast, List.getElem?_eq_getElem h1, Option.bind_some, show t[i].1 = true from h2, cond_true, ratio_Clean_ok (z.2.1.sm (by decide)), Option.bind_some, blt (by simp [encW]; omega), cond_true]
      simp only [legsT, List.map_cons, List.map_nil, encL, nodeAt_get h1, List.nil_append]
    | split i l r =>
      obtain ⟨h1, h2, f0, f1, h3, h4, h5, h6⟩ := h
      simp only [TR.deep] at hd hm
      simp only [TR.size] at hz
      have d0 : (0 : Int) ≤ (i : Int) := by omega
      obtain ⟨c, g1, g2, g3⟩ := goL_ok (f := 0) hs hc h1 f0 f1
      have z := hs _ (List.getElem_mem h1)
      have tl := h5.top_lt
      have tr := h6.top_lt
      have zl := hs _ (List.getElem_mem tl)
      have zr := hs _ (List.getElem_mem tr)
      have hne : rv (nCov t[i]) ≠ 0 := by have := hcov.ne i h1; rwa [cov_get h1] at this
      have o1 := over_ok (zl.2.2.sm (by decide)) (z.2.2.sm (by decide)) hne
      have o2 := over_ok (zr.2.2.sm (by decide)) (z.2.2.sm (by decide)) hne
      rw [← cov_get tl, ← cov_get h1] at o1
      rw [← cov_get tr, ← cov_get h1] at o2
      have hft : ((featT t i : Nat) : Int) = nFeat t[i] := by rw [featT, nodeAt_get h1]; omega
      have hf : featT t i < row.length := by omega
      have a1 := along_ok (f := featT t i) (ok := goL t row i) hw.1 (share_sz hs tl h1) (by omega) (by decide) (by omega) (by omega)
      have a2 := along_ok (f := featT t i) (ok := !goL t row i) hw.1 (share_sz hs tr h1) (by omega) (by decide) (by omega) (by omega)
      rw [hft] at a1 a2
      have el := ih l _ (m + 1) h5 (by omega) (by omega) (hw.along (ok := goL t row i) (share_sz hs tl h1) hf) (by omega)
      have er := ih r _ (m + 1) h6 (by omega) (by omega) (hw.along (ok := !goL t row i) (share_sz hs tr h1) hf) (by omega)
      have ll := legsT_len t row l (along (featT t i) (cov t l.top / cov t i) (goL t row i) w)
      have lr := legsT_len t row r (along (featT t i) (cov t r.top / cov t i) (!goL t row i) w)
      have bl := leavesT_len l
      have br := leavesT_len r
      rw [expect_legs_b, show ((TR.split i l r).top : Int) = (i : Int) from rfl, cnd d0, Int.toNat_natCast, List.getElem?_eq_getElem h1, Option.bind_some, show t[i].1 = false from h2, cond_false, show t[i].2.1 = nFeat t[i] from rfl, cnd f0, g1, Option.bind_some, Left_ok z.1 (by decide) g2 (by decide), Option.bind_some, g3, show (!nLeaf t[i]) = true by rw [h2]; rfl, Bool.true_and, show t[i].2.2.2.1 = _ from h3, cnd (by omega), Int.toNat_natCast, List.getElem?_eq_getElem tl, Option.bind_some, o1, Option.bind_some, a1, Option.bind_some, el, Option.bind_some, show t[i].2.2.2.2.1 = _ from h4, cnd (by omega), Int.toNat_natCast, List.getElem?_eq_getElem tr, Option.bind_some, o2, Option.bind_some, a2, Option.bind_some, er, Option.bind_some, blt (by simp only [List.length_map, ll, lr]; omega), cond_true]
      simp only [legsT, List.map_append]

/-! What comes to a leg. -/
end Go.Proofs.YtongppphgbkckaaGreatDoor.X


/- Expect: ExpectReaches. -/
namespace Go.Proofs.YtongppphgbkckaaGreatDoor.X
open Go
set_option linter.unusedVariables false
set_option linter.unusedSimpArgs false

theorem WSz.nil (f : Nat) : WSz [] 0 f := ⟨fun p hp => absurd hp (by simp), Nat.le_refl _, fun p hp => absurd hp (by simp)⟩
theorem Legs_bad {t : List NODE} {row : List CELL} (h : valid_Tree t (row.length : Int) = some false) : expect_Legs t row = some ([], 1) := by rw [expect_Legs, h]; rfl
/-- A good tree's legs. -/
theorem Legs_ok {t : List NODE} {row : List CELL} (ht : t.length ≤ 15) (hs : TSz t 4) (hc : CSz row 9) (hg : Good ((row.length : Int), [t])) (hrl : row.length ≤ 64) :
    expect_Legs t row = some ((legsT t row (treeOf t) []).map encL, 0) ∧ (∀ x ∈ legsT t row (treeOf t) [], WSz x.2.2 16 row.length ∧ SzQ x.2.1 4) ∧ (legsT t row (treeOf t) []).length ≤ 65536 := by
  obtain ⟨b, h1, h2⟩ := TreeV_ok (f := (row.length : Int)) ht hs
  have hb : b = true := h2.2 hg
  subst hb
  obtain ⟨g1, g2, g3⟩ := hg.treeOf (i := 0) (by simp)
  have g1 : Is t (row.length : Int) (treeOf t) := g1
  have g2 : (treeOf t).top = 0 := g2
  have g3 : (treeOf t).deep ≤ t.length + 1 := g3
  have hz := TR.size_le (T := treeOf t) (by omega)
  have hcov : CoversP t := hg.covers (i := 0) (by simp)
  have hl := legs_ok hs hc hcov hrl R0 (treeOf t) [] 0 g1 (by unfold R0; omega) (by omega) (WSz.nil _) (by omega)
  rw [g2] at hl
  have hl : expect_legs R0 t row 0 [] = _ := hl
  have hn := legsT_len t row (treeOf t) []
  have hn2 := leavesT_len (treeOf t)
  refine ⟨by rw [expect_Legs, h1, Option.bind_some, Bool.not_true, cond_false, hl, Option.bind_some], fun x hx => ?_, by omega⟩
  have hw := legsT_sz hs g1 (WSz.nil _) x hx
  refine ⟨⟨fun p hp => (hw.1.1 p hp).mono (by omega), by have := hw.1.2.1; omega, hw.1.2.2⟩, hw.2⟩
theorem Askd.goodT {m : MODEL} {row : List CELL} (h : Askd m row) {i : Nat} (hi : i < m.2.length) : Good ((row.length : Int), [m.2[i]]) := by
  have hg := h.good
  refine ⟨⟨?_, ?_, ?_, ?_⟩, ?_⟩
  · rw [h.len]; exact hg.1.1
  · rw [h.len]; exact hg.1.2.1
  · simp
  · intro j hj
    have hj : j < 1 := hj
    have : j = 0 := by omega
    subst this
    exact hg.1.2.2.2 i hi
  · intro r hr j hj
    have hj : j < 1 := hj
    have : j = 0 := by omega
    subst this
    have := hg.2 r hr i hi
    show RuleP (row.length : Int) r m.2[i]
    rw [h.len]; exact this

end Go.Proofs.YtongppphgbkckaaGreatDoor.X


/- Expect: ExpectTables. -/
namespace Go.Proofs.YtongppphgbkckaaGreatDoor.X
open Go
set_option linter.unusedVariables false
set_option linter.unusedSimpArgs false

/-- What is said for each set. -/
def tabS (m : MODEL) (row : List CELL) (n : Nat) : List RAT := (List.range n).map fun s => canQ (sayM m row s)
theorem tabS_len (m : MODEL) (row : List CELL) (n : Nat) : (tabS m row n).length = n := by simp [tabS]
theorem tabS_get (m : MODEL) (row : List CELL) {n i : Nat} (h : i < n) : (tabS m row n)[i]? = some (canQ (sayM m row i)) := by simp [tabS, h]
theorem Table_ok {m : MODEL} {row : List CELL} (h : Askd m row) (h12 : m.1 ≤ 12) : expect_Table m row = some (tabS m row (2 ^ m.1.toNat), 0) := by
  obtain ⟨e, _, h1, _, h2⟩ := fits_ok (row := row) (by have := h.ml; omega) (fun t ht => by have := h.mt t ht; omega) h.ms
  have e0 : e = 0 := h2.2 ⟨h.good, h.len⟩
  subst e0
  have f0 := h.good.1.1
  obtain ⟨k, hk⟩ : ∃ k : Nat, m.1 = (k : Int) := ⟨m.1.toNat, by omega⟩
  have hp : 2 ^ k ≤ 2 ^ 12 := Nat.pow_le_pow_right (by decide) (by omega)
  have hs : shlV .u64 1 m.1 = ((2 ^ k : Nat) : Int) := by
    have := shl_nat (x := 1) (s := k) (by omega) (by omega)
    rw [Nat.one_mul] at this
    rw [hk]; exact this
  obtain ⟨n, hn⟩ : ∃ n, n = 2 ^ k := ⟨_, rfl⟩
  rw [← hn] at hs hp
  have hp : n ≤ 4096 := hp
  have key := lp_up (step := expect_Table_s8) (fun i => ((row, tabS m row i, (n : Int), (i : Int), ()), ((m.1, m.2, ()), ()))) n (r := ((tabS m row n, ()), ())) (by omega) (by
    intro g i hi
    have d0 : (i : Int) < (n : Int) := by omega
    have hv := eValue_ok h (set := i) (by omega)
    have hv : expect_Value (m.1, m.2) row (i : Int) = _ := hv
    have e1 : tabS m row (i + 1) = tabS m row i ++ [canQ (sayM m row i)] := by simp [tabS, List.range_succ]
    have iu : iadd .u64 (i : Int) 1 = ((i + 1 : Nat) : Int) := by rw [iadd_u] <;> omega
    rw [expect_Table_s8, cnd d0, hv, Option.bind_some, blt (by rw [tabS_len]; omega), cond_true, e1, iu]) (by
    intro g
    rw [expect_Table_s8, cnd' (by omega)])
  have key : lp expect_Table_s8 K0 ((row, [], (n : Int), 0, ()), ((m.1, m.2, ()), ())) = _ := key
  rw [expect_Table, h1, Option.bind_some, show (!decide ((0 : Int) = 0)) = false by decide, cond_false, cnd' (by omega), cnd' (by omega), hs, key, Option.bind_some, show m.1.toNat = k by omega, ← hn]
theorem Table_big {m : MODEL} {row : List CELL} (h : route_Fits m row = some 0) (h12 : m.1 > 12) : expect_Table m row = some ([], 16) := by
  rw [expect_Table, h, Option.bind_some, show (!decide ((0 : Int) = 0)) = false by decide, cond_false, cnd h12]
theorem Table_bad {m : MODEL} {row : List CELL} {e : Int} (h : route_Fits m row = some e) (he : e ≠ 0) : expect_Table m row = some ([], e) := by
  rw [expect_Table, h, Option.bind_some, decide_eq_false he]; rfl

theorem ExpectTables_true (m0 : MODEL) (row0 : List CELL) (hl : m0.2.length ≤ 9223372036854775807) (ht : ∀ t ∈ m0.2, t.length ≤ 9223372036854775807) (hr : row0.length ≤ 9223372036854775807) : dendronlaw11_ExpectTables m0 row0 = some true := by
  obtain ⟨m, row, hs, ms, ml, mt, cs⟩ := Small_ok m0 row0 hl ht hr
  obtain ⟨e, h1, h2, h3, h4⟩ := fits_ok (row := row) (by omega) (fun t h => by have := mt t h; omega) ms
  rw [dendronlaw11_ExpectTables, hs, Option.bind_some]
  dsimp only
  rw [h3, Option.bind_some]
  by_cases he : e = 0
  · subst he
    have ha : Askd m row := ⟨(h4.1 rfl).1, (h4.1 rfl).2, ms, by omega, mt, cs⟩
    rw [cnd rfl]
    by_cases h5 : m.1 > 5
    · rw [cnd h5]
      by_cases h12 : m.1 ≤ 12
      · rw [cnd h12, law11_awake_ok]; rfl
      · rw [cnd' h12, Table_big h2 (by omega), Option.bind_some, cnd rfl, cnd (by omega), show (!decide ((16 : Int) = 0)) = true by decide, cond_true, cnd (by simp), cnd rfl, law11_awake_ok]; rfl
    · rw [cnd' h5, Table_ok ha (by omega), Option.bind_some, cnd rfl, cnd' (by omega), show (!decide ((0 : Int) = 0)) = false by decide, cond_false]
      have f0 := ha.good.1.1
      obtain ⟨k, hk⟩ : ∃ k : Nat, m.1 = (k : Int) := ⟨m.1.toNat, by omega⟩
      have ek : m.1.toNat = k := by omega
      rw [ek]
      have hp : 2 ^ k ≤ 2 ^ 5 := Nat.pow_le_pow_right (by decide) (by omega)
      obtain ⟨L, eL⟩ : ∃ L, L = tabS m row (2 ^ k) := ⟨_, rfl⟩
      have lL : L.length = 2 ^ k := by rw [eL, tabS_len]
      have gL : ∀ i, i < 2 ^ k → L[i]? = some (canQ (sayM m row i)) := fun i hi => by rw [eL]; exact tabS_get m row hi
      rw [← eL]
      have key := lp_up (step := dendronlaw11_ExpectTables_s12) (fun i => ((row, L, 0, ((2 ^ i : Nat) : Int), (i : Int), ()), ((m.1, m.2, ()), ()))) k (r := ((row, L, 0, ((2 ^ k : Nat) : Int), ()), ((m.1, m.2, ()), ()))) (by omega) (by
        intro g i hi
        have d0 : (i : Int) < m.1 := by omega
        have hpi : 2 ^ i ≤ 2 ^ 5 := Nat.pow_le_pow_right (by decide) (by omega)
        have em : imul .i64 2 ((2 ^ i : Nat) : Int) = ((2 ^ (i + 1) : Nat) : Int) := by
          obtain ⟨x, hx⟩ : ∃ x, x = 2 ^ i := ⟨_, rfl⟩
          have : 2 ^ (i + 1) = 2 * x := by rw [hx, Nat.pow_succ]; omega
          rw [← hx] at hpi
          rw [this, ← hx, imul_i] <;> omega
        rw [dendronlaw11_ExpectTables_s12, cnd d0, em, iadd1 (by omega)]
        rfl) (by
        intro g
        rw [dendronlaw11_ExpectTables_s12, cnd' (by omega)])
      have key : lp dendronlaw11_ExpectTables_s12 K0 ((row, L, 0, 1, 0, ()), ((m.1, m.2, ()), ())) = _ := key
      rw [key, Option.bind_some]
      dsimp only
      obtain ⟨n, hn⟩ : ∃ n, n = 2 ^ k := ⟨_, rfl⟩
      rw [← hn] at gL lL hp ⊢
      have hp : n ≤ 32 := hp
      rw [show (!decide ((0 : Int) = 0)) = false by decide, cond_false, lL, decide_eq_true rfl, Bool.not_true, cond_false]
      have key2 := lp_up (step := dendronlaw11_ExpectTables_s18) (fun i => ((row, L, (n : Int), (i : Int), ()), ((m.1, m.2, ()), ()))) n (r := .inl ((), ())) (by omega) (by
        intro g i hi
        have d0 : (i : Int) < (n : Int) := by omega
        have d1 : (0 : Int) ≤ (i : Int) := by omega
        have d2 : (i : Int) < (L.length : Int) := by omega
        have hw := Value11_ok ha (set := i) (by omega)
        have hw : dendronlaw11_Value (m.1, m.2) row (i : Int) = _ := hw
        have hz : SzQ (sayM m row i) (1 + m.2.length * 1048577) := sayM_sz ha.good ms mt (Nat.le_refl _)
        rw [dendronlaw11_ExpectTables_s18, cnd d0, cnd2 d1 d2, Int.toNat_natCast, gL i hi, Option.bind_some, wrap_u (by omega) (by omega), hw, Option.bind_some, is_self hz (by omega) hz (by omega) rfl, Option.bind_some, Bool.not_true, cond_false, iadd1 (by omega)]
        rfl) (by
        intro g
        rw [dendronlaw11_ExpectTables_s18, cnd' (by omega)])
      have key2 : lp dendronlaw11_ExpectTables_s18 K0 ((row, L, (n : Int), 0, ()), ((m.1, m.2, ()), ())) = _ := key2
      rw [key2, Option.bind_some, law11_awake_ok]
      rfl
  · rw [cnd' he, Table_bad h2 he, Option.bind_some, cnd' he, decide_eq_false he, Bool.not_false, cond_true, cnd (by simp), cnd rfl, law11_awake_ok]
    rfl
end Go.Proofs.YtongppphgbkckaaGreatDoor.X


/- Expect: ExpectLegs. -/
namespace Go.Proofs.YtongppphgbkckaaGreatDoor.X
open Go
set_option linter.unusedVariables false
set_option linter.unusedSimpArgs false

/-! No node stands twice in a good tree. -/
theorem InT.parent {U T : TR} (h : InT U T) : U = T ∨ ∃ i l r, InT (.split i l r) T ∧ (U = l ∨ U = r) := by
  induction T with
  | leaf j => exact .inl h
  | split j a b iha ihb =>
    rcases h with h | h | h
    · exact .inl h
    · rcases iha h with e | ⟨i, l, r, h1, h2⟩
      · exact .inr ⟨j, a, b, .inl rfl, .inl e⟩
      · exact .inr ⟨i, l, r, .inr (.inl h1), h2⟩
    · rcases ihb h with e | ⟨i, l, r, h1, h2⟩
      · exact .inr ⟨j, a, b, .inl rfl, .inr e⟩
      · exact .inr ⟨i, l, r, .inr (.inr h1), h2⟩
theorem InT.trans {A B C : TR} (h : InT A B) (h' : InT B C) : InT A C := by
  induction C with
  | leaf j => cases h'; exact h
  | split j a b iha ihb =>
    rcases h' with h' | h' | h'
    · subst h'; exact h
    · exact .inr (.inl (iha h'))
    · exact .inr (.inr (ihb h'))
theorem apart {t : List NODE} {f : Int} {T : TR} (hc : ∀ j, 0 < j → j < t.length → cnt t t.length j = 1) (hr : RangesP t f) (hT : Is t f T) {i : Nat} {l r : TR} (hs : InT (.split i l r) T) :
    ∀ (n : Nat) (U V : TR), T.size - U.size ≤ n → InT U l → InT V r → U.top = V.top → False := by
  have hk : ∀ {j : Nat} {a b : TR}, InT (.split j a b) T → a.top ∈ kids t j ∧ b.top ∈ kids t j ∧ j < t.length := by
    intro j a b h
    obtain ⟨h1, h2, _, _, h3, h4, _, _⟩ := h.is hT
    rw [kids_split h1 h2, h3, h4]
    simp [h1]
  have hlT := (hs.left (U := .leaf 0)).1
  have hrT := (hs.left (U := .leaf 0)).2
  obtain ⟨k1, k2, ki⟩ := hk hs
  have notin : ∀ {j : Nat} {a b : TR}, InT (.split j a b) T → j = i → (InT (.split j a b) l ∨ InT (.split j a b) r) → False := by
    intro j a b h e hor
    have := h.uniq hs hT e
    have hs := congrArg TR.size this
    rcases hor with ho | ho
    · have := ho.size; simp only [TR.size] at this hs; omega
    · have := ho.size; simp only [TR.size] at this hs; omega
  intro n
  induction n with
  | zero =>
    intro U V hn hU hV e
    have h1 := (hU.trans hlT).size
    have h2 := hU.size
    have h3 := hs.size
    simp only [TR.size] at h3
    omega
  | succ n ih =>
    intro U V hn hU hV e
    have e' := (hU.trans hlT).uniq (hV.trans hrT) hT e
    rcases hU.parent with hu | ⟨j, a, b, hj, hu⟩
    · rcases hV.parent with hv | ⟨j', a', b', hj', hv⟩
      · have hnd := kids_nodup hc hr ki
        obtain ⟨h1, h2, _, _, h3, h4, _, _⟩ := hs.is hT
        rw [kids_split h1 h2, h3, h4] at hnd
        simp at hnd
        subst hu; subst hv
        exact hnd e
      · obtain ⟨q1, q2, q3⟩ := hk (hj'.trans hrT)
        have hm : V.top ∈ kids t j' := by rcases hv with rfl | rfl <;> assumption
        rw [← e, hu] at hm
        have := parent_one hc hr q3 ki hm k1
        exact notin (hj'.trans hrT) this (.inr hj')
    · obtain ⟨p1, p2, p3⟩ := hk (hj.trans hlT)
      have hmu : U.top ∈ kids t j := by rcases hu with rfl | rfl <;> assumption
      rcases hV.parent with hv | ⟨j', a', b', hj', hv⟩
      · have hm : U.top ∈ kids t i := by rw [e, hv]; exact k2
        have := parent_one hc hr p3 ki hmu hm
        exact notin (hj.trans hlT) this (.inl hj)
      · obtain ⟨q1, q2, q3⟩ := hk (hj'.trans hrT)
        have hm : V.top ∈ kids t j' := by rcases hv with rfl | rfl <;> assumption
        rw [← e] at hm
        have hjj := parent_one hc hr p3 q3 hmu hm
        have hsz : U.size < (TR.split j a b).size := by rcases hu with rfl | rfl <;> simp only [TR.size] <;> omega
        have hle := (hj.trans hlT).size
        exact ih (.split j a b) (.split j' a' b') (by omega) hj hj' hjj
theorem mem_leaves {T : TR} {j : Nat} (h : j ∈ leavesT T) : InT (.leaf j) T := by
  induction T with
  | leaf i => simp only [leavesT, List.mem_singleton] at h; subst h; rfl
  | split i l r ihl ihr =>
    simp only [leavesT, List.mem_append] at h
    rcases h with h | h
    · exact .inr (.inl (ihl h))
    · exact .inr (.inr (ihr h))
theorem leaves_nodup {t : List NODE} {f : Int} {T : TR} (hc : ∀ j, 0 < j → j < t.length → cnt t t.length j = 1) (hr : RangesP t f) (hT : Is t f T) : (leavesT T).Nodup := by
  have key : ∀ U, InT U T → (leavesT U).Nodup := by
    intro U
    induction U with
    | leaf i => intro _; simp [leavesT]
    | split i l r ihl ihr =>
      intro h
      have hl := h.left (U := .leaf 0)
      simp only [leavesT]
      rw [List.nodup_append]
      refine ⟨ihl hl.1, ihr hl.2, fun a ha b hb e => ?_⟩
      subst e
      exact apart hc hr hT h _ (.leaf a) (.leaf a) (Nat.le_refl _) (mem_leaves ha) (mem_leaves hb) rfl
  exact key T (InT.self T)

/-! Paths to leaves. -/
abbrev PA := Nat × List AP
def consP (s : AP) (x : PA) : PA := (x.1, s :: x.2)
def pathsT (t : List NODE) (row : List CELL) : TR → List PA
  | .leaf i => [(i, [])]
  | .split i l r => (pathsT t row l).map (consP (featT t i, cov t l.top / cov t i, goL t row i)) ++ (pathsT t row r).map (consP (featT t i, cov t r.top / cov t i, !goL t row i))
def wayA (w : List AP) (p : List AP) : List AP := p.foldl (fun w s => along s.1 s.2.1 s.2.2 w) w
theorem legsT_paths (t : List NODE) (row : List CELL) (T : TR) : ∀ w, legsT t row T w = (pathsT t row T).map fun x => (x.1, rv (nVal (nodeAt t x.1)), wayA w x.2) := by
  induction T with
  | leaf i => intro w; rfl
  | split i l r ihl ihr =>
    intro w
    simp only [legsT, pathsT, List.map_append, List.map_map, ihl, ihr]
    rfl
theorem paths_leaves (t : List NODE) (row : List CELL) (T : TR) : (pathsT t row T).map (·.1) = leavesT T := by
  induction T with
  | leaf i => rfl
  | split i l r ihl ihr =>
    simp only [pathsT, leavesT, List.map_append, List.map_map, ← ihl, ← ihr]
    rfl
def prodF (f : Nat) : List AP → Rat
  | [] => 1
  | s :: p => if s.1 = f then prodF f p * s.2.1 else prodF f p
def hasF (f : Nat) : List AP → Bool
  | [] => false
  | s :: p => decide (s.1 = f) || hasF f p
def okF (f : Nat) : List AP → Bool
  | [] => true
  | s :: p => if s.1 = f then okF f p && s.2.2 else okF f p
/-- The share by a feature, of a leaf below a node. -/
def shareT (t : List NODE) (row : List CELL) (j f : Nat) : TR → Rat × Bool × Bool × Bool
  | .leaf i => (1, decide (i = j), false, true)
  | .split i l r =>
    if (shareT t row j f l).2.1 then
      (if featT t i = f then ((shareT t row j f l).1 * (cov t l.top / cov t i), true, true, (shareT t row j f l).2.2.2 && goL t row i) else ((shareT t row j f l).1, true, (shareT t row j f l).2.2.1, (shareT t row j f l).2.2.2))
    else if (shareT t row j f r).2.1 then
      (if featT t i = f then ((shareT t row j f r).1 * (cov t r.top / cov t i), true, true, (shareT t row j f r).2.2.2 && !goL t row i) else ((shareT t row j f r).1, true, (shareT t row j f r).2.2.1, (shareT t row j f r).2.2.2))
    else (1, false, false, true)
theorem shareT_is (t : List NODE) (row : List CELL) (j f : Nat) (T : TR) : (shareT t row j f T).2.1 = decide (j ∈ leavesT T) := by
  induction T with
  | leaf i => simp [shareT, leavesT, eq_comm]
  | split i l r ihl ihr =>
    simp only [shareT, leavesT, List.mem_append]
    by_cases h1 : j ∈ leavesT l
    · rw [ihl, decide_eq_true h1, if_pos rfl]
      split <;> simp [h1]
    · rw [ihl, decide_eq_false h1, if_neg (by decide)]
      by_cases h2 : j ∈ leavesT r
      · rw [ihr, decide_eq_true h2, if_pos rfl]
        split <;> simp [h2]
      · rw [ihr, decide_eq_false h2, if_neg (by decide)]
        simp [h1, h2]
theorem shareT_path (t : List NODE) (row : List CELL) (f : Nat) (T : TR) (hnd : (leavesT T).Nodup) : ∀ x ∈ pathsT t row T, shareT t row x.1 f T = (prodF f x.2, true, hasF f x.2, okF f x.2) := by
  induction T with
  | leaf i =>
    intro x hx
    simp only [pathsT, List.mem_singleton] at hx
    subst hx
    simp [shareT, prodF, hasF, okF]
  | split i l r ihl ihr =>
    intro x hx
    simp only [leavesT] at hnd
    rw [List.nodup_append] at hnd
    obtain ⟨n1, n2, n3⟩ := hnd
    simp only [pathsT, List.mem_append, List.mem_map] at hx
    rcases hx with ⟨y, hy, rfl⟩ | ⟨y, hy, rfl⟩
    · have h := ihl n1 y hy
      simp only [consP, shareT, h]
      simp only [if_true, prodF, hasF, okF]
      by_cases e : featT t i = f
      · simp [e]
      · simp [e]
    · have h := ihr n2 y hy
      have hyl : y.1 ∉ leavesT l := fun hm => n3 y.1 hm y.1 (by rw [← paths_leaves t row r]; exact List.mem_map.2 ⟨y, hy, rfl⟩) rfl
      have h0 := shareT_is t row y.1 f l
      rw [decide_eq_false hyl] at h0
      simp only [consP, shareT, h, h0]
      simp only [Bool.false_eq_true, if_false, if_true, prodF, hasF, okF]
      by_cases e : featT t i = f
      · simp [e]
      · simp [e]
theorem shareT_sz {t : List NODE} {f0 : Int} {row : List CELL} {j f : Nat} {T : TR} (hs : TSz t 4) (h : Is t f0 T) : SzQ (shareT t row j f T).1 (8 * T.deep + 1) := by
  induction T with
  | leaf i => exact SzQ.one.mono (by simp only [TR.deep]; omega)
  | split i l r ihl ihr =>
    obtain ⟨h1, h2, f0, f1, h3, h4, h5, h6⟩ := h
    have a := ihl h5
    have b := ihr h6
    have ca := share_sz hs h5.top_lt h1
    have cb := share_sz hs h6.top_lt h1
    simp only [shareT, TR.deep]
    split
    · split
      · exact (a.mul ca).mono (by omega)
      · exact a.mono (by omega)
    · split
      · split
        · exact (b.mul cb).mono (by omega)
        · exact b.mono (by omega)
      · exact SzQ.one.mono (by omega)

/-! The part of a feature on a way. -/
def lk (f : Nat) : List AP → Option (Rat × Bool)
  | [] => none
  | p :: w => if p.1 < f then lk f w else if p.1 = f then some (p.2.1, p.2.2) else none
theorem lk_along_same (f : Nat) (q : Rat) (ok : Bool) (w : List AP) : lk f (along f q ok w) = some (match lk f w with | some (x, b) => (x * q, b && ok) | none => (q, ok)) := by
  induction w with
  | nil => simp [lk, along]
  | cons p w ih =>
    simp only [along]
    split
    · rename_i h; simp only [lk, if_pos h, ih]
    · rename_i h
      split
      · rename_i e; simp only [lk, if_neg h, if_pos e, if_neg (Nat.lt_irrefl f), if_true]
      · rename_i e; simp only [lk, if_neg h, if_neg e, if_neg (Nat.lt_irrefl f), if_true]
theorem lk_along_other {f f' : Nat} (hne : f' ≠ f) (q : Rat) (ok : Bool) (w : List AP) : lk f' (along f q ok w) = lk f' w := by
  induction w with
  | nil =>
    simp only [along, lk]
    split
    · rfl
    · rw [if_neg (fun e => hne e.symm)]
  | cons p w ih =>
    simp only [along]
    split
    · simp only [lk, ih]
    · rename_i h
      split
      · rename_i e; simp only [lk, e]
        split
        · rfl
        · rw [if_neg (fun e => hne e.symm), if_neg (fun e => hne e.symm)]
      · rename_i e
        simp only [lk]
        by_cases h1 : f < f'
        · rw [if_pos h1]
        · rw [if_neg h1, if_neg (fun e => hne e.symm), if_neg (by omega), if_neg (by omega)]
def joinF (a : Option (Rat × Bool)) (h : Bool) (q : Rat) (ok : Bool) : Option (Rat × Bool) :=
  match a with
  | some (x, b) => some (x * q, b && ok)
  | none => if h then some (q, ok) else none
theorem lk_way (f : Nat) (p : List AP) : ∀ w, lk f (wayA w p) = joinF (lk f w) (hasF f p) (prodF f p) (okF f p) := by
  induction p with
  | nil =>
    intro w
    show lk f w = _
    cases lk f w with
    | none => rfl
    | some v => obtain ⟨x, b⟩ := v; simp [joinF, prodF, okF, Rat.mul_one]
  | cons s p ih =>
    intro w
    show lk f (wayA (along s.1 s.2.1 s.2.2 w) p) = _
    rw [ih]
    by_cases e : s.1 = f
    · rw [← e, lk_along_same]
      simp only [hasF, prodF, okF, if_true]
      cases lk s.1 w with
      | none => simp only [joinF]; simp [Rat.mul_comm, Bool.and_comm]
      | some v => obtain ⟨x, b⟩ := v; simp only [joinF]; simp [Rat.mul_assoc, Rat.mul_comm, Bool.and_assoc, Bool.and_comm]
    · rw [lk_along_other (fun h => e h.symm)]
      simp only [hasF, prodF, okF, if_neg e, decide_eq_false e, Bool.false_or]
/-- Features rise. -/
def SortA (w : List AP) : Prop := w.Pairwise fun a b => a.1 < b.1
theorem along_sort {f : Nat} {q : Rat} {ok : Bool} {w : List AP} (h : SortA w) : SortA (along f q ok w) := by
  induction w with
  | nil => simp [along, SortA]
  | cons p w ih =>
    have h1 := List.pairwise_cons.1 h
    simp only [along]
    split
    · rename_i hp
      refine List.pairwise_cons.2 ⟨fun a ha => ?_, ih h1.2⟩
      rcases along_mem a ha with e | ⟨p', h3, h4⟩
      · omega
      · have := h1.1 p' h3; omega
    · split
      · rename_i e
        exact List.pairwise_cons.2 ⟨fun a ha => by have := h1.1 a ha; show f < a.1; omega, h1.2⟩
      · refine List.pairwise_cons.2 ⟨fun a ha => ?_, h⟩
        show f < a.1
        rcases List.mem_cons.1 ha with rfl | ha
        · omega
        · have := h1.1 a ha; omega
theorem wayA_sort (p : List AP) : ∀ w, SortA w → SortA (wayA w p) := by
  induction p with
  | nil => intro w h; exact h
  | cons s p ih => intro w h; exact ih _ (along_sort h)
theorem lk_some {f : Nat} {w : List AP} {v : Rat × Bool} (h : lk f w = some v) : ∃ hs : spot f w < w.length, w[spot f w] = (f, v) := by
  induction w with
  | nil => cases h
  | cons p w ih =>
    simp only [lk] at h
    split at h
    · rename_i hp
      have es : spot f (p :: w) = spot f w + 1 := by simp only [spot, if_pos hp]
      obtain ⟨h1, h2⟩ := ih h
      exact ⟨by rw [es]; simpa using h1, by simp only [es, List.getElem_cons_succ]; exact h2⟩
    · rename_i hp
      have es : spot f (p :: w) = 0 := by simp only [spot, if_neg hp]
      split at h
      · rename_i e
        injection h with h
        subst h
        exact ⟨by rw [es]; simp, by simp only [es, List.getElem_cons_zero]; rw [← e]⟩
      · cases h
theorem spot_next {f : Nat} {w : List AP} (h : SortA w) : spot (f + 1) w = spot f w + (if (lk f w).isSome then 1 else 0) := by
  induction w with
  | nil => rfl
  | cons p w ih =>
    have h1 := List.pairwise_cons.1 h
    by_cases hp : p.1 < f
    · have e1 : lk f (p :: w) = lk f w := by simp only [lk, if_pos hp]
      rw [e1]
      simp only [spot]
      rw [if_pos (by omega), if_pos hp, ih h1.2]; omega
    · by_cases e : p.1 = f
      · have e1 : lk f (p :: w) = some (p.2.1, p.2.2) := by simp only [lk, if_neg hp, if_pos e]
        rw [e1]
        simp only [spot]
        rw [if_pos (by omega), if_neg hp]
        have : spot (f + 1) w = 0 := by
          cases w with
          | nil => rfl
          | cons a w => have := h1.1 a List.mem_cons_self; simp only [spot]; rw [if_neg (by omega)]
        rw [this]; rfl
      · have e1 : lk f (p :: w) = none := by simp only [lk, if_neg hp, if_neg e]
        rw [e1]
        simp only [spot]
        rw [if_neg (by omega), if_neg hp]; rfl
theorem spot_all {f : Nat} {w : List AP} (h : ∀ p ∈ w, p.1 < f) : spot f w = w.length := by
  induction w with
  | nil => rfl
  | cons p w ih => simp only [spot, if_pos (h p List.mem_cons_self), ih (fun x hx => h x (List.mem_cons_of_mem _ hx)), List.length_cons]
theorem spot_zero (w : List AP) : spot 0 w = 0 := by cases w <;> simp [spot]
end Go.Proofs.YtongppphgbkckaaGreatDoor.X


/- Expect: ExpectLegs. -/
namespace Go.Proofs.YtongppphgbkckaaGreatDoor.X
open Go
set_option linter.unusedVariables false
set_option linter.unusedSimpArgs false

theorem share_ok {t : List NODE} {row : List CELL} (hs : TSz t 4) (hc : CSz row 9) (hcov : CoversP t) {j f : Nat} (hf : f < row.length) : ∀ (n : Nat) (T : TR), Is t (row.length : Int) T → T.deep ≤ n → T.deep ≤ 1000000 →
    dendronlaw11_share n t (T.top : Int) (j : Int) (f : Int) row = some (canQ (shareT t row j f T).1, (shareT t row j f T).2.1, (shareT t row j f T).2.2.1, (shareT t row j f T).2.2.2) := by
  intro n
  induction n with
  | zero => intro T _ hd; have := T.deep_pos; omega
  | succ n ih =>
    intro T h hd hdd
    show dendronlaw11_share_b (dendronlaw11_share n) t T.top j f row = _
    cases T with
    | leaf i =>
      obtain ⟨h1, h2⟩ := h
      rw [dendronlaw11_share_b, show ((TR.leaf i).top : Int) = (i : Int) from rfl, cnd (by omega), Int.toNat_natCast, List.getElem?_eq_getElem h1, Option.bind_some, show t[i].1 = true from h2, cond_true, ratio_One_ok, Option.bind_some]
      have : decide ((i : Int) = (j : Int)) = decide (i = j) := decide_eq_decide.2 (by omega)
      rw [this]
      rfl
    | split i l r =>
      obtain ⟨h1, h2, f0, f1, h3, h4, h5, h6⟩ := h
      simp only [TR.deep] at hd hdd
      have d0 : (0 : Int) ≤ (i : Int) := by omega
      have z := hs _ (List.getElem_mem h1)
      have tl := h5.top_lt
      have tr := h6.top_lt
      have zl := hs _ (List.getElem_mem tl)
      have zr := hs _ (List.getElem_mem tr)
      have hne : rv (nCov t[i]) ≠ 0 := by have := hcov.ne i h1; rwa [cov_get h1] at this
      have el := ih l h5 (by omega) (by omega)
      have er := ih r h6 (by omega) (by omega)
      have sl := shareT_sz (row := row) (j := j) (f := f) hs h5
      have sr := shareT_sz (row := row) (j := j) (f := f) hs h6
      have o1 := ratio_Div_ok (zl.2.2.sm (by decide)) (z.2.2.sm (by decide))
      have o2 := ratio_Div_ok (zr.2.2.sm (by decide)) (z.2.2.sm (by decide))
      rw [if_neg hne, ← cov_get tl, ← cov_get h1] at o1
      rw [if_neg hne, ← cov_get tr, ← cov_get h1] at o2
      have m1 := ratio_Mul_ok (sl.sm (by omega)) ((share_sz hs tl h1).sm (by decide))
      have m2 := ratio_Mul_ok (sr.sm (by omega)) ((share_sz hs tr h1).sm (by decide))
      rw [rv_canQ, rv_canQ] at m1 m2
      have hft : ((featT t i : Nat) : Int) = nFeat t[i] := by rw [featT, nodeAt_get h1]; omega
      have goF : featT t i = f → ∃ c, row[f]? = some c ∧ route_Left t[i] c = some (goL t row i) := by
        intro e
        obtain ⟨c, g1, g2, g3⟩ := goL_ok (f := 0) hs hc h1 f0 f1
        refine ⟨c, ?_, ?_⟩
        · rw [← e, featT, nodeAt_get h1]; exact g1
        · rw [Left_ok z.1 (by decide) g2 (by decide), g3, show (!nLeaf t[i]) = true by rw [h2]; rfl, Bool.true_and]
      obtain ⟨xl, el'⟩ : ∃ xl, xl = shareT t row j f l := ⟨_, rfl⟩
      obtain ⟨xr, er'⟩ : ∃ xr, xr = shareT t row j f r := ⟨_, rfl⟩
      have eS : shareT t row j f (.split i l r) = if xl.2.1 then (if featT t i = f then (xl.1 * (cov t l.top / cov t i), true, true, xl.2.2.2 && goL t row i) else (xl.1, true, xl.2.2.1, xl.2.2.2))
        else if xr.2.1 then (if featT t i = f then (xr.1 * (cov t r.top / cov t i), true, true, xr.2.2.2 && !goL t row i) else (xr.1, true, xr.2.2.1, xr.2.2.2)) else (1, false, false, true) := by rw [el', er']; rfl
      rw [← el'] at el sl m1
      rw [← er'] at er sr m2
      rw [eS]
      obtain ⟨q1, isl, al, okl⟩ := xl
      obtain ⟨q2, isr, ar, okr⟩ := xr
      obtain ⟨k, hk⟩ : ∃ k, K0 = k + 3 := ⟨18446744073709551613, rfl⟩
      rw [dendronlaw11_share_b, show ((TR.split i l r).top : Int) = (i : Int) from rfl, cnd d0, Int.toNat_natCast, List.getElem?_eq_getElem h1, Option.bind_some, show t[i].1 = false from h2, cond_false, hk]
      dsimp only at el er m1 m2 ⊢
      have dt : (0 : Int) ≤ ((l.top : Nat) : Int) := by omega
      have du : (0 : Int) ≤ ((r.top : Nat) : Int) := by omega
      have df : (0 : Int) ≤ (f : Int) := by omega
      -- round 0
      have r0 : ∀ g : _ → _, dendronlaw11_share_s5 (dendronlaw11_share n) g ((t, (j : Int), (f : Int), row, 0, ()), ((false, [], [], ()), (false, t[i].2.1, t[i].2.2.1.1.1, t[i].2.2.1.1.2, t[i].2.2.1.2, t[i].2.2.2.1, t[i].2.2.2.2.1, t[i].2.2.2.2.2.1, t[i].2.2.2.2.2.2.1.1.1, t[i].2.2.2.2.2.2.1.1.2, t[i].2.2.2.2.2.2.1.2, t[i].2.2.2.2.2.2.2.1.1, t[i].2.2.2.2.2.2.2.1.2, t[i].2.2.2.2.2.2.2.2, ()), ())) =
          if isl then some (.inr (if featT t i = f then ((true, true, okl && goL t row i, ()), (((canQ (q1 * (cov t l.top / cov t i))).1.1, (canQ (q1 * (cov t l.top / cov t i))).1.2, (canQ (q1 * (cov t l.top / cov t i))).2, ()), ())) else ((true, al, okl, ()), (((canQ q1).1.1, (canQ q1).1.2, (canQ q1).2, ()), ()))))
          else g ((t, (j : Int), (f : Int), row, 1, ()), ((false, [], [], ()), (false, t[i].2.1, t[i].2.2.1.1.1, t[i].2.2.1.1.2, t[i].2.2.1.2, t[i].2.2.2.1, t[i].2.2.2.2.1, t[i].2.2.2.2.2.1, t[i].2.2.2.2.2.2.1.1.1, t[i].2.2.2.2.2.2.1.1.2, t[i].2.2.2.2.2.2.1.2, t[i].2.2.2.2.2.2.2.1.1, t[i].2.2.2.2.2.2.2.1.2, t[i].2.2.2.2.2.2.2.2, ()), ())) := by
        intro g
        rw [dendronlaw11_share_s5, cnd (by decide), cnd' (by decide), show t[i].2.2.2.1 = _ from h3, el, Option.bind_some]
        cases isl with
        | false => rfl
        | true =>
          rw [Bool.not_true, cond_false, if_pos rfl]
          by_cases e : featT t i = f
          · obtain ⟨c, c1, c2⟩ := goF e
            have c2 : route_Left (false, (t[i].2.1, (((t[i].2.2.1.1.1, t[i].2.2.1.1.2), t[i].2.2.1.2), (((l.top : Nat) : Int), (t[i].2.2.2.2.1, (t[i].2.2.2.2.2.1, (((t[i].2.2.2.2.2.2.1.1.1, t[i].2.2.2.2.2.2.1.1.2), t[i].2.2.2.2.2.2.1.2), ((t[i].2.2.2.2.2.2.2.1.1, t[i].2.2.2.2.2.2.2.1.2), t[i].2.2.2.2.2.2.2.2)))))))) c = some (goL t row i) := by
              rw [← c2, ← show t[i].2.2.2.1 = _ from h3, ← show t[i].1 = false from h2]
            rw [if_pos e, cnd (by rw [← e, hft]), cnd dt, Int.toNat_natCast, List.getElem?_eq_getElem tl, Option.bind_some]
            show (ratio_Div (nCov t[l.top]) (nCov t[i])).bind _ = _
            rw [o1, Option.bind_some, m1, Option.bind_some]
            dsimp only
            cases okl with
            | true => rw [cond_true, cnd df, Int.toNat_natCast, c1, Option.bind_some, c2, Option.bind_some]; simp
            | false => rfl
          · rw [if_neg e, cnd' (by rw [show t[i].2.1 = nFeat t[i] from rfl, ← hft]; omega)]
      have r1 : ∀ g : _ → _, dendronlaw11_share_s5 (dendronlaw11_share n) g ((t, (j : Int), (f : Int), row, 1, ()), ((false, [], [], ()), (false, t[i].2.1, t[i].2.2.1.1.1, t[i].2.2.1.1.2, t[i].2.2.1.2, t[i].2.2.2.1, t[i].2.2.2.2.1, t[i].2.2.2.2.2.1, t[i].2.2.2.2.2.2.1.1.1, t[i].2.2.2.2.2.2.1.1.2, t[i].2.2.2.2.2.2.1.2, t[i].2.2.2.2.2.2.2.1.1, t[i].2.2.2.2.2.2.2.1.2, t[i].2.2.2.2.2.2.2.2, ()), ())) =
          if isr then some (.inr (if featT t i = f then ((true, true, okr && !goL t row i, ()), (((canQ (q2 * (cov t r.top / cov t i))).1.1, (canQ (q2 * (cov t r.top / cov t i))).1.2, (canQ (q2 * (cov t r.top / cov t i))).2, ()), ())) else ((true, ar, okr, ()), (((canQ q2).1.1, (canQ q2).1.2, (canQ q2).2, ()), ()))))
          else g ((t, (j : Int), (f : Int), row, 2, ()), ((false, [], [], ()), (false, t[i].2.1, t[i].2.2.1.1.1, t[i].2.2.1.1.2, t[i].2.2.1.2, t[i].2.2.2.1, t[i].2.2.2.2.1, t[i].2.2.2.2.2.1, t[i].2.2.2.2.2.2.1.1.1, t[i].2.2.2.2.2.2.1.1.2, t[i].2.2.2.2.2.2.1.2, t[i].2.2.2.2.2.2.2.1.1, t[i].2.2.2.2.2.2.2.1.2, t[i].2.2.2.2.2.2.2.2, ()), ())) := by
        intro g
        rw [dendronlaw11_share_s5, cnd (by decide), cnd (by decide), show t[i].2.2.2.2.1 = _ from h4, er, Option.bind_some]
        cases isr with
        | false => rfl
        | true =>
          rw [Bool.not_true, cond_false, if_pos rfl]
          by_cases e : featT t i = f
          · obtain ⟨c, c1, c2⟩ := goF e
            have c2 : route_Left (false, (t[i].2.1, (((t[i].2.2.1.1.1, t[i].2.2.1.1.2), t[i].2.2.1.2), (t[i].2.2.2.1, (((r.top : Nat) : Int), (t[i].2.2.2.2.2.1, (((t[i].2.2.2.2.2.2.1.1.1, t[i].2.2.2.2.2.2.1.1.2), t[i].2.2.2.2.2.2.1.2), ((t[i].2.2.2.2.2.2.2.1.1, t[i].2.2.2.2.2.2.2.1.2), t[i].2.2.2.2.2.2.2.2)))))))) c = some (goL t row i) := by
              rw [← c2, ← show t[i].2.2.2.2.1 = _ from h4, ← show t[i].1 = false from h2]
            rw [if_pos e, cnd (by rw [← e, hft]), cnd du, Int.toNat_natCast, List.getElem?_eq_getElem tr, Option.bind_some]
            show (ratio_Div (nCov t[r.top]) (nCov t[i])).bind _ = _
            rw [o2, Option.bind_some, m2, Option.bind_some]
            dsimp only
            cases okr with
            | true => rw [cond_true, cnd df, Int.toNat_natCast, c1, Option.bind_some, c2, Option.bind_some]; simp
            | false => rfl
          · rw [if_neg e, cnd' (by rw [show t[i].2.1 = nFeat t[i] from rfl, ← hft]; omega)]
      show Option.bind (dendronlaw11_share_s5 (dendronlaw11_share n) (lp (dendronlaw11_share_s5 (dendronlaw11_share n)) (k + 2)) _) _ = _
      rw [r0]
      cases isl with
      | true =>
        rw [if_pos rfl, if_pos rfl, Option.bind_some]
        by_cases e : featT t i = f
        · rw [if_pos e, if_pos e]
        · rw [if_neg e, if_neg e]
      | false =>
        rw [if_neg (by decide), if_neg (by decide)]
        show Option.bind (dendronlaw11_share_s5 (dendronlaw11_share n) (lp (dendronlaw11_share_s5 (dendronlaw11_share n)) (k + 1)) _) _ = _
        rw [r1]
        cases isr with
        | true =>
          rw [if_pos rfl, if_pos rfl, Option.bind_some]
          by_cases e : featT t i = f
          · rw [if_pos e, if_pos e]
          · rw [if_neg e, if_neg e]
        | false =>
          rw [if_neg (by decide), if_neg (by decide)]
          show Option.bind (dendronlaw11_share_s5 (dendronlaw11_share n) (lp (dendronlaw11_share_s5 (dendronlaw11_share n)) k) _) _ = _
          rw [dendronlaw11_share_s5, cnd' (by decide), Option.bind_some]
          dsimp only
          rw [ratio_One_ok]
          rfl
end Go.Proofs.YtongppphgbkckaaGreatDoor.X


/- Expect: ExpectLegs. -/
namespace Go.Proofs.YtongppphgbkckaaGreatDoor.X
open Go
set_option linter.unusedVariables false
set_option linter.unusedSimpArgs false

theorem partOf {w : List AP} {f : Nat} {v : Rat × Bool} (h : lk f w = some v) : ∃ hs : spot f w < w.length, (encW w)[spot f w]? = some ((f : Int), canQ v.1, v.2) := by
  obtain ⟨h1, h2⟩ := lk_some h
  exact ⟨h1, by rw [encW_get h1, h2]; rfl⟩

theorem legs_inner {t : List NODE} {row : List CELL} {T : TR} (hs : TSz t 4) (hc : CSz row 9) (hcov : CoversP t) (hnd : (leavesT T).Nodup) (hT : Is t (row.length : Int) T) (h0 : T.top = 0) (hd : T.deep ≤ 1000) (hrl : row.length ≤ 64)
    {L : List AL} {lv : List Nat} {i : Nat} (hi : i < L.length) (hi' : i < lv.length) {x : PA} (hx : x ∈ pathsT t row T) (hL : L[i] = (x.1, rv (nVal (nodeAt t x.1)), wayA [] x.2)) (hlv : lv[i] = x.1) (hw : WSz (wayA [] x.2) 16 row.length) :
    lp dendronlaw11_ExpectLegs_s16 K0 ((t, row, L.map encL, ints lv, (i : Int), 0, 0, ()), ()) = some (.inl ((t, row, L.map encL, ints lv, (i : Int), ((wayA [] x.2).length : Int), ()), ())) := by
  obtain ⟨w, ew⟩ : ∃ w, w = wayA [] x.2 := ⟨_, rfl⟩
  rw [← ew] at hL hw ⊢
  have hsort : SortA w := by rw [ew]; exact wayA_sort _ _ List.Pairwise.nil
  have hlk : ∀ f, lk f w = if hasF f x.2 then some (prodF f x.2, okF f x.2) else none := fun f => by rw [ew, lk_way]; rfl
  have hwl := hw.2.1
  have h00 : spot 0 w = 0 := spot_zero w
  have hall := spot_all hw.2.2
  have gL : (L.map encL)[i]? = some (encL L[i]) := by simp [hi]
  have eL : (encL L[i]).2.2 = encW w := by rw [hL]; rfl
  have lW := encW_len w
  have key := lp_up (step := dendronlaw11_ExpectLegs_s16) (fun f => ((t, row, L.map encL, ints lv, (i : Int), ((spot f w : Nat) : Int), (f : Int), ()), ())) row.length (r := .inl ((t, row, L.map encL, ints lv, (i : Int), (w.length : Int), ()), ())) (by omega) (by
    intro g f hf
    have d0 : (f : Int) < (row.length : Int) := by omega
    have d1 : (0 : Int) ≤ (i : Int) := by omega
    have d2 : (i : Int) < ((L.map encL).length : Int) := by rw [List.length_map]; omega
    have d3 : (i : Int) < ((ints lv).length : Int) := by simp [ints]; omega
    have hsh := share_ok hs hc hcov (j := x.1) hf R0 T hT (by unfold R0; omega) (by omega)
    rw [h0, shareT_path t row f T hnd x hx] at hsh
    have hsh : dendronlaw11_share R0 t 0 (x.1 : Int) (f : Int) row = some (canQ (prodF f x.2), true, hasF f x.2, okF f x.2) := hsh
    have hnx := spot_next (f := f) hsort
    have hl := hlk f
    rw [dendronlaw11_ExpectLegs_s16, cnd d0, cnd2 d1 d3, Int.toNat_natCast, ints_get hi', Option.bind_some, hlv, hsh, Option.bind_some, Bool.not_true, cond_false]
    dsimp only
    cases hh : hasF f x.2 with
    | false =>
      rw [hh, if_neg (by decide)] at hl
      rw [hl] at hnx
      have hnx : spot (f + 1) w = spot f w := hnx
      rw [Bool.not_false, cond_true, iadd1 (by omega), hnx]
      rfl
    | true =>
      rw [hh, if_pos rfl] at hl
      rw [hl] at hnx
      have hnx : spot (f + 1) w = spot f w + 1 := hnx
      obtain ⟨h1, h2⟩ := partOf hl
      obtain ⟨h1', h3⟩ := lk_some hl
      have hsz := hw.1 _ (List.getElem_mem h1)
      rw [h3] at hsz
      have hsz : SzQ (prodF f x.2) (8 * 16 + 1) := hsz
      have d4 : ¬ ((spot f w : Nat) : Int) ≥ ((encL L[i]).2.2.length : Int) := by rw [eL, lW]; omega
      have d5 : (0 : Int) ≤ ((spot f w : Nat) : Int) := by omega
      have his := is_self hsz (by decide) hsz (by decide) rfl
      rw [Bool.not_true, cond_false, cnd2 d1 d2, gL, Option.bind_some, cnd' d4, cnd2 d1 d2, Option.bind_some, cnd d5, Int.toNat_natCast, eL, h2, Option.bind_some]
      dsimp only
      rw [decide_eq_true rfl, Bool.not_true, cond_false, cnd2 d1 d2, Option.bind_some, cnd d5, eL, h2, Option.bind_some]
      dsimp only
      rw [beq_self_eq_true, Bool.not_true, cond_false, cnd2 d1 d2, Option.bind_some, cnd d5, eL, h2, Option.bind_some]
      dsimp only
      rw [his, Option.bind_some, Bool.not_true, cond_false, iadd1 (by omega), iadd1 (by omega), hnx]
      rfl) (by
    intro g
    rw [dendronlaw11_ExpectLegs_s16, cnd' (by omega), hall])
  rw [h00] at key
  exact key

theorem ExpectLegs_true (t0 : List NODE) (row0 : List CELL) (hl : t0.length ≤ 9223372036854775807) (hr : row0.length ≤ 9223372036854775807) : dendronlaw11_ExpectLegs t0 row0 = some true := by
  have hf := Few07_ok (0, [t0]) (by simp) (by intro u hu; simp at hu; subst hu; exact hl)
  have ht := cutTree_len t0
  have hs := cutTree_sz t0
  obtain ⟨t, et⟩ : ∃ t, t = cutTree t0 := ⟨_, rfl⟩
  have hf' : dendronlaw07_Few (0, [t0]) = some (0, [t]) := by rw [hf, et]; rfl
  rw [← et] at ht hs
  have h9 := Few09_ok row0 6 hr (by decide)
  have hc := cutRow_sz (row0.take 6)
  have hrl : ((row0.take 6).map cutCell).length ≤ 6 := by simp; omega
  obtain ⟨row, er⟩ : ∃ row, row = (row0.take 6).map cutCell := ⟨_, rfl⟩
  rw [← er] at h9 hc hrl
  have h9 : dendronlaw09_Few row0 6 = some row := h9
  obtain ⟨b, h1, h2⟩ := TreeV_ok (f := (row.length : Int)) ht hs
  rw [dendronlaw11_ExpectLegs, h9, Option.bind_some, hf', Option.bind_some, List.getElem?_cons_zero, Option.bind_some]
  cases b with
  | false =>
    rw [Legs_bad h1, Option.bind_some, h1, Option.bind_some, Bool.not_false, cond_true, cnd (by simp), cnd rfl, law11_awake_ok]
    rfl
  | true =>
    have hg := h2.1 rfl
    obtain ⟨g1, g2, g3⟩ := hg.treeOf (i := 0) (by simp)
    have g1 : Is t (row.length : Int) (treeOf t) := g1
    have g2 : (treeOf t).top = 0 := g2
    have g3 : (treeOf t).deep ≤ t.length + 1 := g3
    have hz := TR.size_le (T := treeOf t) (by omega)
    have hcov : CoversP t := hg.covers (i := 0) (by simp)
    have hnd := leaves_nodup (hg.shape (i := 0) (by simp)).1 (hg.ranges (i := 0) (by simp)) g1
    obtain ⟨k1, k2, k3⟩ := Legs_ok ht hs hc hg (by omega)
    have hlv := leaves_ok R0 (treeOf t) g1 (by unfold R0; omega) (by omega)
    rw [g2] at hlv
    have hlv : dendronlaw11_leaves R0 t 0 = some (ints (leavesT (treeOf t))) := hlv
    have hp := legsT_paths t row (treeOf t) []
    have hq := paths_leaves t row (treeOf t)
    have hlen := legsT_len t row (treeOf t) []
    obtain ⟨L, eL⟩ : ∃ L, L = legsT t row (treeOf t) [] := ⟨_, rfl⟩
    obtain ⟨lv, elv⟩ : ∃ lv, lv = leavesT (treeOf t) := ⟨_, rfl⟩
    rw [← eL] at k1 k2 k3 hlen hp
    rw [← elv] at hlv hq hlen
    have li : (ints lv).length = lv.length := by simp [ints]
    have lm : (L.map encL).length = L.length := by simp
    rw [k1, Option.bind_some, h1, Option.bind_some, Bool.not_true, cond_false, hlv, Option.bind_some, show (!decide ((0 : Int) = 0)) = false by decide, cond_false]
    dsimp only
    rw [lm, li, hlen, decide_eq_true rfl, Bool.not_true, cond_false]
    have key := lp_up (step := dendronlaw11_ExpectLegs_s10) (fun i => ((t, row, L.map encL, ints lv, (i : Int), ()), ())) L.length (r := .inl ((), ())) (by omega) (by
      intro g i hi
      have hi' : i < lv.length := by omega
      have hip : i < (pathsT t row (treeOf t)).length := by rw [hp] at hi; simpa using hi
      obtain ⟨x, ex⟩ : ∃ x, x = (pathsT t row (treeOf t))[i] := ⟨_, rfl⟩
      have hx : x ∈ pathsT t row (treeOf t) := by rw [ex]; exact List.getElem_mem hip
      have hLi : L[i] = (x.1, rv (nVal (nodeAt t x.1)), wayA [] x.2) := by
        have : L[i]? = some (x.1, rv (nVal (nodeAt t x.1)), wayA [] x.2) := by
          rw [hp, List.getElem?_map, List.getElem?_eq_getElem hip, ← ex]; rfl
        rw [List.getElem?_eq_getElem hi] at this
        exact Option.some.inj this
      have hlvi : lv[i] = x.1 := by
        have : lv[i]? = some x.1 := by rw [← hq, List.getElem?_map, List.getElem?_eq_getElem hip, ← ex]; rfl
        rw [List.getElem?_eq_getElem hi'] at this
        exact Option.some.inj this
      have hwi := (k2 _ (List.getElem_mem hi)).1
      have hvi := (k2 _ (List.getElem_mem hi)).2
      rw [hLi] at hwi hvi
      have hwi : WSz (wayA [] x.2) 16 row.length := hwi
      have hvi : SzQ (rv (nVal (nodeAt t x.1))) 4 := hvi
      have hin := legs_inner hs hc hcov hnd g1 g2 (by omega) (by omega) hi hi' hx hLi hlvi hwi
      have hxl : x.1 < t.length := (leavesT_lt g1 x.1 (by rw [← elv, ← hq]; exact List.mem_map.2 ⟨x, hx, rfl⟩)).1
      have zx := hs _ (List.getElem_mem hxl)
      have d0 : (i : Int) < ((L.map encL).length : Int) := by omega
      have d1 : (0 : Int) ≤ (i : Int) := by omega
      have d3 : (i : Int) < ((ints lv).length : Int) := by omega
      have gL : (L.map encL)[i]? = some ((x.1 : Int), canQ (rv (nVal (nodeAt t x.1))), encW (wayA [] x.2)) := by
        rw [List.getElem?_map, List.getElem?_eq_getElem hi, hLi]; rfl
      have his := Is_ok hvi (by decide) zx.2.1 (by decide)
      rw [decide_eq_true (by rw [nodeAt_get hxl])] at his
      rw [dendronlaw11_ExpectLegs_s10, cnd d0, cnd2 d1 d0, Int.toNat_natCast, gL, Option.bind_some, cnd2 d1 d3, ints_get hi', Option.bind_some, hlvi]
      dsimp only
      rw [decide_eq_true rfl, Bool.not_true, cond_false, cnd2 d1 d0, Option.bind_some, cnd2 d1 d3, Option.bind_some, cnd (by omega), Int.toNat_natCast, List.getElem?_eq_getElem hxl, Option.bind_some]
      show (dendronref10_Is (canQ (rv (nVal (nodeAt t x.1)))) (nVal t[x.1])).bind _ = _
      rw [his, Option.bind_some, Bool.not_true, cond_false, hin, Option.bind_some]
      dsimp only
      rw [cnd2 d1 d0, Int.toNat_natCast, gL, Option.bind_some]
      dsimp only
      rw [encW_len, decide_eq_true rfl, Bool.not_true, cond_false, iadd1 (by omega)]
      rfl) (by
      intro g
      rw [dendronlaw11_ExpectLegs_s10, cnd' (by omega)])
    have key : lp dendronlaw11_ExpectLegs_s10 K0 ((t, row, L.map encL, ints lv, 0, ()), ()) = _ := key
    rw [key, Option.bind_some, law11_awake_ok]
    rfl
end Go.Proofs.YtongppphgbkckaaGreatDoor.X


/- Saabas: what each split on a way adds. -/
namespace Go.Proofs.YtongppphgbkckaaGreatDoor.X
open Go
set_option linter.unusedVariables false
set_option linter.unusedSimpArgs false

abbrev ST := Nat × Nat × Nat × Rat
abbrev STEP := Int × Int × Int × RAT
def encS (s : ST) : STEP := ((s.1 : Int), ((s.2.1 : Int), ((s.2.2.1 : Int), canQ s.2.2.2)))
/-- What each split on a row's way adds. -/
def stepsT (t : List NODE) (row : List CELL) (k : Nat) : TR → List ST
  | .leaf _ => []
  | .split i l r => (k, i, (nFeat (nodeAt t i)).toNat, (if goL t row i then mT t l else mT t r) - mT t (.split i l r)) :: (if goL t row i then stepsT t row k l else stepsT t row k r)
theorem stepsT_len (t : List NODE) (row : List CELL) (k : Nat) (T : TR) : (stepsT t row k T).length + 1 = (wayT t row T).length := by
  induction T with
  | leaf i => rfl
  | split i l r ihl ihr =>
    simp only [stepsT, wayT, List.length_cons]
    cases goL t row i with
    | true => rw [if_pos rfl, if_pos rfl, ihl]
    | false => rw [if_neg (by decide), if_neg (by decide), ihr]
/-- The steps by the way's places. -/
theorem stepsT_get {t : List NODE} {f : Int} {row : List CELL} {k : Nat} {T : TR} (h : Is t f T) : ∀ p (hp : p < (stepsT t row k T).length), ∃ U V, InT U T ∧ InT V T ∧ (wayT t row T)[p]? = some U.top ∧ (wayT t row T)[p + 1]? = some V.top ∧ (∃ i l r, U = .split i l r) ∧ (stepsT t row k T)[p] = (k, U.top, (nFeat (nodeAt t U.top)).toNat, mT t V - mT t U) := by
  induction T with
  | leaf i => intro p hp; simp [stepsT] at hp
  | split i l r ihl ihr =>
    obtain ⟨h1, h2, f0, f1, h3, h4, h5, h6⟩ := h
    intro p hp
    have hd : ∀ U : TR, (wayT t row U)[0]? = some U.top := by intro U; cases U <;> rfl
    cases hg : goL t row i with
    | true =>
      have e1 : stepsT t row k (.split i l r) = (k, i, (nFeat (nodeAt t i)).toNat, mT t l - mT t (.split i l r)) :: stepsT t row k l := by simp only [stepsT, hg, if_true]
      have e2 : wayT t row (.split i l r) = i :: wayT t row l := by simp only [wayT, hg, if_true]
      rw [e2]
      cases p with
      | zero =>
        refine ⟨.split i l r, l, .inl rfl, .inr (.inl (InT.self l)), rfl, by rw [List.getElem?_cons_succ]; exact hd l, ⟨i, l, r, rfl⟩, ?_⟩
        simp only [e1, List.getElem_cons_zero]
        rfl
      | succ p =>
        have hp' : p < (stepsT t row k l).length := by rw [e1] at hp; simpa using hp
        obtain ⟨U, V, hU, hV, g1, g2, g3, g4⟩ := ihl h5 p hp'
        refine ⟨U, V, .inr (.inl hU), .inr (.inl hV), by rw [List.getElem?_cons_succ]; exact g1, by rw [List.getElem?_cons_succ]; exact g2, g3, ?_⟩
        simp only [e1, List.getElem_cons_succ]
        exact g4
    | false =>
      have e1 : stepsT t row k (.split i l r) = (k, i, (nFeat (nodeAt t i)).toNat, mT t r - mT t (.split i l r)) :: stepsT t row k r := by simp [stepsT, hg]
      have e2 : wayT t row (.split i l r) = i :: wayT t row r := by simp [wayT, hg]
      rw [e2]
      cases p with
      | zero =>
        refine ⟨.split i l r, r, .inl rfl, .inr (.inr (InT.self r)), rfl, by rw [List.getElem?_cons_succ]; exact hd r, ⟨i, l, r, rfl⟩, ?_⟩
        simp only [e1, List.getElem_cons_zero]
        rfl
      | succ p =>
        have hp' : p < (stepsT t row k r).length := by rw [e1] at hp; simpa using hp
        obtain ⟨U, V, hU, hV, g1, g2, g3, g4⟩ := ihr h6 p hp'
        refine ⟨U, V, .inr (.inr hU), .inr (.inr hV), by rw [List.getElem?_cons_succ]; exact g1, by rw [List.getElem?_cons_succ]; exact g2, g3, ?_⟩
        simp only [e1, List.getElem_cons_succ]
        exact g4
theorem stepsT_sz {t : List NODE} {f : Int} {row : List CELL} {k : Nat} {T : TR} (hs : TSz t 4) (h : Is t f T) (hz : T.size ≤ 65536) (h0 : 0 ≤ f) : ∀ s ∈ stepsT t row k T, SzQ s.2.2.2 2100000 ∧ ((s.2.2.1 : Nat) : Int) < f ∧ ((s.2.2.1 : Nat) : Int) = nFeat (nodeAt t s.2.1) ∧ s.2.1 < t.length := by
  intro s hm
  obtain ⟨p, hp, rfl⟩ := List.getElem_of_mem hm
  obtain ⟨U, V, hU, hV, _, _, ⟨i, l, r, e⟩, g⟩ := stepsT_get h p hp
  have u := hU.size
  have v := hV.size
  have su := (mT_sz hs (hU.is h)).mono (m := 1048576) (by omega)
  have sv := (mT_sz hs (hV.is h)).mono (m := 1048576) (by omega)
  rw [g]
  refine ⟨(sv.sub su).mono (by decide), ?_⟩
  have hI := hU.is h
  rw [e] at hI
  obtain ⟨h1, h2, f0, f1, _⟩ := hI
  have et : U.top = i := by rw [e]; rfl
  refine ⟨?_, ?_, by rw [et]; exact h1⟩
  · show (((nFeat (nodeAt t U.top)).toNat : Nat) : Int) < f
    rw [et, nodeAt_get h1]; omega
  · show (((nFeat (nodeAt t U.top)).toNat : Nat) : Int) = nFeat (nodeAt t U.top)
    rw [et, nodeAt_get h1]; omega
/-- All steps of a model's first so many trees. -/
def stepsM (m : MODEL) (row : List CELL) : Nat → List ST
  | 0 => []
  | n + 1 => stepsM m row n ++ stepsT (treeAt m n) row n (treeOf (treeAt m n))

/-- The program's loop over a way. -/
theorem steps_inner {t : List NODE} {f : Int} {row : List CELL} {T : TR} {k : Nat} (hs : TSz t 4) (h : Is t f T) (hz : T.size ≤ 65536) (h0 : 0 ≤ f) (hd : T.deep ≤ 1000) {out : List RAT} (ho : meansL t T out) (m : MODEL) (a : List (List NODE)) (b c : Int) {acc : List ST} (hacc : acc.length ≤ 100000) :
    lp saabas_Steps_s11 K0 ((row, acc.map encS, (k : Int), t, ints (wayT t row T), out, 1, a, b, c, ()), ((m.1, m.2, ()), ())) = some ((row, (acc ++ stepsT t row k T).map encS, a, b, c, ()), ((m.1, m.2, ()), ())) := by
  obtain ⟨hol, ho⟩ := ho
  have hlen := stepsT_len t row k T
  have hwl := wayT_len t row T
  have li : (ints (wayT t row T)).length = (wayT t row T).length := by simp [ints]
  have key := lp_up (step := saabas_Steps_s11) (fun p => ((row, (acc ++ (stepsT t row k T).take p).map encS, (k : Int), t, ints (wayT t row T), out, ((p + 1 : Nat) : Int), a, b, c, ()), ((m.1, m.2, ()), ()))) (stepsT t row k T).length
    (r := ((row, (acc ++ stepsT t row k T).map encS, a, b, c, ()), ((m.1, m.2, ()), ()))) (by omega) (by
    intro g p hp
    obtain ⟨U, V, hU, hV, g1, g2, ⟨i, l, r, eU⟩, g3⟩ := stepsT_get h p hp
    have hUt := (hU.is h).top_lt
    have hVt := (hV.is h).top_lt
    have d0 : ((p + 1 : Nat) : Int) < ((ints (wayT t row T)).length : Int) := by omega
    have d1 : (0 : Int) ≤ ((p + 1 : Nat) : Int) := by omega
    have i1 : isub .i64 ((p + 1 : Nat) : Int) 1 = (p : Int) := by rw [isub_i] <;> omega
    have d2 : (0 : Int) ≤ (p : Int) := by omega
    have d3 : (p : Int) < ((ints (wayT t row T)).length : Int) := by omega
    have x1 : (ints (wayT t row T))[p]? = some ((U.top : Nat) : Int) := by rw [ints, List.getElem?_map, g1]; rfl
    have x2 : (ints (wayT t row T))[p + 1]? = some ((V.top : Nat) : Int) := by rw [ints, List.getElem?_map, g2]; rfl
    have oU := ho U hU
    have oV := ho V hV
    have u := hU.size
    have v := hV.size
    have su := (mT_sz hs (hU.is h)).mono (m := 1048576) (by omega)
    have sv := (mT_sz hs (hV.is h)).mono (m := 1048576) (by omega)
    have hsub := ratio_Sub_ok (sv.sm (by decide)) (su.sm (by decide))
    rw [rv_canQ, rv_canQ] at hsub
    have dU : (0 : Int) ≤ ((U.top : Nat) : Int) := by omega
    have dV : (0 : Int) ≤ ((V.top : Nat) : Int) := by omega
    have dU' : ((U.top : Nat) : Int) < (out.length : Int) := by omega
    have dV' : ((V.top : Nat) : Int) < (out.length : Int) := by omega
    have hI := hU.is h
    rw [eU] at hI
    obtain ⟨h1, h2, f0, f1, _⟩ := hI
    have et : U.top = i := by rw [eU]; rfl
    have ef : ((nFeat (nodeAt t U.top)).toNat : Int) = t[U.top].2.1 := by
      rw [nodeAt_get hUt]
      have : nFeat t[U.top] = nFeat t[i] := by simp only [et]
      show (((nFeat t[U.top]).toNat : Nat) : Int) = nFeat t[U.top]
      omega
    have e1 : (acc ++ (stepsT t row k T).take (p + 1)).map encS = (acc ++ (stepsT t row k T).take p).map encS ++ [((k : Int), (((U.top : Nat) : Int), (t[U.top].2.1, canQ (mT t V - mT t U))))] := by
      rw [List.take_succ_eq_append_getElem hp, ← List.append_assoc, List.map_append (l₁ := acc ++ (stepsT t row k T).take p), g3, ← ef]
      rfl
    rw [saabas_Steps_s11, cnd d0, i1, cnd2 d2 d3, Int.toNat_natCast, x1, Option.bind_some, cnd2 d2 d3, Option.bind_some, cnd dU, Int.toNat_natCast, List.getElem?_eq_getElem hUt, Option.bind_some, cnd2 d1 d0, Int.toNat_natCast, x2, Option.bind_some, cnd2 dV dV', Int.toNat_natCast, oV, Option.bind_some, cnd2 d2 d3, Option.bind_some, cnd2 dU dU', Int.toNat_natCast, oU, Option.bind_some, hsub, Option.bind_some, blt (by simp; omega), cond_true, e1, iadd1 (by omega)]
    rfl) (by
    intro g
    rw [saabas_Steps_s11, cnd' (by omega), List.take_of_length_le (Nat.le_refl _)])
  have key : lp saabas_Steps_s11 K0 ((row, (acc ++ []).map encS, (k : Int), t, ints (wayT t row T), out, 1, a, b, c, ()), ((m.1, m.2, ()), ())) = _ := key
  rw [List.append_nil] at key
  exact key

/-- What is asked of a model's tree. -/
theorem Askd.tree2 {m : MODEL} {row : List CELL} (h : Askd m row) {i : Nat} (hi : i < m.2.length) : (treeOf m.2[i]).size ≤ 65536 ∧ treeAt m i = m.2[i] ∧ Is m.2[i] m.1 (treeOf m.2[i]) ∧ (treeOf m.2[i]).top = 0 ∧ (treeOf m.2[i]).deep ≤ 16 ∧ Good (m.1, [m.2[i]]) := by
  obtain ⟨t1, t2, t3, t4, t5⟩ := h.tree hi
  rw [t5] at t2 t3 t4
  have := TR.size_le t4
  have hg := h.goodT hi
  rw [h.len] at hg t2
  exact ⟨by omega, t5, t2, t3, t4, hg⟩
theorem stepsM_len {m : MODEL} {row : List CELL} (h : Askd m row) : ∀ n, n ≤ m.2.length → (stepsM m row n).length ≤ n * 16 := by
  intro n
  induction n with
  | zero => intro _; simp [stepsM]
  | succ n ih =>
    intro hn
    have := ih (by omega)
    obtain ⟨_, t2, _, _, t5, _⟩ := h.tree2 (i := n) (by omega)
    have h1 := stepsT_len (treeAt m n) row n (treeOf (treeAt m n))
    have h2 := wayT_len (treeAt m n) row (treeOf (treeAt m n))
    rw [t2] at h1 h2
    simp only [stepsM, List.length_append, t2]
    omega
theorem stepsM_sz {m : MODEL} {row : List CELL} (h : Askd m row) : ∀ n, n ≤ m.2.length → ∀ s ∈ stepsM m row n, SzQ s.2.2.2 2100000 ∧ ((s.2.2.1 : Nat) : Int) < m.1 := by
  intro n
  induction n with
  | zero => intro _ s hs; simp [stepsM] at hs
  | succ n ih =>
    intro hn s hs
    obtain ⟨t1, t2, t3, _, _, _⟩ := h.tree2 (i := n) (by omega)
    simp only [stepsM, List.mem_append, t2] at hs
    rcases hs with hs | hs
    · exact ih (by omega) s hs
    · have := stepsT_sz (row := row) (k := n) (h.ms _ (List.getElem_mem (by omega))) t3 t1 h.good.1.1 s hs
      exact ⟨this.1, this.2.1⟩
theorem Steps12_ok {m : MODEL} {row : List CELL} (h : Askd m row) : saabas_Steps m row = some ((stepsM m row m.2.length).map encS, 0) := by
  obtain ⟨e, _, h1, _, h2⟩ := fits_ok (row := row) (by have := h.ml; omega) (fun t ht => by have := h.mt t ht; omega) h.ms
  have e0 : e = 0 := h2.2 ⟨h.good, h.len⟩
  subst e0
  have ml := h.ml
  have key := lp_up (step := saabas_Steps_s6) (fun i => ((row, (stepsM m row i).map encS, m.2, (m.2.length : Int), (i : Int), ()), ((m.1, m.2, ()), ()))) m.2.length (r := (((stepsM m row m.2.length).map encS, ()), ())) (by omega) (by
    intro g i hi
    have d0 : (i : Int) < ((m.2.length : Nat) : Int) := by omega
    have d1 : (0 : Int) ≤ (i : Int) := by omega
    obtain ⟨t1, t2, t3, t4, t5, t6⟩ := h.tree2 hi
    have tl := h.mt _ (List.getElem_mem hi)
    have ts := h.ms _ (List.getElem_mem hi)
    obtain ⟨out, ho, hN⟩ := Nodes_ok tl ts t6
    have hg' := h.goodT hi
    rcases route_Way_ok tl ts h.cs with ⟨hb, _⟩ | ⟨_, _, hW⟩
    · exact absurd hg' hb
    · have hlen := stepsM_len h i (by omega)
      have hin := steps_inner (k := i) (row := row) ts t3 t1 h.good.1.1 (by omega) ho m m.2 (m.2.length : Int) (i : Int) (acc := stepsM m row i) (by omega)
      rw [saabas_Steps_s6, cnd d0, cnd d1, Int.toNat_natCast, List.getElem?_eq_getElem hi, Option.bind_some, hW, Option.bind_some, hN, Option.bind_some, hin, Option.bind_some]
      dsimp only
      rw [iadd1 (by omega), stepsM, t2]
      rfl) (by
    intro g
    rw [saabas_Steps_s6, cnd' (by omega)])
  have key : lp saabas_Steps_s6 K0 ((row, [], m.2, (m.2.length : Int), 0, ()), ((m.1, m.2, ()), ())) = _ := key
  rw [saabas_Steps, h1, Option.bind_some, show (!decide ((0 : Int) = 0)) = false by decide, cond_false, key, Option.bind_some]
theorem Steps12_bad {m : MODEL} {row : List CELL} {e : Int} (h : route_Fits m row = some e) (he : e ≠ 0) : saabas_Steps m row = some ([], e) := by
  rw [saabas_Steps, h, Option.bind_some, decide_eq_false he]; rfl

/-! The reference. -/
theorem sum12_ok {t : List NODE} {f : Int} (hs : TSz t 4) : ∀ (n : Nat) (T : TR), Is t f T → T.deep ≤ n → T.size ≤ 1000000 → dendronlaw12_sum n t (T.top : Int) = some (canQ (lsum ((leavesT T).map (cvT t)))) := by
  intro n
  induction n with
  | zero => intro T _ hd; have := T.deep_pos; omega
  | succ n ih =>
    intro T h hd hz
    show dendronlaw12_sum_b (dendronlaw12_sum n) t T.top = _
    cases T with
    | leaf i =>
      obtain ⟨h1, h2⟩ := h
      have z := hs _ (List.getElem_mem h1)
      have hm := ratio_Mul_ok (z.2.1.sm (by decide)) (z.2.2.sm (by decide))
      rw [dendronlaw12_sum_b, show ((TR.leaf i).top : Int) = (i : Int) from rfl, cnd (by omega), Int.toNat_natCast, List.getElem?_eq_getElem h1, Option.bind_some, show t[i].1 = true from h2, cond_true, hm, Option.bind_some]
      simp only [leavesT, List.map_cons, List.map_nil, lsum, cvT, nodeAt_get h1, Rat.add_zero, cov_get h1, Rat.mul_comm]
    | split i l r =>
      obtain ⟨h1, h2, f0, f1, h3, h4, h5, h6⟩ := h
      simp only [TR.deep] at hd
      simp only [TR.size] at hz
      have d0 : (0 : Int) ≤ (i : Int) := by omega
      have el : dendronlaw12_sum n t t[i].2.2.2.1 = some (canQ (lsum ((leavesT l).map (cvT t)))) := by rw [show t[i].2.2.2.1 = _ from h3]; exact ih l h5 (by omega) (by omega)
      have er : dendronlaw12_sum n t t[i].2.2.2.2.1 = some (canQ (lsum ((leavesT r).map (cvT t)))) := by rw [show t[i].2.2.2.2.1 = _ from h4]; exact ih r h6 (by omega) (by omega)
      have sz : ∀ U : TR, Is t f U → U.size ≤ 1000000 → SzQ (lsum ((leavesT U).map (cvT t))) 10000000 := fun U hU hz => by
        have := lsum_sz (l := (leavesT U).map (cvT t)) (k := 8) (fun x hx => by
          obtain ⟨j, hj, rfl⟩ := List.mem_map.1 hx
          exact cvT_sz hs (leavesT_lt hU j hj).1)
        have h2 := leavesT_len U
        exact this.mono (by rw [List.length_map]; omega)
      have ha := ratio_Add_ok ((sz l h5 (by omega)).sm (by decide)) ((sz r h6 (by omega)).sm (by decide))
      rw [rv_canQ, rv_canQ] at ha
      rw [dendronlaw12_sum_b, show ((TR.split i l r).top : Int) = (i : Int) from rfl, cnd d0, Int.toNat_natCast, List.getElem?_eq_getElem h1, Option.bind_some, show t[i].1 = false from h2, cond_false, el, Option.bind_some, er, Option.bind_some, ha, Option.bind_some]
      simp only [leavesT, List.map_append, lsum_append]
theorem mean12_ok {t : List NODE} {f : Int} {T : TR} (hs : TSz t 4) (hcov : CoversP t) (h : Is t f T) (hd : T.deep ≤ 1000) (hz : T.size ≤ 1000000) : dendronlaw12_mean t (T.top : Int) = some (canQ (mT t T)) := by
  have h1 := h.top_lt
  have hs1 := sum12_ok hs R0 T h (by unfold R0; omega) hz
  have z := hs _ (List.getElem_mem h1)
  have hne := hcov.ne _ h1
  have hc := mT_cov hcov.ne h
  have sz : SzQ (lsum ((leavesT T).map (cvT t))) 10000000 := by
    have := lsum_sz (l := (leavesT T).map (cvT t)) (k := 8) (fun x hx => by
      obtain ⟨j, hj, rfl⟩ := List.mem_map.1 hx
      exact cvT_sz hs (leavesT_lt h j hj).1)
    have h2 := leavesT_len T
    exact this.mono (by rw [List.length_map]; omega)
  have hdv := ratio_Div_ok (sz.sm (by decide)) (z.2.2.sm (by decide))
  rw [if_neg (by rw [← cov_get h1]; exact hne), rv_canQ, ← hc, ← cov_get h1] at hdv
  have e : mT t T * cov t T.top / cov t T.top = mT t T := by
    obtain ⟨c, ec⟩ : ∃ c, c = cov t T.top := ⟨_, rfl⟩
    rw [← ec] at hne ⊢
    grind
  rw [e, hc] at hdv
  rw [dendronlaw12_mean, hs1, Option.bind_some, cnd (by omega), Int.toNat_natCast, List.getElem?_eq_getElem h1, Option.bind_some]
  show (ratio_Div _ (nCov t[T.top])).bind _ = _
  rw [hdv, Option.bind_some]

theorem steps12_inner {t : List NODE} {f : Int} {row : List CELL} {T : TR} {k : Nat} (hs : TSz t 4) (hcov : CoversP t) (h : Is t f T) (hz : T.size ≤ 65536) (h0 : 0 ≤ f) (hd : T.deep ≤ 1000) (m : MODEL) {acc : List ST} (hacc : acc.length ≤ 100000) :
    lp dendronlaw12_steps_s8 K0 ((row, acc.map encS, (k : Int), t, ints (wayT t row T), 1, ()), ((m.1, m.2, ()), ())) = some ((row, (acc ++ stepsT t row k T).map encS, (k : Int), ()), ((m.1, m.2, ()), ())) := by
  have hlen := stepsT_len t row k T
  have hwl := wayT_len t row T
  have li : (ints (wayT t row T)).length = (wayT t row T).length := by simp [ints]
  have key := lp_up (step := dendronlaw12_steps_s8) (fun p => ((row, (acc ++ (stepsT t row k T).take p).map encS, (k : Int), t, ints (wayT t row T), ((p + 1 : Nat) : Int), ()), ((m.1, m.2, ()), ()))) (stepsT t row k T).length
    (r := ((row, (acc ++ stepsT t row k T).map encS, (k : Int), ()), ((m.1, m.2, ()), ()))) (by omega) (by
    intro g p hp
    obtain ⟨U, V, hU, hV, g1, g2, ⟨i, l, r, eU⟩, g3⟩ := stepsT_get h p hp
    have hUt := (hU.is h).top_lt
    have hVt := (hV.is h).top_lt
    have d0 : ((p + 1 : Nat) : Int) < ((ints (wayT t row T)).length : Int) := by omega
    have d1 : (0 : Int) ≤ ((p + 1 : Nat) : Int) := by omega
    have i1 : isub .i64 ((p + 1 : Nat) : Int) 1 = (p : Int) := by rw [isub_i] <;> omega
    have d2 : (0 : Int) ≤ (p : Int) := by omega
    have d3 : (p : Int) < ((ints (wayT t row T)).length : Int) := by omega
    have x1 : (ints (wayT t row T))[p]? = some ((U.top : Nat) : Int) := by rw [ints, List.getElem?_map, g1]; rfl
    have x2 : (ints (wayT t row T))[p + 1]? = some ((V.top : Nat) : Int) := by rw [ints, List.getElem?_map, g2]; rfl
    have u := hU.size
    have v := hV.size
    have ud := hU.deep
    have vd := hV.deep
    have oU := mean12_ok hs hcov (hU.is h) (by omega) (by omega)
    have oV := mean12_ok hs hcov (hV.is h) (by omega) (by omega)
    have su := (mT_sz hs (hU.is h)).mono (m := 1048576) (by omega)
    have sv := (mT_sz hs (hV.is h)).mono (m := 1048576) (by omega)
    have hsub := ratio_Sub_ok (sv.sm (by decide)) (su.sm (by decide))
    rw [rv_canQ, rv_canQ] at hsub
    have dU : (0 : Int) ≤ ((U.top : Nat) : Int) := by omega
    have hI := hU.is h
    rw [eU] at hI
    obtain ⟨h1, h2, f0, f1, _⟩ := hI
    have et : U.top = i := by rw [eU]; rfl
    have ef : ((nFeat (nodeAt t U.top)).toNat : Int) = t[U.top].2.1 := by
      rw [nodeAt_get hUt]
      have : nFeat t[U.top] = nFeat t[i] := by simp only [et]
      show (((nFeat t[U.top]).toNat : Nat) : Int) = nFeat t[U.top]
      omega
    have e1 : (acc ++ (stepsT t row k T).take (p + 1)).map encS = (acc ++ (stepsT t row k T).take p).map encS ++ [((k : Int), (((U.top : Nat) : Int), (t[U.top].2.1, canQ (mT t V - mT t U))))] := by
      rw [List.take_succ_eq_append_getElem hp, ← List.append_assoc, List.map_append (l₁ := acc ++ (stepsT t row k T).take p), g3, ← ef]
      rfl
    rw [dendronlaw12_steps_s8, cnd d0, cnd2 d1 d0, Int.toNat_natCast, x2, Option.bind_some, oV, Option.bind_some, i1, cnd2 d2 d3, Int.toNat_natCast, x1, Option.bind_some, oU, Option.bind_some, cnd2 d2 d3, Option.bind_some, cnd2 d2 d3, Option.bind_some, cnd dU, Int.toNat_natCast, List.getElem?_eq_getElem hUt, Option.bind_some, hsub, Option.bind_some, blt (by simp; omega), cond_true, e1, iadd1 (by omega)]
    rfl) (by
    intro g
    rw [dendronlaw12_steps_s8, cnd' (by omega), List.take_of_length_le (Nat.le_refl _)])
  have key : lp dendronlaw12_steps_s8 K0 ((row, (acc ++ []).map encS, (k : Int), t, ints (wayT t row T), 1, ()), ((m.1, m.2, ()), ())) = _ := key
  rw [List.append_nil] at key
  exact key
theorem steps12_ok {m : MODEL} {row : List CELL} (h : Askd m row) : dendronlaw12_steps m row = some ((stepsM m row m.2.length).map encS) := by
  have ml := h.ml
  have key := lp_up (step := dendronlaw12_steps_s3) (fun i => ((row, (stepsM m row i).map encS, (i : Int), ()), ((m.1, m.2, ()), ()))) m.2.length (r := (((stepsM m row m.2.length).map encS, ()), ())) (by omega) (by
    intro g i hi
    have d0 : (i : Int) < ((m.2.length : Nat) : Int) := by omega
    have d1 : (0 : Int) ≤ (i : Int) := by omega
    obtain ⟨t1, t2, t3, t4, t5, t6⟩ := h.tree2 hi
    have ts := h.ms _ (List.getElem_mem hi)
    have hw := Way10_ok ts h.cs R0 (treeOf m.2[i]) (by rw [h.len]; exact t3) (by unfold R0; omega) (by omega)
    rw [t4] at hw
    have hw : dendronlaw10_Way R0 m.2[i] 0 row = _ := hw
    have hlen := stepsM_len h i (by omega)
    have hin := steps12_inner (k := i) (row := row) ts (h.cov hi) t3 t1 h.good.1.1 (by omega) m (acc := stepsM m row i) (by omega)
    rw [dendronlaw12_steps_s3, cnd d0, cnd d1, Int.toNat_natCast, List.getElem?_eq_getElem hi, Option.bind_some, hw, Option.bind_some, hin, Option.bind_some]
    dsimp only
    rw [iadd1 (by omega), stepsM, t2]
    rfl) (by
    intro g
    rw [dendronlaw12_steps_s3, cnd' (by omega)])
  have key : lp dendronlaw12_steps_s3 K0 ((row, [], 0, ()), ((m.1, m.2, ()), ())) = _ := key
  rw [dendronlaw12_steps, key, Option.bind_some]
theorem law12_awake_ok : dendronlaw12_awake = some true := by decide +kernel

theorem SaabasSteps_true (m0 : MODEL) (row0 : List CELL) (hl : m0.2.length ≤ 9223372036854775807) (ht : ∀ t ∈ m0.2, t.length ≤ 9223372036854775807) (hr : row0.length ≤ 9223372036854775807) : dendronlaw12_SaabasSteps m0 row0 = some true := by
  obtain ⟨m, row, hs, ms, ml, mt, cs⟩ := Small_ok m0 row0 hl ht hr
  obtain ⟨e, h1, h2, h3, h4⟩ := fits_ok (row := row) (by omega) (fun t h => by have := mt t h; omega) ms
  rw [dendronlaw12_SaabasSteps, hs, Option.bind_some]
  dsimp only
  by_cases he : e = 0
  · subst he
    have ha : Askd m row := ⟨(h4.1 rfl).1, (h4.1 rfl).2, ms, by omega, mt, cs⟩
    have hsz := stepsM_sz ha m.2.length (Nat.le_refl _)
    have hln := stepsM_len ha m.2.length (Nat.le_refl _)
    obtain ⟨L, eL⟩ : ∃ L, L = stepsM m row m.2.length := ⟨_, rfl⟩
    have hS := Steps12_ok ha
    have hR := steps12_ok ha
    rw [← eL] at hS hR hsz hln
    have ll : (L.map encS).length = L.length := by simp
    have key := lp_up (step := dendronlaw12_SaabasSteps_s10) (fun i => ((L.map encS, L.map encS, (i : Int), ()), ())) L.length (r := .inl ((), ())) (by omega) (by
      intro g i hi
      have d0 : (i : Int) < ((L.map encS).length : Int) := by omega
      have d1 : (0 : Int) ≤ (i : Int) := by omega
      have hq := (hsz _ (List.getElem_mem hi)).1
      have gL : (L.map encS)[i]? = some (encS L[i]) := by simp [hi]
      have his := is_self hq (by decide) hq (by decide) rfl
      have his : dendronref10_Is (encS L[i]).2.2.2 (encS L[i]).2.2.2 = some true := his
      rw [dendronlaw12_SaabasSteps_s10, cnd d0, cnd2 d1 d0, Int.toNat_natCast, gL, Option.bind_some, cnd2 d1 d0, Option.bind_some, decide_eq_true rfl, Bool.not_true, cond_false, cnd2 d1 d0, Option.bind_some, cnd2 d1 d0, Option.bind_some, decide_eq_true rfl, Bool.not_true, cond_false, cnd2 d1 d0, Option.bind_some, cnd2 d1 d0, Option.bind_some, decide_eq_true rfl, Bool.not_true, cond_false, cnd2 d1 d0, Option.bind_some, cnd2 d1 d0, Option.bind_some, his, Option.bind_some, Bool.not_true, cond_false, iadd1 (by omega)]
      rfl) (by
      intro g
      rw [dendronlaw12_SaabasSteps_s10, cnd' (by omega)])
    have key : lp dendronlaw12_SaabasSteps_s10 K0 ((L.map encS, L.map encS, 0, ()), ()) = _ := key
    rw [hS, Option.bind_some, h3, Option.bind_some, show (!decide ((0 : Int) = 0)) = false by decide, cond_false, hR, Option.bind_some]
    dsimp only
    rw [cond_false, decide_eq_true rfl, Bool.not_true, cond_false, key, Option.bind_some, law12_awake_ok]
    rfl
  · rw [Steps12_bad h2 he, Option.bind_some, h3, Option.bind_some, decide_eq_false he, Bool.not_false, cond_true, cnd (by simp), cnd rfl, law12_awake_ok]
    rfl
end Go.Proofs.YtongppphgbkckaaGreatDoor.X


/- Saabas: what all splits by each feature add. -/
namespace Go.Proofs.YtongppphgbkckaaGreatDoor.X
open Go
set_option linter.unusedVariables false
set_option linter.unusedSimpArgs false

/-- What steps by a feature add. -/
def addF (f : Nat) (s : ST) : Rat := if s.2.2.1 = f then s.2.2.2 else 0
def fsum (f : Nat) (l : List ST) : Rat := lsum (l.map (addF f))
theorem fsum_take {f : Nat} {l : List ST} {i : Nat} (h : i < l.length) : fsum f (l.take (i + 1)) = fsum f (l.take i) + addF f l[i] := by
  have := lsum_take_succ (l := l.map (addF f)) (i := i) (by simpa using h)
  rw [← List.map_take, ← List.map_take] at this
  rw [fsum, this, fsum]; simp
def StepsSz (l : List ST) (g : Nat) : Prop := l.length ≤ 10000 ∧ ∀ s ∈ l, SzQ s.2.2.2 2100000 ∧ s.2.2.1 < g
theorem fsum_sz {l : List ST} {g f i : Nat} (h : StepsSz l g) : SzQ (fsum f (l.take i)) 30000000000 := by
  have := lsum_sz (l := (l.take i).map (addF f)) (k := 2100000) (fun x hx => by
    obtain ⟨s, hs, rfl⟩ := List.mem_map.1 hx
    have := (h.2 s (List.mem_of_mem_take hs)).1
    unfold addF
    split
    · exact this
    · exact SzQ.zero.mono (by decide))
  have hl : ((l.take i).map (addF f)).length ≤ 10000 := by have := h.1; simp; omega
  have h3 := Nat.mul_le_mul_right (2100000 + 1) hl
  exact this.mono (Nat.le_trans (Nat.add_le_add_left h3 1) (by decide))
def valsL (g : Nat) (l : List ST) : List RAT := (List.range g).map fun f => canQ (fsum f l)
theorem valsL_len (g : Nat) (l : List ST) : (valsL g l).length = g := by simp [valsL]
theorem valsL_get {g f : Nat} (l : List ST) (h : f < g) : (valsL g l)[f]? = some (canQ (fsum f l)) := by simp [valsL, h]
theorem valsL_step {g i : Nat} {l : List ST} (h : i < l.length) : (valsL g (l.take i)).set l[i].2.2.1 (canQ (fsum l[i].2.2.1 (l.take i) + l[i].2.2.2)) = valsL g (l.take (i + 1)) := by
  apply List.ext_getElem?
  intro f
  rw [List.getElem?_set]
  by_cases hf : f < g
  · rw [valsL_get _ hf, valsL_get _ hf, fsum_take h, valsL_len]
    by_cases e : l[i].2.2.1 = f
    · rw [if_pos e, if_pos (by omega), e, addF, if_pos e]
    · rw [if_neg e, addF, if_neg e, Rat.add_zero]
  · have h1 : (valsL g (l.take i))[f]? = none := List.getElem?_eq_none (by rw [valsL_len]; omega)
    have h2 : (valsL g (l.take (i + 1)))[f]? = none := List.getElem?_eq_none (by rw [valsL_len]; omega)
    rw [h1, h2]
    split
    · rename_i e; rw [if_neg (by rw [valsL_len]; omega)]
    · rfl
theorem zeros12_ok {n : Nat} (h : n ≤ 1000000) : saabas_zeros (n : Int) = some (List.replicate n (canQ 0)) := by
  have key := lp_up (step := saabas_zeros_s3) (fun i => ((List.replicate i (canQ 0), (n : Int), (i : Int), ()), ())) n (r := ((List.replicate n (canQ 0), ()), ())) (by omega) (by
    intro g i hi
    have d0 : (i : Int) < (n : Int) := by omega
    rw [saabas_zeros_s3, cnd d0, ratio_Zero_ok, Option.bind_some, blt (by simp; omega), cond_true, iadd1 (by omega), List.replicate_succ']
    rfl) (by
    intro g
    rw [saabas_zeros_s3, cnd' (by omega)])
  have key : lp saabas_zeros_s3 K0 (([], (n : Int), 0, ()), ()) = _ := key
  rw [saabas_zeros, key, Option.bind_some]
theorem valsL_nil (g : Nat) : valsL g [] = List.replicate g (canQ 0) := by
  rw [valsL]
  have : (fun f : Nat => canQ (fsum f [])) = fun _ => canQ 0 := rfl
  rw [this, List.map_const', List.length_range]

theorem values_lp {l : List ST} {g : Nat} (h : StepsSz l g) : lp saabas_Values_s6 K0 ((valsL g [], l.map encS, (l.length : Int), 0, ()), ()) = some ((valsL g l, ()), ()) := by
  have hl := h.1
  have key := lp_up (step := saabas_Values_s6) (fun i => ((valsL g (l.take i), l.map encS, (l.length : Int), (i : Int), ()), ())) l.length (r := ((valsL g l, ()), ())) (by omega) (by
    intro gg i hi
    have lm : (l.map encS).length = l.length := by simp
    have d0 : (i : Int) < (l.length : Int) := by omega
    have d1 : (0 : Int) ≤ (i : Int) := by omega
    have d2 : (i : Int) < ((l.map encS).length : Int) := by omega
    obtain ⟨hq, hf⟩ := h.2 _ (List.getElem_mem hi)
    have gL : (l.map encS)[i]? = some (encS l[i]) := by simp [hi]
    have ef : (encS l[i]).2.2.1 = ((l[i].2.2.1 : Nat) : Int) := rfl
    have lv := valsL_len g (l.take i)
    have d3 : (0 : Int) ≤ ((l[i].2.2.1 : Nat) : Int) := by omega
    have d4 : ((l[i].2.2.1 : Nat) : Int) < ((valsL g (l.take i)).length : Int) := by omega
    have ha := ratio_Add_ok ((fsum_sz (f := l[i].2.2.1) (i := i) h).sm (by decide)) (hq.sm (by decide))
    rw [rv_canQ, rv_canQ] at ha
    have ha : ratio_Add (canQ (fsum l[i].2.2.1 (l.take i))) (encS l[i]).2.2.2 = _ := ha
    rw [saabas_Values_s6, cnd d0, cnd2 d1 d2, Int.toNat_natCast, gL, Option.bind_some, ef, cnd2 d3 d4, Int.toNat_natCast, valsL_get _ hf, Option.bind_some, ha, Option.bind_some, cnd2 d3 d4, Option.bind_some, valsL_step hi, iadd1 (by omega)]
    rfl) (by
    intro gg
    rw [saabas_Values_s6, cnd' (by omega), List.take_of_length_le (Nat.le_refl _)])
  exact key

theorem stepsOk {m : MODEL} {row : List CELL} (h : Askd m row) : StepsSz (stepsM m row m.2.length) m.1.toNat := by
  have h1 := stepsM_len h m.2.length (Nat.le_refl _)
  have h2 := stepsM_sz h m.2.length (Nat.le_refl _)
  have := h.ml
  exact ⟨by omega, fun s hs => ⟨(h2 s hs).1, by have := (h2 s hs).2; omega⟩⟩
theorem Values12_ok {m : MODEL} {row : List CELL} (h : Askd m row) : saabas_Values m row = some (valsL m.1.toNat (stepsM m row m.2.length), 0) := by
  have f0 := h.good.1.1
  have f1 := h.good.1.2.1
  obtain ⟨g, hg⟩ : ∃ g : Nat, m.1 = (g : Int) := ⟨m.1.toNat, by omega⟩
  have hS := Steps12_ok h
  have hz := stepsOk h
  rw [show m.1.toNat = g by omega] at hz ⊢
  obtain ⟨L, eL⟩ : ∃ L, L = stepsM m row m.2.length := ⟨_, rfl⟩
  rw [← eL] at hS hz ⊢
  have hlp := values_lp hz
  rw [saabas_Values, hS, Option.bind_some, show (!decide ((0 : Int) = 0)) = false by decide, cond_false, hg, zeros12_ok (by omega), Option.bind_some, List.length_map, ← valsL_nil, hlp, Option.bind_some]
theorem Values12_bad {m : MODEL} {row : List CELL} {e : Int} (h : route_Fits m row = some e) (he : e ≠ 0) : saabas_Values m row = some ([], e) := by
  rw [saabas_Values, Steps12_bad h he, Option.bind_some]
  dsimp only
  rw [decide_eq_false he]; rfl

theorem SaabasValues_true (m0 : MODEL) (row0 : List CELL) (hl : m0.2.length ≤ 9223372036854775807) (ht : ∀ t ∈ m0.2, t.length ≤ 9223372036854775807) (hr : row0.length ≤ 9223372036854775807) : dendronlaw12_SaabasValues m0 row0 = some true := by
  obtain ⟨m, row, hs, ms, ml, mt, cs⟩ := Small_ok m0 row0 hl ht hr
  obtain ⟨e, h1, h2, h3, h4⟩ := fits_ok (row := row) (by omega) (fun t h => by have := mt t h; omega) ms
  rw [dendronlaw12_SaabasValues, hs, Option.bind_some]
  dsimp only
  by_cases he : e = 0
  · subst he
    have ha : Askd m row := ⟨(h4.1 rfl).1, (h4.1 rfl).2, ms, by omega, mt, cs⟩
    have f0 := ha.good.1.1
    have f1 := ha.good.1.2.1
    obtain ⟨n, hn⟩ : ∃ n : Nat, m.1 = (n : Int) := ⟨m.1.toNat, by omega⟩
    have hV := Values12_ok ha
    have hR := steps12_ok ha
    have hz := stepsOk ha
    rw [show m.1.toNat = n by omega] at hz hV
    obtain ⟨L, eL⟩ : ∃ L, L = stepsM m row m.2.length := ⟨_, rfl⟩
    rw [← eL] at hV hR hz
    have hL := hz.1
    have lv := valsL_len n L
    have lm : (L.map encS).length = L.length := by simp
    have key := lp_up (step := dendronlaw12_SaabasValues_s10) (fun i => ((valsL n L, L.map encS, (i : Int), ()), ())) n (r := .inl ((), ())) (by omega) (by
      intro g i hi
      have d0 : (i : Int) < ((valsL n L).length : Int) := by omega
      have d1 : (0 : Int) ≤ (i : Int) := by omega
      have key2 := lp_up (step := dendronlaw12_SaabasValues_s14) (fun k => ((valsL n L, L.map encS, (i : Int), (k : Int), ()), (((canQ (fsum i (L.take k))).1.1, (canQ (fsum i (L.take k))).1.2, (canQ (fsum i (L.take k))).2, ()), ()))) L.length (r := ((valsL n L, L.map encS, (i : Int), ()), (((canQ (fsum i L)).1.1, (canQ (fsum i L)).1.2, (canQ (fsum i L)).2, ()), ()))) (by omega) (by
        intro g k hk
        have e0 : (k : Int) < ((L.map encS).length : Int) := by omega
        have e1 : (0 : Int) ≤ (k : Int) := by omega
        obtain ⟨hq, hf⟩ := hz.2 _ (List.getElem_mem hk)
        have gL : (L.map encS)[k]? = some (encS L[k]) := by simp [hk]
        have hst := fsum_take (f := i) hk
        rw [dendronlaw12_SaabasValues_s14, cnd e0, cnd2 e1 e0, Int.toNat_natCast, gL, Option.bind_some]
        by_cases e : L[k].2.2.1 = i
        · have c1 : (encS L[k]).2.2.1 = (i : Int) := by show ((L[k].2.2.1 : Nat) : Int) = _; omega
          have ha := ratio_Add_ok ((fsum_sz (f := i) (i := k) hz).sm (by decide)) (hq.sm (by decide))
          rw [rv_canQ, rv_canQ] at ha
          rw [addF, if_pos e] at hst
          rw [cnd c1, cnd2 e1 e0, Option.bind_some]
          show (ratio_Add (canQ (fsum i (L.take k))) (canQ L[k].2.2.2)).bind _ = _
          rw [ha, Option.bind_some, hst, iadd1 (by omega)]
          rfl
        · have c1 : ¬ (encS L[k]).2.2.1 = (i : Int) := by show ¬ ((L[k].2.2.1 : Nat) : Int) = _; omega
          rw [addF, if_neg e, Rat.add_zero] at hst
          rw [cnd' c1, hst, iadd1 (by omega)]
          rfl) (by
        intro g
        rw [dendronlaw12_SaabasValues_s14, cnd' (by omega), List.take_of_length_le (Nat.le_refl _)])
      have key2 : lp dendronlaw12_SaabasValues_s14 K0 ((valsL n L, L.map encS, (i : Int), 0, ()), (((canQ 0).1.1, (canQ 0).1.2, (canQ 0).2, ()), ())) = _ := key2
      have hfz : SzQ (fsum i L) 30000000000 := by have := fsum_sz (f := i) (i := L.length) hz; rwa [List.take_of_length_le (Nat.le_refl _)] at this
      have his := is_self hfz (by decide) hfz (by decide) rfl
      rw [dendronlaw12_SaabasValues_s10, cnd d0, ratio_Zero_ok, Option.bind_some, key2, Option.bind_some]
      dsimp only
      rw [cnd2 d1 d0, Int.toNat_natCast, valsL_get _ hi, Option.bind_some]
      show (dendronref10_Is (canQ (fsum i L)) (canQ (fsum i L))).bind _ = _
      rw [his, Option.bind_some, Bool.not_true, cond_false, iadd1 (by omega)]
      rfl) (by
      intro g
      rw [dendronlaw12_SaabasValues_s10, cnd' (by omega)])
    have key : lp dendronlaw12_SaabasValues_s10 K0 ((valsL n L, L.map encS, 0, ()), ()) = _ := key
    rw [hV, Option.bind_some, h3, Option.bind_some, show (!decide ((0 : Int) = 0)) = false by decide, cond_false, hR, Option.bind_some]
    dsimp only
    rw [cond_false, lv, hn, decide_eq_true rfl, Bool.not_true, cond_false, key, Option.bind_some, law12_awake_ok]
    rfl
  · rw [Values12_bad h2 he, Option.bind_some, h3, Option.bind_some, decide_eq_false he, Bool.not_false, cond_true, cnd (by simp), cnd rfl, law12_awake_ok]
    rfl
end Go.Proofs.YtongppphgbkckaaGreatDoor.X


/- Depend: DependCovers, DependRests. -/
namespace Go.Proofs.YtongppphgbkckaaGreatDoor.X
open Go
set_option linter.unusedVariables false
set_option linter.unusedSimpArgs false

abbrev zC : CELL := (false, ((false, []), []))
/-- A row in which one entry alone is said. -/
def oneRow (m : MODEL) (k : Nat) (z : CELL) : List CELL := (List.replicate m.1.toNat zC).set k z
theorem askd_one {m : MODEL} (hg : Good m) (ms : MSz m 4) (ml : m.2.length ≤ 6) (mt : ∀ t ∈ m.2, t.length ≤ 15) {k : Nat} {z : CELL} (hz : SzR z.2 9) : Askd m (oneRow m k z) := by
  have f0 := hg.1.1
  refine ⟨hg, by simp [oneRow]; omega, ms, ml, mt, ?_⟩
  intro c hc
  rcases List.mem_or_eq_of_mem_set hc with hc | rfl
  · have := (List.mem_replicate.1 hc).2
    subst this
    exact ⟨Nat.zero_le _, Nat.zero_le _⟩
  · exact hz
/-- Why a feature can't be asked. -/
def featE (b : Bool) (m : MODEL) (i : Int) : Int := if b then (if i < 0 ∨ i ≥ m.1 then 8 else 0) else 1
theorem feature_ok {m : MODEL} {b : Bool} (hv : valid_Ok m = some b) (i : Int) : depend_feature m i = some (featE b m i) := by
  rw [depend_feature, hv, Option.bind_some]
  cases b with
  | false => rfl
  | true =>
    rw [Bool.not_true, cond_false, featE, if_pos rfl]
    by_cases h1 : i < 0
    · rw [cnd h1, if_pos (.inl h1)]
    · by_cases h2 : i ≥ m.1
      · rw [cnd' h1, cnd h2, if_pos (.inr h2)]
      · rw [cnd' h1, cnd' h2, if_neg (by omega)]
theorem why13_ok {m : MODEL} {b : Bool} (hv : valid_Ok m = some b) (i : Int) : dendronlaw13_why m i = some (featE b m i) := feature_ok hv i
theorem featE_zero {m : MODEL} {b : Bool} {i : Int} (h : featE b m i = 0) : b = true ∧ 0 ≤ i ∧ i < m.1 := by
  unfold featE at h
  cases b with
  | false => simp at h
  | true =>
    rw [if_pos rfl] at h
    by_cases h1 : i < 0 ∨ i ≥ m.1
    · rw [if_pos h1] at h; cases h
    · exact ⟨rfl, by omega, by omega⟩
theorem shl_one {k : Nat} (h : k < 64) : shlV .u64 1 (k : Int) = ((2 ^ k : Nat) : Int) := by
  have hp : 2 ^ k < 2 ^ 64 := Nat.pow_lt_pow_right (by decide) h
  have := shl_nat (x := 1) (s := k) (by omega) (by omega)
  rw [Nat.one_mul] at this
  exact this
theorem pow_lt64 {k : Nat} (h : k < 64) : 2 ^ k < 18446744073709551616 := by
  have hp : 2 ^ k < 2 ^ 64 := Nat.pow_lt_pow_right (by decide) h
  exact hp
theorem Cover_ok {m : MODEL} (hv : valid_Ok m = some true) (hg : Good m) (ms : MSz m 4) (ml : m.2.length ≤ 6) (mt : ∀ t ∈ m.2, t.length ≤ 15) {k : Nat} (hk : (k : Int) < m.1) {z : CELL} (hz : SzR z.2 9) :
    depend_Cover m (k : Int) z = some (canQ (sayM m (oneRow m k z) (2 ^ k)), 0) := by
  have f0 := hg.1.1
  have f1 := hg.1.2.1
  have hf := feature_ok hv (k : Int)
  rw [featE, if_pos rfl, if_neg (by omega)] at hf
  have ha := askd_one hg ms ml mt (k := k) hz
  have hs := shl_one (k := k) (by omega)
  have hvv := eValue_ok ha (set := 2 ^ k) (pow_lt64 (by omega))
  obtain ⟨n, hn⟩ : ∃ n, n = 2 ^ k := ⟨_, rfl⟩
  rw [← hn] at hs hvv ⊢
  have c1 : (decide (m.1 = m.1) && decide (0 ≤ m.1) && decide (((64 : Nat) : Int) * m.1 ≤ 281474976710656) && decide (m.1 ≤ 9223372036854775807)) = true := by
    rw [decide_eq_true rfl, decide_eq_true f0, decide_eq_true (by omega), decide_eq_true (by omega)]; rfl
  have l1 : (List.replicate m.1.toNat zC).length = m.1.toNat := List.length_replicate ..
  rw [depend_Cover, hf, Option.bind_some, show (!decide ((0 : Int) = 0)) = false by decide, cond_false, c1, cond_true, cnd2 (by omega) (by rw [l1]; omega), Int.toNat_natCast, List.getElem?_eq_getElem (by rw [l1]; omega), Option.bind_some, cnd' (by omega), hs]
  show (expect_Value m (oneRow m k z) (n : Int)).bind _ = _
  rw [hvv, Option.bind_some]
theorem Cover_bad {m : MODEL} {b : Bool} (hv : valid_Ok m = some b) {i : Int} (h : featE b m i ≠ 0) (z : CELL) : depend_Cover m i z = some (zR, featE b m i) := by
  rw [depend_Cover, feature_ok hv, Option.bind_some, decide_eq_false h, Bool.not_false, cond_true]
theorem power_ok {k : Nat} (h : k < 64) : dendronlaw13_power (k : Int) = some ((2 ^ k : Nat) : Int) := by
  have key := lp_up (step := dendronlaw13_power_s3) (fun i => (((k : Int), ((2 ^ i : Nat) : Int), (i : Int), ()), ())) k (r := ((((2 ^ k : Nat) : Int), ()), ())) (by omega) (by
    intro g i hi
    have d0 : (i : Int) < (k : Int) := by omega
    have hp := pow_lt64 (k := i + 1) (by omega)
    have e : 2 ^ (i + 1) = 2 * 2 ^ i := by rw [Nat.pow_succ]; omega
    obtain ⟨x, hx⟩ : ∃ x, x = 2 ^ i := ⟨_, rfl⟩
    rw [e, ← hx] at hp
    have em : imul .u64 2 (x : Int) = ((2 * x : Nat) : Int) := by rw [imul_u] <;> omega
    rw [dendronlaw13_power_s3, cnd d0, e, ← hx, em, iadd1 (by omega)]
    rfl) (by
    intro g
    rw [dendronlaw13_power_s3, cnd' (by omega)])
  have key : lp dendronlaw13_power_s3 K0 (((k : Int), 1, 0, ()), ()) = _ := key
  rw [dendronlaw13_power, key, Option.bind_some]

theorem DependCovers_true (m0 : MODEL) (i : Int) (z0 : CELL) (hl : m0.2.length ≤ 9223372036854775807) (ht : ∀ t ∈ m0.2, t.length ≤ 9223372036854775807) : dendronlaw13_DependCovers m0 i z0 = some true := by
  obtain ⟨m, row, hs, ms, ml, mt, cs⟩ := Small_ok m0 [] hl ht (by simp)
  obtain ⟨b, h1, h2⟩ := Ok_ok (m := m) (k := 4) (by omega) (fun t ht => by have := mt t ht; omega) ms (by decide)
  have h9 : dendronlaw09_Few [z0] 1 = some [cutCell z0] := Few09_ok [z0] 1 (by simp) (by decide)
  obtain ⟨z, ez⟩ : ∃ z, z = cutCell z0 := ⟨_, rfl⟩
  have hz : SzR z.2 9 := by
    rw [ez]
    exact ⟨Nat.le_trans (cutR_sz 3 _).1 (by decide), Nat.le_trans (cutR_sz 3 _).2 (by decide)⟩
  rw [← ez] at h9
  rw [dendronlaw13_DependCovers, hs, Option.bind_some, h9, Option.bind_some, cnd (by simp), List.getElem?_cons_zero, Option.bind_some]
  dsimp only
  by_cases he : featE b m i = 0
  · obtain ⟨hb, i0, i1⟩ := featE_zero he
    subst hb
    have hg := h2.1 rfl
    have f0 := hg.1.1
    have f1 := hg.1.2.1
    obtain ⟨k, rfl⟩ := Int.eq_ofNat_of_zero_le i0
    have hC := Cover_ok h1 hg ms (by omega) mt i1 hz
    have ha := askd_one hg ms (by omega) mt (k := k) hz
    have hw := Value11_ok ha (set := 2 ^ k) (pow_lt64 (by omega))
    have hsz : SzQ (sayM m (oneRow m k z) (2 ^ k)) (1 + m.2.length * 1048577) := sayM_sz hg ms mt (Nat.le_refl _)
    have hp := power_ok (k := k) (by omega)
    have c1 : (decide (m.1 = m.1) && decide (0 ≤ m.1) && decide (((64 : Nat) : Int) * m.1 ≤ 281474976710656) && decide (m.1 ≤ 9223372036854775807)) = true := by
      rw [decide_eq_true rfl, decide_eq_true f0, decide_eq_true (by omega), decide_eq_true (by omega)]; rfl
    have l1 : (List.replicate m.1.toNat zC).length = m.1.toNat := List.length_replicate ..
    rw [hC, Option.bind_some, why13_ok h1, Option.bind_some, he, show (!decide ((0 : Int) = 0)) = false by decide, cond_false, c1, cond_true, cnd2 (by omega) (by rw [l1]; omega), Int.toNat_natCast, List.getElem?_eq_getElem (by rw [l1]; omega), Option.bind_some]
    dsimp only
    rw [cnd rfl, hp, Option.bind_some]
    show (dendronlaw11_Value m (oneRow m k z) _).bind _ = _
    rw [hw, Option.bind_some, is_self hsz (by omega) hsz (by omega) rfl, Option.bind_some, cond_true, law13_awake_ok]
    rfl
  · rw [Cover_bad h1 he, Option.bind_some, why13_ok h1, Option.bind_some, decide_eq_false he, Bool.not_false, cond_true, cnd (by simp), Option.bind_some]
    dsimp only
    rw [cnd rfl, law13_awake_ok]
    rfl

end Go.Proofs.YtongppphgbkckaaGreatDoor.X


/- Depend: DependAverages. -/
namespace Go.Proofs.YtongppphgbkckaaGreatDoor.X
open Go
set_option linter.unusedVariables false
set_option linter.unusedSimpArgs false

def cutRowsN (n : Nat) (l : List (List CELL)) : List (List CELL) := (l.take n).map fun r => (r.take 70).map cutCell
theorem All09n_ok (n : Nat) (hn : n ≤ 1000) (l : List (List CELL)) (hl : l.length ≤ 9223372036854775807) (hr : ∀ r ∈ l, r.length ≤ 9223372036854775807) : dendronlaw09_All l (n : Int) 70 = some (cutRowsN n l) := by
  have key := lp_up (step := dendronlaw09_All_s3) (fun i => ((l, (n : Int), 70, (l.take i).map (fun r => (r.take 70).map cutCell), (i : Int), ()), ())) (min l.length n) (r := ((cutRowsN n l, ()), ())) (by omega) (by
    intro g i hi
    have hi1 : i < l.length := by omega
    have d0 : (i : Int) < ((l.length : Nat) : Int) := by omega
    have d1 : (0 : Int) ≤ (i : Int) := by omega
    have d2 : (i : Int) < (n : Int) := by omega
    have h9 : dendronlaw09_Few l[i] 70 = some ((l[i].take 70).map cutCell) := Few09_ok l[i] 70 (hr _ (List.getElem_mem hi1)) (by decide)
    have d4 : (((l.take i).map (fun r => (r.take 70).map cutCell)).length + 1) * 24 ≤ 140737488355328 := by simp; omega
    rw [dendronlaw09_All_s3, cnd d0, cnd d2, cnd d1, Int.toNat_natCast, List.getElem?_eq_getElem hi1, Option.bind_some, h9, Option.bind_some, blt d4, cond_true, iadd1 (by omega), map_take_succ _ hi1]
    rfl) (by
    intro g
    by_cases h : l.length ≤ n
    · rw [dendronlaw09_All_s3, cnd' (by omega), Nat.min_eq_left h, List.take_of_length_le (Nat.le_refl _), cutRowsN, List.take_of_length_le h]
    · rw [dendronlaw09_All_s3, cnd (by omega), cnd' (by omega), Nat.min_eq_right (by omega), cutRowsN])
  have key : lp dendronlaw09_All_s3 K0 ((l, (n : Int), 70, [], 0, ()), ()) = _ := key
  rw [dendronlaw09_All, key]; rfl
theorem cutRowsN_sz (n : Nat) (l : List (List CELL)) : ∀ r ∈ cutRowsN n l, CSz r 9 := by
  intro r hr
  obtain ⟨x, _, rfl⟩ := List.mem_map.1 hr
  exact cutRow_sz _
theorem cutRowsN_len (n : Nat) (l : List (List CELL)) : (cutRowsN n l).length ≤ n := by simp [cutRowsN]; omega

/-- Why rows can't be asked of a model that may be. -/
def rowsE (m : MODEL) (R : List (List CELL)) : Int := if ∀ r ∈ R, (r.length : Int) = m.1 then (if R = [] then 15 else 0) else 14
theorem rowsE_zero {m : MODEL} {R : List (List CELL)} (h : rowsE m R = 0) : (∀ r ∈ R, (r.length : Int) = m.1) ∧ R ≠ [] := by
  unfold rowsE at h
  split at h
  · rename_i h1
    split at h
    · cases h
    · rename_i h2; exact ⟨h1, h2⟩
  · cases h
theorem whyRows_lp (m : MODEL) (R : List (List CELL)) (hR : R.length ≤ 1000) : ((∀ r ∈ R, (r.length : Int) = m.1) ∧ lp dendronlaw13_whyRows_s4 K0 ((R, 0, ()), ((m.1, m.2, ()), ())) = some (.inl ((R, ()), ()))) ∨ (¬ (∀ r ∈ R, (r.length : Int) = m.1) ∧ lp dendronlaw13_whyRows_s4 K0 ((R, 0, ()), ((m.1, m.2, ()), ())) = some (.inr ((14, ()), ()))) := by
  rcases lp_all (step := dendronlaw13_whyRows_s4) (fun i => ((R, (i : Int), ()), ((m.1, m.2, ()), ()))) R.length (fun i => (hi : i < R.length) → (R[i].length : Int) = m.1) (fun i => .inr ((14, ()), ())) (.inl ((R, ()), ())) (by omega) (by
      intro i hi
      have d0 : (i : Int) < ((R.length : Nat) : Int) := by omega
      have d1 : (0 : Int) ≤ (i : Int) := by omega
      by_cases h : (R[i].length : Int) = m.1
      · refine .inl ⟨fun _ => h, fun g => ?_⟩
        rw [dendronlaw13_whyRows_s4, cnd d0, cnd d1, Int.toNat_natCast, List.getElem?_eq_getElem hi, Option.bind_some, decide_eq_true h, Bool.not_true, cond_false, iadd1 (by omega)]
        rfl
      · refine .inr ⟨fun hh => h (hh hi), fun g => ?_⟩
        rw [dendronlaw13_whyRows_s4, cnd d0, cnd d1, Int.toNat_natCast, List.getElem?_eq_getElem hi, Option.bind_some, decide_eq_false h, Bool.not_false, cond_true]) (by
      intro g
      rw [dendronlaw13_whyRows_s4, cnd' (by omega)]) with ⟨h, hlp⟩ | ⟨i, hi, h, hlp⟩
  · refine .inl ⟨fun r hr => ?_, hlp⟩
    obtain ⟨i, hi, rfl⟩ := List.getElem_of_mem hr
    exact h i hi hi
  · exact .inr ⟨fun hh => h fun hi => hh _ (List.getElem_mem hi), hlp⟩
theorem whyRows_ok {m : MODEL} {b : Bool} (hv : valid_Ok m = some b) (i : Int) (R : List (List CELL)) (hR : R.length ≤ 1000) : dendronlaw13_whyRows m i R = some (if featE b m i ≠ 0 then featE b m i else rowsE m R) := by
  rw [dendronlaw13_whyRows, why13_ok hv, Option.bind_some]
  by_cases he : featE b m i = 0
  · rw [he, show (!decide ((0 : Int) = 0)) = false by decide, cond_false, if_neg (by simp)]
    rcases whyRows_lp m R hR with ⟨h, hlp⟩ | ⟨h, hlp⟩
    · rw [hlp, Option.bind_some, rowsE, if_pos h]
      dsimp only
      by_cases hn : R = []
      · subst hn; rfl
      · have : 0 < R.length := List.length_pos_iff.2 hn
        rw [cnd' (by omega), if_neg hn]
    · rw [hlp, Option.bind_some, rowsE, if_neg h]
  · rw [decide_eq_false he, Bool.not_false, cond_true, if_pos he, Option.bind_some]
theorem check_ok {m : MODEL} (hv : valid_Ok m = some true) (R : List (List CELL)) (hR : R.length ≤ 1000) : depend_check m R = some (rowsE m R) := by
  have hf : ∀ r, route_Fits (m.1, m.2) r = some (if (r.length : Int) = m.1 then 0 else 14) := fun r => by
    show route_Fits m r = _
    have := fits_b hv r
    rw [errB, if_pos rfl] at this
    rw [route_Fits, this]; rfl
  rcases lp_all (step := depend_check_s2) (fun i => ((R, R, (R.length : Int), (i : Int), ()), ((m.1, m.2, ()), ()))) R.length (fun i => (hi : i < R.length) → (R[i].length : Int) = m.1) (fun i => .inr ((14, ()), ())) (.inl ((R, ()), ())) (by omega) (by
      intro i hi
      have d0 : (i : Int) < ((R.length : Nat) : Int) := by omega
      have d1 : (0 : Int) ≤ (i : Int) := by omega
      by_cases h : (R[i].length : Int) = m.1
      · refine .inl ⟨fun _ => h, fun g => ?_⟩
        rw [depend_check_s2, cnd d0, cnd d1, Int.toNat_natCast, List.getElem?_eq_getElem hi, Option.bind_some, hf, if_pos h, Option.bind_some, show (!decide ((0 : Int) = 0)) = false by decide, cond_false, iadd1 (by omega)]
        rfl
      · refine .inr ⟨fun hh => h (hh hi), fun g => ?_⟩
        rw [depend_check_s2, cnd d0, cnd d1, Int.toNat_natCast, List.getElem?_eq_getElem hi, Option.bind_some, hf, if_neg h, Option.bind_some, show (!decide ((14 : Int) = 0)) = true by decide, cond_true]) (by
      intro g
      rw [depend_check_s2, cnd' (by omega)]) with ⟨h, hlp⟩ | ⟨i, hi, h, hlp⟩
  · have hlp : lp depend_check_s2 K0 ((R, R, (R.length : Int), 0, ()), ((m.1, m.2, ()), ())) = _ := hlp
    have hall : ∀ r ∈ R, (r.length : Int) = m.1 := fun r hr => by
      obtain ⟨i, hi, rfl⟩ := List.getElem_of_mem hr
      exact h i hi hi
    rw [depend_check, hlp, Option.bind_some, rowsE, if_pos hall]
    dsimp only
    by_cases hn : R = []
    · subst hn; rfl
    · have : 0 < R.length := List.length_pos_iff.2 hn
      rw [cnd' (by omega), if_neg hn]
  · have hlp : lp depend_check_s2 K0 ((R, R, (R.length : Int), 0, ()), ((m.1, m.2, ()), ())) = _ := hlp
    rw [depend_check, hlp, Option.bind_some, rowsE, if_neg (fun hh => h fun hi => hh _ (List.getElem_mem hi))]
theorem over_self {α : Type} (z l : List α) (h : z.length = l.length) : over z 0 (l.take z.length) = l := by
  rw [over, List.take_zero, List.nil_append, Nat.zero_add, List.take_of_length_le (by omega), List.drop_of_length_le (by omega), List.append_nil]
theorem With_ok {r : List CELL} {k : Nat} (h : k < r.length) (hr : r.length ≤ 1000) (z : CELL) : rows_With r (k : Int) z = some (r.set k z, 0) := by
  have c1 : (decide ((r.length : Int) = (r.length : Int)) && decide (0 ≤ (r.length : Int)) && decide (((64 : Nat) : Int) * (r.length : Int) ≤ 281474976710656) && decide ((r.length : Int) ≤ 9223372036854775807)) = true := by
    rw [decide_eq_true rfl, decide_eq_true (by omega), decide_eq_true (by omega), decide_eq_true (by omega)]; rfl
  have ho := over_self (List.replicate r.length zC) r (by simp)
  rw [rows_With, cnd' (by omega), cnd' (by omega), c1, cond_true, Int.toNat_natCast, ho, cnd2 (by omega) (by omega), Int.toNat_natCast, List.getElem?_eq_getElem h, Option.bind_some]
theorem turned_sz {r : List CELL} {k : Nat} {z : CELL} (h : CSz r 9) (hz : SzR z.2 9) : CSz (r.set k z) 9 := by
  intro c hc
  rcases List.mem_or_eq_of_mem_set hc with hc | rfl
  · exact h c hc
  · exact hz
/-- The mean of what is predicted of rows in which one entry stands. -/
def averQ (m : MODEL) (k : Nat) (z : CELL) (R : List (List CELL)) : Rat := bsum (R.map fun r => predM m (r.set k z)) / ((R.length : Int) : Rat)
theorem Average_ok {m : MODEL} (hv : valid_Ok m = some true) (hg : Good m) (ms : MSz m 4) (ml : m.2.length ≤ 6) (mt : ∀ t ∈ m.2, t.length ≤ 15) {k : Nat} (hk : (k : Int) < m.1) {z : CELL} (hz : SzR z.2 9) {R : List (List CELL)} (hR : R.length ≤ 8) (cs : ∀ r ∈ R, CSz r 9) (he : rowsE m R = 0) :
    depend_Average m (k : Int) z R = some (canQ (averQ m k z R), 0) := by
  obtain ⟨hall, hne⟩ := rowsE_zero he
  have f1 := hg.1.2.1
  have hf := feature_ok hv (k : Int)
  rw [featE, if_pos rfl, if_neg (by omega)] at hf
  have hc := check_ok hv R (by omega)
  rw [he] at hc
  have key := lp_up (step := depend_Average_s9) (fun i => (((k : Int), (R.take i).map (fun r => r.set k z), R, (R.length : Int), (i : Int), ()), ((m.1, m.2, ()), (z.1, z.2.1.1, z.2.1.2, z.2.2, ()), (false, [], [], ()), ()))) R.length (r := ((R.map (fun r => r.set k z), ()), ((m.1, m.2, ()), (false, [], [], ()), ()))) (by omega) (by
    intro g i hi
    have d0 : (i : Int) < ((R.length : Nat) : Int) := by omega
    have d1 : (0 : Int) ≤ (i : Int) := by omega
    have hlen := hall _ (List.getElem_mem hi)
    have hw := With_ok (r := R[i]) (k := k) (by omega) (by omega) z
    have hw : rows_With R[i] (k : Int) (z.1, ((z.2.1.1, z.2.1.2), z.2.2)) = _ := hw
    rw [depend_Average_s9, cnd d0, cnd d1, Int.toNat_natCast, List.getElem?_eq_getElem hi, Option.bind_some, hw, Option.bind_some, blt (by simp; omega), cond_true, iadd1 (by omega), map_take_succ (fun r : List CELL => r.set k z) hi]
    rfl) (by
    intro g
    rw [depend_Average_s9, cnd' (by omega), List.take_length])
  have key : lp depend_Average_s9 K0 (((k : Int), [], R, (R.length : Int), 0, ()), ((m.1, m.2, ()), (z.1, z.2.1.1, z.2.1.2, z.2.2, ()), (false, [], [], ()), ())) = _ := key
  obtain ⟨R', eR⟩ : ∃ R', R' = R.map (fun r => r.set k z) := ⟨_, rfl⟩
  rw [← eR] at key
  have hR' : R'.length = R.length := by rw [eR]; simp
  have cs' : ∀ r ∈ R', CSz r 9 := fun r hr => by
    rw [eR] at hr
    obtain ⟨x, hx, rfl⟩ := List.mem_map.1 hr
    exact turned_sz (cs x hx) hz
  have hM : route_Mean m R' = some (canQ (averQ m k z R), 0) := by
    rcases route_Mean_ok hv (b := true) (by simp [hg]) ms ml mt cs' (by omega) with ⟨h, _⟩ | ⟨_, h, _⟩ | ⟨_, _, _, h⟩
    · exfalso; apply hne
      apply List.eq_nil_of_length_eq_zero
      rw [← hR', h]; rfl
    · exfalso; apply h
      rw [ferr_zero]
      intro e hm
      obtain ⟨r, hr, rfl⟩ := List.mem_map.1 hm
      rw [eR] at hr
      obtain ⟨x, hx, rfl⟩ := List.mem_map.1 hr
      rw [errB, if_pos rfl, List.length_set, if_pos (hall x hx)]
    · rw [h, hR', averQ, eR, List.map_map]; rfl
  rw [depend_Average, hf, Option.bind_some, show (!decide ((0 : Int) = 0)) = false by decide, cond_false, hc, Option.bind_some, show (!decide ((0 : Int) = 0)) = false by decide, cond_false, key, Option.bind_some]
  show (route_Mean m R').bind _ = _
  rw [hM, Option.bind_some]
theorem Average_bad {m : MODEL} {b : Bool} (hv : valid_Ok m = some b) (i : Int) (z : CELL) (R : List (List CELL)) (hR : R.length ≤ 1000) (he : (if featE b m i ≠ 0 then featE b m i else rowsE m R) ≠ 0) :
    depend_Average m i z R = some (zR, if featE b m i ≠ 0 then featE b m i else rowsE m R) := by
  by_cases h0 : featE b m i = 0
  · obtain ⟨hb, _, _⟩ := featE_zero h0
    subst hb
    rw [if_neg (by simpa using h0)] at he ⊢
    rw [depend_Average, feature_ok hv, Option.bind_some, h0, show (!decide ((0 : Int) = 0)) = false by decide, cond_false, check_ok hv R hR, Option.bind_some, decide_eq_false he, Bool.not_false, cond_true]
  · rw [if_pos h0] at he ⊢
    rw [depend_Average, feature_ok hv, Option.bind_some, decide_eq_false h0, Bool.not_false, cond_true]
theorem bsum_lsum (l : List Rat) : bsum l = lsum l := by
  induction l with
  | nil => rfl
  | cons x l ih => simp only [bsum, lsum, ih, Rat.add_comm]
theorem bsum_take_succ {l : List Rat} {i : Nat} (h : i < l.length) : bsum (l.take (i + 1)) = bsum (l.take i) + l[i] := by
  rw [bsum_lsum, bsum_lsum, lsum_take_succ h]
theorem averQ_sz {m : MODEL} (hg : Good m) (ms : MSz m 4) (ml : m.2.length ≤ 6) {k : Nat} {z : CELL} {R : List (List CELL)} (hR : R.length ≤ 8) : SzQ (averQ m k z R) 1000 := by
  have hz : ∀ r, SzQ (predM m r) 40 := fun r => (predM_sz (row := r) hg ms (n := m.2.length) (Nat.le_refl _)).mono (by omega)
  have h1 := bsum_sz (l := R.map fun r => predM m (r.set k z)) (k := 40) (fun x hx => by
    obtain ⟨r, _, rfl⟩ := List.mem_map.1 hx
    exact hz _)
  have h2 : SzQ ((R.length : Int) : Rat) 1 := SzQ.int (by omega)
  exact (h1.div h2).mono (by rw [List.length_map]; omega)
theorem average13_ok {m : MODEL} (hg : Good m) (ms : MSz m 4) (ml : m.2.length ≤ 6) (mt : ∀ t ∈ m.2, t.length ≤ 15) {k : Nat} (hk : (k : Int) < m.1) {z : CELL} (hz : SzR z.2 9) {R : List (List CELL)} (hR : R.length ≤ 8) (cs : ∀ r ∈ R, CSz r 9) (he : rowsE m R = 0) :
    dendronlaw13_average m (k : Int) z R = some (canQ (averQ m k z R)) := by
  obtain ⟨hall, hne⟩ := rowsE_zero he
  have f1 := hg.1.2.1
  have hzz : ∀ r, SzQ (predM m r) 40 := fun r => (predM_sz (row := r) hg ms (n := m.2.length) (Nat.le_refl _)).mono (by omega)
  obtain ⟨P, eP⟩ : ∃ P : List Rat, P = R.map fun r => predM m (r.set k z) := ⟨_, rfl⟩
  have lP : P.length = R.length := by rw [eP]; simp
  have hP : ∀ i, i ≤ R.length → SzQ (bsum (P.take i)) 1000 := fun i hi => by
    have := bsum_sz (l := P.take i) (k := 40) (fun x hx => by
      have hx := List.mem_of_mem_take hx
      rw [eP] at hx
      obtain ⟨r, _, rfl⟩ := List.mem_map.1 hx
      exact hzz _)
    exact this.mono (by rw [List.length_take]; omega)
  have key := lp_up (step := dendronlaw13_average_s3) (fun i => (((k : Int), R, (i : Int), ()), ((m.1, m.2, ()), (z.1, z.2.1.1, z.2.1.2, z.2.2, ()), (false, [], [], ()), ((canQ (bsum (P.take i))).1.1, (canQ (bsum (P.take i))).1.2, (canQ (bsum (P.take i))).2, ()), ()))) R.length (r := ((R, ()), ((false, [], [], ()), ((canQ (bsum P)).1.1, (canQ (bsum P)).1.2, (canQ (bsum P)).2, ()), ()))) (by omega) (by
    intro g i hi
    have d0 : (i : Int) < ((R.length : Nat) : Int) := by omega
    have d1 : (0 : Int) ≤ (i : Int) := by omega
    have hlen := hall _ (List.getElem_mem hi)
    have ha : Askd m (R[i].set k z) := ⟨hg, by rw [List.length_set]; exact hlen, ms, ml, mt, turned_sz (cs _ (List.getElem_mem hi)) hz⟩
    have hp := Predict10_ok ha
    have hp : dendronlaw10_Predict (m.1, m.2) (R[i].set (k : Int).toNat (z.1, ((z.2.1.1, z.2.1.2), z.2.2))) = some (canQ (predM m (R[i].set k z))) := by rw [Int.toNat_natCast]; exact hp
    have hadd := ratio_Add_ok ((hP i (by omega)).sm (by decide)) ((hzz (R[i].set k z)).sm (by decide))
    rw [rv_canQ, rv_canQ] at hadd
    have e1 : bsum (P.take (i + 1)) = bsum (P.take i) + predM m (R[i].set k z) := by rw [bsum_take_succ (by omega)]; congr 1; simp [eP]
    rw [dendronlaw13_average_s3, cnd d0, cnd d1, Int.toNat_natCast, List.getElem?_eq_getElem hi, Option.bind_some, blt (by simp; omega), cond_true, List.nil_append, cnd2 (by omega) (by omega), List.getElem?_eq_getElem (by omega), Option.bind_some, hp, Option.bind_some]
    show (ratio_Add (canQ (bsum (P.take i))) _).bind _ = _
    rw [hadd, Option.bind_some, e1, iadd1 (by omega)]
    rfl) (by
    intro g
    rw [dendronlaw13_average_s3, cnd' (by omega), List.take_of_length_le (by omega)])
  have key : lp dendronlaw13_average_s3 K0 (((k : Int), R, 0, ()), ((m.1, m.2, ()), (z.1, z.2.1.1, z.2.1.2, z.2.2, ()), (false, [], [], ()), ((canQ 0).1.1, (canQ 0).1.2, (canQ 0).2, ()), ())) = _ := key
  have hfr := ratio_Frac_ok (n := 1) (d := (R.length : Int)) (by decide) (by decide) (by omega) (by omega)
  have hb := hP R.length (Nat.le_refl _)
  rw [List.take_of_length_le (by omega)] at hb
  have s1 : SzQ (((1 : Int) : Rat) / ((R.length : Int) : Rat)) 2 := (SzQ.int (z := 1) (by decide)).div (SzQ.int (by omega))
  have hm := ratio_Mul_ok (hb.sm (by decide)) (s1.sm (by decide))
  rw [rv_canQ, rv_canQ] at hm
  have e2 : bsum P * (((1 : Int) : Rat) / ((R.length : Int) : Rat)) = averQ m k z R := by
    rw [averQ, ← eP]
    obtain ⟨d, hd⟩ : ∃ d : Rat, d = ((R.length : Int) : Rat) := ⟨_, rfl⟩
    rw [← hd]
    have : ((1 : Int) : Rat) = 1 := rfl
    rw [this]
    grind
  rw [e2] at hm
  rw [dendronlaw13_average, ratio_Zero_ok, Option.bind_some, key, Option.bind_some]
  dsimp only
  rw [hfr, Option.bind_some]
  show (ratio_Mul (canQ (bsum P)) _).bind _ = _
  rw [hm, Option.bind_some]

theorem DependAverages_true (m0 : MODEL) (i : Int) (z0 : CELL) (R0' : List (List CELL)) (hl : m0.2.length ≤ 9223372036854775807) (ht : ∀ t ∈ m0.2, t.length ≤ 9223372036854775807) (hr : R0'.length ≤ 9223372036854775807) (hr2 : ∀ r ∈ R0', r.length ≤ 9223372036854775807) : dendronlaw13_DependAverages m0 i z0 R0' = some true := by
  obtain ⟨m, row, hs, ms, ml, mt, cs⟩ := Small_ok m0 [] hl ht (by simp)
  obtain ⟨b, h1, h2⟩ := Ok_ok (m := m) (k := 4) (by omega) (fun t ht => by have := mt t ht; omega) ms (by decide)
  have h9 : dendronlaw09_Few [z0] 1 = some [cutCell z0] := Few09_ok [z0] 1 (by simp) (by decide)
  obtain ⟨z, ez⟩ : ∃ z, z = cutCell z0 := ⟨_, rfl⟩
  have hz : SzR z.2 9 := by
    rw [ez]
    exact ⟨Nat.le_trans (cutR_sz 3 _).1 (by decide), Nat.le_trans (cutR_sz 3 _).2 (by decide)⟩
  rw [← ez] at h9
  have hA := All09n_ok 6 (by decide) R0' hr hr2
  have hA : dendronlaw09_All R0' 6 70 = some (cutRowsN 6 R0') := hA
  have hRl := cutRowsN_len 6 R0'
  have hRs := cutRowsN_sz 6 R0'
  obtain ⟨R, eR⟩ : ∃ R, R = cutRowsN 6 R0' := ⟨_, rfl⟩
  rw [← eR] at hA hRl hRs
  have hw := whyRows_ok h1 i R (by omega)
  obtain ⟨w, ew⟩ : ∃ w, w = (if featE b m i ≠ 0 then featE b m i else rowsE m R) := ⟨_, rfl⟩
  have hbad := Average_bad h1 i z R (by omega)
  rw [← ew] at hw hbad
  rw [dendronlaw13_DependAverages, hs, Option.bind_some, h9, Option.bind_some, cnd (by simp), List.getElem?_cons_zero, Option.bind_some, hA, Option.bind_some]
  dsimp only
  by_cases he : w = 0
  · have he0 : featE b m i = 0 := by
      rw [ew] at he
      by_cases h : featE b m i = 0
      · exact h
      · rw [if_pos h] at he; exact he
    have her : rowsE m R = 0 := by
      rw [ew, if_neg (by simpa using he0)] at he; exact he
    obtain ⟨hb, i0, i1⟩ := featE_zero he0
    subst hb
    have hg := h2.1 rfl
    obtain ⟨k, rfl⟩ := Int.eq_ofNat_of_zero_le i0
    have hC := Average_ok h1 hg ms (by omega) mt i1 hz (by omega) hRs her
    have hD := average13_ok hg ms (by omega) mt i1 hz (by omega) hRs her
    have hsz := averQ_sz (k := k) (z := z) hg ms (by omega) (R := R) (by omega)
    rw [hC, Option.bind_some, hw, Option.bind_some, he, show (!decide ((0 : Int) = 0)) = false by decide, cond_false]
    dsimp only
    rw [cnd rfl, hD, Option.bind_some, is_self hsz (by decide) hsz (by decide) rfl, Option.bind_some, cond_true, law13_awake_ok]
    rfl
  · rw [hbad he, Option.bind_some, hw, Option.bind_some, decide_eq_false he, Bool.not_false, cond_true, cnd (by simp), Option.bind_some]
    dsimp only
    rw [cnd rfl, law13_awake_ok]
    rfl
end Go.Proofs.YtongppphgbkckaaGreatDoor.X

