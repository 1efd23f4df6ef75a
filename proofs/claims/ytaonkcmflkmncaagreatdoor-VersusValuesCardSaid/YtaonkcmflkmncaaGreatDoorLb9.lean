/- Own work: part of the proof; the first line of each part says what it tells. -/
import Derived.Test.YtaonkcmflkmncaaGreatDoorLb8


namespace Go.Proofs.YtaonkcmflkmncaaGreatDoor.X
open Go
set_option linter.unusedVariables false
set_option linter.unusedSimpArgs false
def whyR (b : Bool) (m : MODEL) (row : List CELL) : Int := if b then (if (row.length : Int) = m.1 then 0 else 14) else 1
def whyV (b : Bool) (m : MODEL) (row : List CELL) (l : List (List CELL)) : Int :=
 if whyR b m row = 0 then (if ∀ r ∈ l, ((r.length : Nat) : Int) = m.1 then (if l.length = 0 then 15 else 0) else 14) else whyR b m row
theorem whyR_ok {b : Bool} {m : MODEL} (h : valid_Ok m = some b) (row : List CELL) : route_Fits m row = some (whyR b m row) ∧ dendronlaw10_Why m row = some (whyR b m row) := by
 have : route_fits m row = some (whyR b m row) := by
  rw [route_fits, h, Option.bind_some, whyR]
  cases b with
  | false => rfl
  | true =>
   rw [Bool.not_true, cond_false, if_pos rfl]
   by_cases e : (row.length : Int) = m.1
   · rw [decide_eq_true e, if_pos e]; rfl
   · rw [decide_eq_false e, if_neg e]; rfl
 exact ⟨by rw [route_Fits, this]; rfl, this⟩
theorem whyV_ok {b : Bool} {m : MODEL} (h : valid_Ok m = some b) (row : List CELL) {l : List (List CELL)} (hl : l.length < 1000000000) :
   versus_fits m row l = some (whyV b m row l) ∧ dendronlaw17_why m row l = some (whyV b m row l) := by
 obtain ⟨r1, r2⟩ := whyR_ok h row
 obtain ⟨mf, mt⟩ := m
 unfold whyV
 by_cases h0 : whyR b (mf, mt) row = 0
 · rw [if_pos h0]
   rw [h0] at r1 r2
   have hb : b = true := by cases b with
     | true => rfl
     | false => exact absurd h0 (by rw [whyR, if_neg (by decide)]; decide)
   subst hb
   have k1 := lp_all (step := versus_fits_s5) (fun i => ((l, l, (l.length : Int), (i : Int), ()), ((mf, mt, ()), ()))) l.length (fun i => ∀ h : i < l.length, ((l[i].length : Nat) : Int) = mf) (fun _ => .inr ((14, ()), ())) (.inl ((l, ()), ())) (by omega) (by
     intro i hi
     have d0 : (i : Int) < (l.length : Int) := by omega
     have d1 : (0 : Int) ≤ (i : Int) := by omega
     have st : ∀ g, versus_fits_s5 g ((l, l, (l.length : Int), (i : Int), ()), ((mf, mt, ()), ())) = bif (!decide (whyR true (mf, mt) l[i] = 0)) then some (.inr ((whyR true (mf, mt) l[i], ()), ())) else g ((l, l, (l.length : Int), ((i + 1 : Nat) : Int), ()), ((mf, mt, ()), ())) := by
       intro g
       rw [versus_fits_s5, cnd d0, cnd d1, Int.toNat_natCast, List.getElem?_eq_getElem hi, Option.bind_some, (whyR_ok h l[i]).1, Option.bind_some, iadd1 (by omega)]
       rfl
     by_cases e : ((l[i].length : Nat) : Int) = mf
     · have : whyR true (mf, mt) l[i] = 0 := by rw [whyR, if_pos rfl, if_pos e]
       exact .inl ⟨fun _ => e, fun g => by rw [st g, this]; rfl⟩
     · have : whyR true (mf, mt) l[i] = 14 := by rw [whyR, if_pos rfl, if_neg e]
       exact .inr ⟨fun hh => e (hh hi), fun g => by rw [st g, this]; rfl⟩) (by
     intro g
     rw [versus_fits_s5, cnd' (by omega)])
   have k2 := lp_all (step := dendronlaw17_why_s4) (fun i => ((l, (i : Int), ()), ((mf, mt, ()), ()))) l.length (fun i => ∀ h : i < l.length, ((l[i].length : Nat) : Int) = mf) (fun _ => .inr ((14, ()), ())) (.inl ((l, ()), ())) (by omega) (by
     intro i hi
     have d0 : (i : Int) < (l.length : Int) := by omega
     have d1 : (0 : Int) ≤ (i : Int) := by omega
     by_cases e : ((l[i].length : Nat) : Int) = mf
     · exact .inl ⟨fun _ => e, fun g => by
         rw [dendronlaw17_why_s4, cnd d0, cnd d1, Int.toNat_natCast, List.getElem?_eq_getElem hi, Option.bind_some, decide_eq_true e, Bool.not_true, cond_false, iadd1 (by omega)]; rfl⟩
     · exact .inr ⟨fun hh => e (hh hi), fun g => by
         rw [dendronlaw17_why_s4, cnd d0, cnd d1, Int.toNat_natCast, List.getElem?_eq_getElem hi, Option.bind_some, decide_eq_false e, Bool.not_false, cond_true]⟩) (by
     intro g
     rw [dendronlaw17_why_s4, cnd' (by omega)])
   have k1 : (_ ∧ lp versus_fits_s5 K0 ((l, l, (l.length : Int), 0, ()), ((mf, mt, ()), ())) = _) ∨ ∃ i, _ ∧ _ ∧ lp versus_fits_s5 K0 ((l, l, (l.length : Int), 0, ()), ((mf, mt, ()), ())) = _ := k1
   have k2 : (_ ∧ lp dendronlaw17_why_s4 K0 ((l, 0, ()), ((mf, mt, ()), ())) = _) ∨ ∃ i, _ ∧ _ ∧ lp dendronlaw17_why_s4 K0 ((l, 0, ()), ((mf, mt, ()), ())) = _ := k2
   rw [versus_fits, r1, Option.bind_some, dendronlaw17_why, r2, Option.bind_some]
   dsimp only
   rw [show (!decide ((0 : Int) = 0)) = false by decide, cond_false, cond_false]
   by_cases ha : ∀ r ∈ l, ((r.length : Nat) : Int) = mf
   · rw [if_pos ha]
     have e1 : lp versus_fits_s5 K0 ((l, l, (l.length : Int), 0, ()), ((mf, mt, ()), ())) = some (.inl ((l, ()), ())) := by
       rcases k1 with ⟨_, e⟩ | ⟨i, hi, hn, _⟩
       · exact e
       · exact absurd (fun _ => ha _ (List.getElem_mem hi)) hn
     have e2 : lp dendronlaw17_why_s4 K0 ((l, 0, ()), ((mf, mt, ()), ())) = some (.inl ((l, ()), ())) := by
       rcases k2 with ⟨_, e⟩ | ⟨i, hi, hn, _⟩
       · exact e
       · exact absurd (fun _ => ha _ (List.getElem_mem hi)) hn
     rw [e1, e2]
     simp only [Option.bind_some]
     by_cases hz : l.length = 0
     · rw [cnd (by omega), if_pos hz]; exact ⟨rfl, rfl⟩
     · rw [cnd' (by omega), if_neg hz]; exact ⟨rfl, rfl⟩
   · rw [if_neg ha]
     have hno : ¬ ∀ i, i < l.length → ∀ h : i < l.length, ((l[i].length : Nat) : Int) = mf := fun hh => ha fun r hr => by
       obtain ⟨i, hi, rfl⟩ := List.mem_iff_getElem.1 hr
       exact hh i hi hi
     rcases k1 with ⟨h1, _⟩ | ⟨_, _, _, e1⟩
     · exact absurd h1 hno
     · rcases k2 with ⟨h1, _⟩ | ⟨_, _, _, e2⟩
       · exact absurd h1 hno
       · rw [e1, e2]; exact ⟨rfl, rfl⟩
 · rw [if_neg h0]
   refine ⟨by rw [versus_fits, r1, Option.bind_some, decide_eq_false h0]; rfl, by rw [dendronlaw17_why, r2, Option.bind_some, decide_eq_false h0]; rfl⟩
theorem rsum_zeros {f : Nat → Rat} {n : Nat} (h : ∀ i, i < n → f i = 0) : rsum f n = 0 := by
 induction n with
 | zero => rfl
 | succ n ih => rw [rsum, ih fun i hi => h i (by omega), h n (by omega), Rat.add_zero]
theorem mN_cons (p p' : AP) (z : List PP) : mN ((p, p') :: z) = if p.2.2 && !p'.2.2 then p.1 :: mN z else mN z := by
 simp only [mN, List.filterMap_cons]; cases p.2.2 <;> cases p'.2.2 <;> rfl
theorem iN_cons (p p' : AP) (z : List PP) : iN ((p, p') :: z) = if !p.2.2 && p'.2.2 then p.1 :: iN z else iN z := by
 simp only [iN, List.filterMap_cons]; cases p.2.2 <;> cases p'.2.2 <;> rfl
theorem nN_cons (p p' : AP) (z : List PP) : nN ((p, p') :: z) = ((!p.2.2 && !p'.2.2) || nN z) := by simp only [nN, List.any_cons, bothNo]
theorem law17_awake_ok : dendronlaw17_awake = some true := by decide +kernel
theorem bit_add {S f : Nat} (h : S.testBit f = false) : ∀ j, (S + 2 ^ f).testBit j = (decide (j = f) || S.testBit j) := by
 induction f generalizing S with
 | zero =>
  intro j
  have h0 : S % 2 = 0 := by rw [Nat.testBit_zero] at h; simpa using h
  cases j with
  | zero => rw [Nat.testBit_zero]; simp; omega
  | succ j =>
   rw [Nat.testBit_succ, Nat.testBit_succ, show (S + 2 ^ 0) / 2 = S / 2 by omega]
   simp
 | succ f ih =>
  intro j
  rw [Nat.testBit_succ] at h
  have e1 : (S + 2 ^ (f + 1)) / 2 = S / 2 + 2 ^ f := by rw [Nat.pow_succ]; omega
  have e2 : (S + 2 ^ (f + 1)) % 2 = S % 2 := by rw [Nat.pow_succ]; omega
  cases j with
  | zero => rw [Nat.testBit_zero, Nat.testBit_zero, e2]; simp
  | succ j =>
   rw [Nat.testBit_succ, Nat.testBit_succ, e1, ih h]
   simp
theorem bit_add_lt {S f n : Nat} (h : S.testBit f = false) (hS : S < 2 ^ n) (hf : f < n) : S + 2 ^ f < 2 ^ n := by
 refine Nat.lt_pow_two_of_testBit _ fun i hi => ?_
 rw [bit_add h, decide_eq_false (by omega), Bool.false_or]
 exact Nat.testBit_lt_two_pow (Nat.lt_of_lt_of_le hS (Nat.pow_le_pow_right (by decide) hi))
def popc : Nat → Nat → Nat
 | 0, _ => 0
 | n + 1, S => popc n S + (if S.testBit n then 1 else 0)
theorem popc_le (n S : Nat) : popc n S ≤ n := by
 induction n with
 | zero => exact Nat.le_refl _
 | succ n ih => rw [popc]; split <;> omega
theorem popc_congr {n S S' : Nat} (h : ∀ j, j < n → S.testBit j = S'.testBit j) : popc n S = popc n S' := by
 induction n with
 | zero => rfl
 | succ n ih => rw [popc, popc, ih fun j hj => h j (by omega), h n (by omega)]
theorem rsum_split (f : Nat → Rat) (a b : Nat) : rsum f (a + b) = rsum f a + rsum (fun i => f (i + a)) b := by
 induction b with
 | zero => simp [rsum, Rat.add_zero]
 | succ b ih => rw [← Nat.add_assoc, rsum, ih, rsum, Rat.add_assoc, Nat.add_comm a b]
theorem rprod_congr {f g : Nat → Rat} {n : Nat} (h : ∀ i, i < n → f i = g i) : rprod f n = rprod g n := by
 induction n with
 | zero => rfl
 | succ n ih => rw [rprod, rprod, ih fun i hi => h i (by omega), h n (by omega)]
abbrev BA := Rat × Rat
def pick (x : BA) (b : Bool) : Rat := if b then x.2 else x.1
def EE : List BA → (Nat → Rat) → Rat
 | [], c => c 0
 | x :: L, c => x.1 * EE L c + x.2 * EE L fun k => c (k + 1)
theorem EE_congr {L : List BA} : ∀ {c d : Nat → Rat}, (∀ k, k ≤ L.length → c k = d k) → EE L c = EE L d := by
 induction L with
 | nil => intro c d h; exact h 0 (Nat.le_refl _)
 | cons x L ih =>
  intro c d h
  rw [EE, EE, ih fun k hk => h k (by simp only [List.length_cons]; omega), ih fun k hk => h (k + 1) (by simp only [List.length_cons]; omega)]
theorem EE_add {L : List BA} : ∀ {c d : Nat → Rat}, EE L (fun k => c k + d k) = EE L c + EE L d := by
 induction L with
 | nil => intro c d; rfl
 | cons x L ih => intro c d; rw [EE, EE, EE, ih, ih]; grind
theorem EE_perm {L M : List BA} (h : L.Perm M) : ∀ c, EE L c = EE M c := by
 induction h with
 | nil => intro c; rfl
 | cons x _ ih => intro c; rw [EE, EE, ih, ih]
 | swap x y L => intro c; simp only [EE]; grind
 | trans _ _ ih1 ih2 => intro c; rw [ih1, ih2]
theorem EE_out {L : List BA} {x : BA} : ∀ c, EE (x :: L) c = EE (L ++ [x]) c := fun c => EE_perm (by
 have := (List.perm_append_comm (l₁ := [x]) (l₂ := L)); simpa using this) c
theorem EE_one (L : List BA) (c : Nat → Rat) : EE ((1, 1) :: L) c = EE L fun k => c k + c (k + 1) := by
 rw [EE, EE_add]; grind
theorem EE_off (L : List BA) (c : Nat → Rat) : EE ((1, 0) :: L) c = EE L c := by rw [EE]; grind
theorem sets_sum (g : Nat → BA) (n : Nat) : ∀ c : Nat → Rat, rsum (fun S => c (popc n S) * rprod (fun j => pick (g j) (S.testBit j)) n) (2 ^ n) = EE ((List.range n).map g) c := by
 induction n with
 | zero => intro c; simp [rsum, popc, rprod, EE, Rat.mul_one, Rat.zero_add]
 | succ n ih =>
  intro c
  have hb : ∀ S, S < 2 ^ n → S.testBit n = false := fun S hS => Nat.testBit_lt_two_pow hS
  have e1 : rsum (fun S => c (popc (n + 1) S) * rprod (fun j => pick (g j) (S.testBit j)) (n + 1)) (2 ^ n) = (g n).1 * rsum (fun S => c (popc n S) * rprod (fun j => pick (g j) (S.testBit j)) n) (2 ^ n) := by
   rw [Rat.mul_comm (g n).1, ← rsum_mul]
   refine rsum_congr fun S hS => ?_
   rw [popc, rprod, hb S hS, if_neg (by decide), Nat.add_zero, pick, if_neg (by decide)]; grind
  have e2 : rsum (fun S => c (popc (n + 1) (S + 2 ^ n)) * rprod (fun j => pick (g j) ((S + 2 ^ n).testBit j)) (n + 1)) (2 ^ n) = (g n).2 * rsum (fun S => c (popc n S + 1) * rprod (fun j => pick (g j) (S.testBit j)) n) (2 ^ n) := by
   rw [Rat.mul_comm (g n).2, ← rsum_mul]
   refine rsum_congr fun S hS => ?_
   have hj := bit_add (hb S hS)
   have hp : popc n (S + 2 ^ n) = popc n S := popc_congr fun j hj' => by rw [hj j, decide_eq_false (by omega), Bool.false_or]
   have hr : rprod (fun j => pick (g j) ((S + 2 ^ n).testBit j)) n = rprod (fun j => pick (g j) (S.testBit j)) n := rprod_congr fun j hj' => by rw [hj j, decide_eq_false (by omega), Bool.false_or]
   rw [popc, rprod, hp, hr, hj n, decide_eq_true rfl, Bool.true_or, if_pos rfl, pick, if_pos rfl]; grind
  rw [Nat.pow_succ, Nat.mul_two, rsum_split, e1, e2, ih c, ih fun k => c (k + 1), List.range_succ, List.map_append]
  show _ = EE (_ ++ [g n]) c
  rw [← EE_out, EE]
theorem wq_add {k n : Nat} (h : k < n) : wq k (n + 1) + wq (k + 1) (n + 1) = wq k n := by
 unfold wq quo
 have e1 : n + 1 - k - 1 = (n - k - 1) + 1 := by omega
 have e2 : n + 1 - (k + 1) - 1 = n - k - 1 := by omega
 rw [e1, e2]
 obtain ⟨j, hj⟩ : ∃ j, j = n - k - 1 := ⟨_, rfl⟩
 rw [← hj]
 have hn : ((n : Nat) : Rat) = (j : Rat) + (k : Rat) + 1 := by
  have : n = j + k + 1 := by omega
  rw [this]; push_cast; rfl
 have f1 : ((fac (j + 1) : Nat) : Rat) = ((j : Rat) + 1) * ((fac j : Nat) : Rat) := by rw [fac]; push_cast; rfl
 have f2 : ((fac (k + 1) : Nat) : Rat) = ((k : Rat) + 1) * ((fac k : Nat) : Rat) := by rw [fac]; push_cast; rfl
 have f3 : ((fac (n + 1) : Nat) : Rat) = ((n : Rat) + 1) * ((fac n : Nat) : Rat) := by rw [fac]; push_cast; rfl
 have p1 : ((fac n : Nat) : Rat) ≠ 0 := by
  have := fac_pos n
  intro e
  have : (fac n : Nat) = 0 := by exact_mod_cast e
  omega
 have p2 : (n : Rat) + 1 ≠ 0 := by
  intro e
  have : ((n + 1 : Nat) : Rat) = 0 := by push_cast; exact e
  have : (n + 1 : Nat) = 0 := by exact_mod_cast this
  omega
 rw [f1, f2, f3]
 obtain ⟨a, ha⟩ : ∃ a, a = ((fac k : Nat) : Rat) := ⟨_, rfl⟩
 obtain ⟨b, hb⟩ : ∃ b, b = ((fac j : Nat) : Rat) := ⟨_, rfl⟩
 obtain ⟨d, hd⟩ : ∃ d, d = ((fac n : Nat) : Rat) := ⟨_, rfl⟩
 obtain ⟨x, hx⟩ : ∃ x, x = (j : Rat) := ⟨_, rfl⟩
 obtain ⟨y, hy⟩ : ∃ y, y = (k : Rat) := ⟨_, rfl⟩
 rw [← hd] at p1 ⊢
 rw [hn, ← hx, ← hy] at p2
 rw [hn, ← ha, ← hb, ← hx, ← hy]
 grind
theorem EE_dummy (L : List BA) (d : Nat) : EE (List.replicate d (1, 1) ++ L) (fun k => wq k (L.length + 1 + d)) = EE L fun k => wq k (L.length + 1) := by
 induction d with
 | zero => rfl
 | succ d ih =>
  rw [List.replicate_succ, List.cons_append, EE_one, ← ih]
  refine EE_congr fun k hk => ?_
  simp only [List.length_append, List.length_replicate] at hk
  exact wq_add (k := k) (n := L.length + 1 + d) (by omega)
def shapT (v : Nat → Rat) (n f S : Nat) : Rat := if S.testBit f then 0 else wq (popc n S) n * (v (S + 2 ^ f) - v S)
def shapQ (v : Nat → Rat) (n f : Nat) : Rat := rsum (shapT v n f) (2 ^ n)
theorem shapQ_congr {v w : Nat → Rat} {n f : Nat} (hf : f < n) (h : ∀ S, S < 2 ^ n → v S = w S) : shapQ v n f = shapQ w n f := by
 refine rsum_congr fun S hS => ?_
 unfold shapT
 cases hb : S.testBit f with
 | true => rfl
 | false => rw [if_neg (by decide), if_neg (by decide), h S hS, h _ (bit_add_lt hb hS hf)]
theorem rsum_addF (f g : Nat → Rat) (n : Nat) : rsum (fun i => f i + g i) n = rsum f n + rsum g n := by
 induction n with
 | zero => simp [rsum, Rat.add_zero]
 | succ n ih => rw [rsum, rsum, rsum, ih]; grind
theorem shapQ_add (v w : Nat → Rat) (n f : Nat) : shapQ (fun S => v S + w S) n f = shapQ v n f + shapQ w n f := by
 unfold shapQ
 rw [← rsum_addF]
 refine rsum_congr fun S _ => ?_
 unfold shapT
 split
 · simp [Rat.add_zero]
 · grind
theorem shapQ_mul (v : Nat → Rat) (n f : Nat) (q : Rat) : shapQ (fun S => v S * q) n f = shapQ v n f * q := by
 unfold shapQ
 rw [← rsum_mul]
 refine rsum_congr fun S _ => ?_
 unfold shapT
 split
 · rw [Rat.zero_mul]
 · grind
theorem shapQ_zero (n f : Nat) : shapQ (fun _ => 0) n f = 0 := by
 unfold shapQ
 refine rsum_zeros fun S _ => ?_
 unfold shapT
 split
 · rfl
 · grind
theorem shapQ_rsum (v : Nat → Nat → Rat) (n f : Nat) : ∀ k, shapQ (fun S => rsum (fun i => v i S) k) n f = rsum (fun i => shapQ (v i) n f) k := by
 intro k
 induction k with
 | zero => exact shapQ_zero n f
 | succ k ih => rw [rsum, ← ih, ← shapQ_add]; rfl
theorem shapQ_lsum {α : Type} (v : α → Nat → Rat) (n f : Nat) : ∀ l : List α, shapQ (fun S => lsum (l.map fun x => v x S)) n f = lsum (l.map fun x => shapQ (v x) n f) := by
 intro l
 induction l with
 | nil => exact shapQ_zero n f
 | cons x l ih => rw [List.map_cons, lsum, ← ih, ← shapQ_add]; rfl
abbrev FP := Nat × BA
def lkG : List FP → Nat → BA
 | [], _ => (1, 1)
 | p :: P, j => if p.1 = j then p.2 else lkG P j
theorem lkG_out {P : List FP} {j : Nat} (h : j ∉ P.map (·.1)) : lkG P j = (1, 1) := by
 induction P with
 | nil => rfl
 | cons p P ih =>
  simp only [List.map_cons, List.mem_cons, not_or] at h
  rw [lkG, if_neg (fun e => h.1 e.symm), ih h.2]
theorem lkG_map {P : List FP} (hnd : (P.map (·.1)).Nodup) : (P.map (·.1)).map (lkG P) = P.map (·.2) := by
 induction P with
 | nil => rfl
 | cons p P ih =>
  have h := List.nodup_cons.1 hnd
  have ih := ih h.2
  simp only [List.map_cons, lkG, if_true, List.cons.injEq, true_and]
  rw [← ih]
  refine List.map_congr_left fun j hj => ?_
  exact if_neg (fun e => h.1 (by subst e; exact hj))
theorem range_perm {n : Nat} {F : List Nat} (hnd : F.Nodup) (hlt : ∀ j ∈ F, j < n) : ∃ R : List Nat, (List.range n).Perm (F ++ R) ∧ ∀ j ∈ R, j ∉ F := by
 refine ⟨(List.range n).filter fun j => !F.contains j, ?_, fun j hj => by simpa using (List.mem_filter.1 hj).2⟩
 refine (List.perm_ext_iff_of_nodup List.nodup_range ?_).2 fun a => ?_
 · refine List.nodup_append.2 ⟨hnd, List.Nodup.sublist List.filter_sublist List.nodup_range, fun a ha b hb e => ?_⟩
   subst e
   have := (List.mem_filter.1 hb).2
   simp at this
   exact this ha
 · simp only [List.mem_append, List.mem_filter, List.mem_range]
   constructor
   · intro h
     by_cases ha : a ∈ F
     · exact .inl ha
     · exact .inr ⟨h, by simpa using ha⟩
   · rintro (h | h)
     · exact hlt a h
     · exact h.1
theorem lprod_perm {a b : List Rat} (h : a.Perm b) : lprod a = lprod b := by
 induction h with
 | nil => rfl
 | cons x _ ih => rw [lprod, lprod, ih]
 | swap x y l => simp only [lprod]; grind
 | trans _ _ h1 h2 => rw [h1, h2]
theorem rprod_range (h : Nat → Rat) (n : Nat) : rprod h n = lprod ((List.range n).map h) := by
 induction n with
 | zero => rfl
 | succ n ih => rw [rprod, ih, List.range_succ, List.map_append, lprod_append]; simp [lprod, Rat.mul_one]
theorem lprod_ones {l : List Rat} (h : ∀ x ∈ l, x = 1) : lprod l = 1 := by
 induction l with
 | nil => rfl
 | cons x l ih => rw [lprod, h x List.mem_cons_self, ih fun y hy => h y (List.mem_cons_of_mem _ hy), Rat.mul_one]
def prodP (P : List FP) (S : Nat) : Rat := lprod (P.map fun p => pick p.2 (S.testBit p.1))
theorem shap_prod {n f : Nat} {x : BA} {P : List FP} (hf : f < n) (hnd : (P.map (·.1)).Nodup) (hlt : ∀ p ∈ P, p.1 < n) (hnf : f ∉ P.map (·.1)) :
  shapQ (fun S => pick x (S.testBit f) * prodP P S) n f = (x.2 - x.1) * EE (P.map (·.2)) fun k => wq k (P.length + 1) := by
 obtain ⟨R, hR, hRF⟩ := range_perm (n := n) (F := f :: P.map (·.1)) (List.nodup_cons.2 ⟨hnf, hnd⟩) (fun j hj => by
  rcases List.mem_cons.1 hj with rfl | hj
  · exact hf
  · obtain ⟨p, hp, rfl⟩ := List.mem_map.1 hj; exact hlt p hp)
 obtain ⟨g, hg⟩ : ∃ g : Nat → BA, g = fun j => if j = f then (1, 0) else lkG P j := ⟨_, rfl⟩
 have gf : g f = (1, 0) := by rw [hg]; exact if_pos rfl
 have gP : (P.map (·.1)).map g = P.map (·.2) := by
  rw [← lkG_map hnd]
  refine List.map_congr_left fun j hj => ?_
  rw [hg]
  exact if_neg fun e => hnf (by rw [← e]; exact hj)
 have gR : ∀ j ∈ R, g j = (1, 1) := fun j hj => by
  have := hRF j hj
  simp only [List.mem_cons, not_or] at this
  rw [hg]
  show (if j = f then _ else _) = _
  rw [if_neg this.1, lkG_out this.2]
 have hlen : n = P.length + 1 + R.length := by
  have := hR.length_eq
  simp only [List.length_range, List.length_append, List.length_cons, List.length_map] at this
  omega
 have hprod : ∀ S, rprod (fun j => pick (g j) (S.testBit j)) n = if S.testBit f then 0 else prodP P S := fun S => by
  rw [rprod_range, lprod_perm (hR.map _), List.map_append, lprod_append, List.map_cons, lprod, gf, lprod_ones (l := R.map _) (fun y hy => by
    obtain ⟨j, hj, rfl⟩ := List.mem_map.1 hy
    rw [gR j hj]; unfold pick; split <;> rfl)]
  have e : ((P.map (·.1)).map fun j => pick (g j) (S.testBit j)) = P.map fun p => pick p.2 (S.testBit p.1) := by
    rw [List.map_map]
    refine List.map_congr_left fun p hp => ?_
    show pick (g p.1) _ = _
    have : g p.1 = p.2 := by
     obtain ⟨i, hi, rfl⟩ := List.mem_iff_getElem.1 hp
     have := congrArg (fun l => l[i]?) gP
     simp only [List.getElem?_map, List.getElem?_eq_getElem hi, Option.map_some, Option.some.injEq] at this
     exact this
    rw [this]
  rw [e]
  unfold pick prodP
  split
  · simp [Rat.zero_mul]
  · simp [Rat.one_mul, Rat.mul_one]; rfl
 have hsum : shapQ (fun S => pick x (S.testBit f) * prodP P S) n f = (x.2 - x.1) * rsum (fun S => wq (popc n S) n * rprod (fun j => pick (g j) (S.testBit j)) n) (2 ^ n) := by
  unfold shapQ
  rw [Rat.mul_comm, ← rsum_mul]
  refine rsum_congr fun S hS => ?_
  rw [hprod]
  unfold shapT
  cases hb : S.testBit f with
  | true => simp [Rat.mul_zero, Rat.zero_mul]
  | false =>
    have hb' := bit_add hb
    have e1 : prodP P (S + 2 ^ f) = prodP P S := by
     unfold prodP
     congr 1
     refine List.map_congr_left fun p hp => ?_
     rw [hb' p.1, decide_eq_false (fun e => hnf (List.mem_map.2 ⟨p, hp, e⟩)), Bool.false_or]
    dsimp only
    rw [if_neg (by decide), if_neg (by decide), e1, hb' f, decide_eq_true rfl, Bool.true_or]
    simp only [pick, if_true, Bool.false_eq_true, if_false]
    grind
 have hss := sets_sum g n fun k => wq k n
 rw [hsum, hss]
 congr 1
 have hp2 : ((List.range n).map g).Perm ((1, 0) :: (List.replicate R.length (1, 1) ++ P.map (·.2))) := by
  refine (hR.map g).trans ?_
  rw [List.map_append, List.map_cons, gf, gP, List.cons_append]
  have : R.map g = List.replicate R.length (1, 1) := by
    rw [List.eq_replicate_iff]
    exact ⟨by simp, fun y hy => by obtain ⟨j, hj, rfl⟩ := List.mem_map.1 hy; exact gR j hj⟩
  rw [this]
  exact List.Perm.cons _ List.perm_append_comm
 rw [EE_perm hp2, EE_off]
 have := EE_dummy (P.map (·.2)) R.length
 rw [List.length_map] at this
 rw [← this, ← hlen]
theorem shap_none {n f : Nat} {P : List FP} (hnf : f ∉ P.map (·.1)) : shapQ (prodP P) n f = 0 := by
 unfold shapQ
 refine rsum_zeros fun S _ => ?_
 unfold shapT
 cases hb : S.testBit f with
 | true => rfl
 | false =>
  have e1 : prodP P (S + 2 ^ f) = prodP P S := by
   unfold prodP
   congr 1
   refine List.map_congr_left fun p hp => ?_
   rw [bit_add hb p.1, decide_eq_false (fun e => hnf (List.mem_map.2 ⟨p, hp, e⟩)), Bool.false_or]
  rw [if_neg (by decide), e1]; grind
def cutRowsN (n : Nat) (l : List (List CELL)) : List (List CELL) := (l.take n).map fun r => (r.take 70).map cutCell
theorem All09n_ok (n : Nat) (hn : n ≤ 1000) (l : List (List CELL)) (hl : l.length ≤ 9223372036854775807) (hr : ∀ r ∈ l, r.length ≤ 9223372036854775807) : dendronlaw09_All l (n : Int) 70 = some (cutRowsN n l) := by
 have key := lp_up (step := dendronlaw09_All_s3) (fun i => ((l, (n : Int), 70, (l.take i).map (fun r => (r.take 70).map cutCell), (i : Int), ()), ())) (min l.length n) (r := ((cutRowsN n l, ()), ())) (by omega) (by
  intro g i hi
  have hi1 : i < l.length := by omega
  have d0 : (i : Int) < ((l.length : Nat) : Int) := by omega
  have d1 : (0 : Int) ≤ (i : Int) := by omega
  have d2 : (i : Int) < (n : Int) := by omega
  have h9 : dendronlaw09_Few l[i] 70 = some ((l[i].take 70).map cutCell) := Few09_ok l[i] 70 (hr _ (List.getElem_mem hi1)) (by decide)
  have d4 : (((l.take i).map (fun r => (r.take 70).map cutCell)).length + 1) * 24 ≤ 140737488355328 := by simp; omega
  rw [dendronlaw09_All_s3, cnd d0, cnd d2, cnd d1, Int.toNat_natCast, List.getElem?_eq_getElem hi1, Option.bind_some, h9, Option.bind_some, blt d4, cond_true, iadd1 (by omega), map_take_succ _ hi1]
  rfl) (by
  intro g
  by_cases h : l.length ≤ n
  · rw [dendronlaw09_All_s3, cnd' (by omega), Nat.min_eq_left h, List.take_of_length_le (Nat.le_refl _), cutRowsN, List.take_of_length_le h]
  · rw [dendronlaw09_All_s3, cnd (by omega), cnd' (by omega), Nat.min_eq_right (by omega), cutRowsN])
 have key : lp dendronlaw09_All_s3 K0 ((l, (n : Int), 70, [], 0, ()), ()) = _ := key
 rw [dendronlaw09_All, key]; rfl
theorem cutRowsN_sz (n : Nat) (l : List (List CELL)) : ∀ r ∈ cutRowsN n l, CSz r 9 := by
 intro r hr
 obtain ⟨x, _, rfl⟩ := List.mem_map.1 hr
 exact cutRow_sz _
theorem cutRowsN_len (n : Nat) (l : List (List CELL)) : (cutRowsN n l).length ≤ n := by simp [cutRowsN]; omega
def rowAt (l : List (List CELL)) (i : Nat) : List CELL := (l[i]?).getD []
theorem rowAt_get {l : List (List CELL)} {i : Nat} (h : i < l.length) : rowAt l i = l[i] := by simp [rowAt, h]
structure AskB (m : MODEL) (row : List CELL) (l : List (List CELL)) : Prop where
 a : Askd m row
 b : ∀ r ∈ l, Askd m r
 ll : l.length ≤ 8
 ne : l.length ≠ 0
theorem AskB.at {m : MODEL} {row : List CELL} {l : List (List CELL)} (h : AskB m row l) {i : Nat} (hi : i < l.length) : Askd m l[i] := h.b _ (List.getElem_mem hi)
def backV (m : MODEL) (row : List CELL) (l : List (List CELL)) (k : Nat) (f : Nat) : Rat := rsum (fun i => oneV m row (rowAt l i) f) k
theorem backV_sz {m : MODEL} {row : List CELL} {l : List (List CELL)} (h : AskB m row l) {k : Nat} (hk : k ≤ l.length) (f : Nat) : SzQ (backV m row l k f) 300000000 := by
 have := rsum_sz (f := fun i => oneV m row (rowAt l i) f) (k := 30000000) (n := k) (fun j hj => oneV_sz (other := rowAt l j) h.a (Nat.le_refl _) f)
 exact this.mono (by have := h.ll
                     have := Nat.mul_le_mul_right 30000001 (show k ≤ 8 by omega); omega)
def part1 (l : List (List CELL)) : Rat := ((1 : Int) : Rat) / ((l.length : Int) : Rat)
theorem part1_sz {l : List (List CELL)} (h : l.length ≤ 8) : SzQ (part1 l) 2 := (SzQ.int (z := 1) (by decide)).div (SzQ.int (by omega))
theorem vadd_loop {n : Nat} {row : List CELL} {l l' : List (List CELL)} {c1 c2 : Int} {mf : Int} {mt : List (List NODE)} {d st sm : Int} {f : List WH} {o p : Nat → Rat} {k j : Nat} (hn : n ≤ 1000)
  (ho : ∀ f, f < n → SzQ (o f) k) (hp : ∀ f, f < n → SzQ (p f) j) (hk : k < 1000000000) (hj : j < 1000000000) :
  lp versus_Values_s10 K0 ((row, l, flo n o, l', c1, c2, flo n p, ((flo n p).length : Int), 0, ()), ((mf, mt, ()), (d, st, sm, f, ()), ())) = some ((row, l, flo n (fun f => o f + p f), l', c1, c2, ()), ((mf, mt, ()), (d, st, sm, f, ()), ())) := by
 have pl := flo_len n p
 have key := lp_up (step := versus_Values_s10) (fun i => ((row, l, flo n (fun f => if f < i then o f + p f else o f), l', c1, c2, flo n p, ((flo n p).length : Int), (i : Int), ()), ((mf, mt, ()), (d, st, sm, f, ()), ()))) n (r := ((row, l, flo n (fun f => o f + p f), l', c1, c2, ()), ((mf, mt, ()), (d, st, sm, f, ()), ()))) (by omega) (by
  intro g i hi
  have ol := flo_len n (fun f => if f < i then o f + p f else o f)
  have d0 : (i : Int) < ((flo n p).length : Int) := by omega
  have d1 : (0 : Int) ≤ (i : Int) := by omega
  have d2 : (i : Int) < ((flo n (fun f => if f < i then o f + p f else o f)).length : Int) := by omega
  have ha := ratio_Add_ok ((ho i hi).sm (by omega)) ((hp i hi).sm (by omega))
  rw [rv_canQ, rv_canQ] at ha
  rw [versus_Values_s10, cnd d0, cnd2 d1 d0, Int.toNat_natCast, flo_get _ hi, Option.bind_some, cnd2 d1 d2, flo_get _ hi, Option.bind_some, if_neg (Nat.lt_irrefl i), ha, Option.bind_some, cnd2 d1 d2, Option.bind_some, iadd1 (by omega)]
  rw [flo_set (p := fun f => if f < i + 1 then o f + p f else o f) (by rw [if_pos (by omega)]) (fun f hf => by
   by_cases h : f < i
   · rw [if_pos (by omega), if_pos h]
   · rw [if_neg (by omega), if_neg h])]
  rfl) (by
  intro g
  rw [versus_Values_s10, cnd' (by omega)]
  rw [flo_congr (o := fun f => if f < n then o f + p f else o f) (p := fun f => o f + p f) (fun f hf => by rw [if_pos hf])])
 have e : flo n (fun f => if f < 0 then o f + p f else o f) = flo n o := flo_congr fun f _ => by rw [if_neg (by omega)]
 rw [e] at key
 exact key
theorem vmul_loop {n : Nat} {l : List (List CELL)} {o : Nat → Rat} {k : Nat} (hn : n ≤ 1000) (hl : l.length ≤ 8) (ho : ∀ f, f < n → SzQ (o f) k) (hk : k < 1000000000) :
  lp versus_Values_s16 K0 ((l, flo n o, ((flo n o).length : Int), 0, ()), ()) = some ((flo n (fun f => o f * part1 l), ()), ()) := by
 have pl := flo_len n o
 have key := lp_up (step := versus_Values_s16) (fun i => ((l, flo n (fun f => if f < i then o f * part1 l else o f), ((flo n o).length : Int), (i : Int), ()), ())) n (r := ((flo n (fun f => o f * part1 l), ()), ())) (by omega) (by
  intro g i hi
  have ol := flo_len n (fun f => if f < i then o f * part1 l else o f)
  have d0 : (i : Int) < ((flo n o).length : Int) := by omega
  have d1 : (0 : Int) ≤ (i : Int) := by omega
  have d2 : (i : Int) < ((flo n (fun f => if f < i then o f * part1 l else o f)).length : Int) := by omega
  have hF : ratio_Frac 1 (l.length : Int) = some (canQ (part1 l)) := ratio_Frac_ok (by decide) (by decide) (by omega) (by omega)
  have ha := ratio_Mul_ok ((ho i hi).sm (by omega)) ((part1_sz hl).sm (by decide))
  rw [rv_canQ, rv_canQ] at ha
  rw [versus_Values_s16, cnd d0, cnd2 d1 d2, Int.toNat_natCast, flo_get _ hi, Option.bind_some, if_neg (Nat.lt_irrefl i), hF, Option.bind_some, ha, Option.bind_some, cnd2 d1 d2, Option.bind_some, iadd1 (by omega)]
  rw [flo_set (p := fun f => if f < i + 1 then o f * part1 l else o f) (by rw [if_pos (by omega)]) (fun f hf => by
   by_cases h : f < i
   · rw [if_pos (by omega), if_pos h]
   · rw [if_neg (by omega), if_neg h])]
  rfl) (by
  intro g
  rw [versus_Values_s16, cnd' (by omega)]
  rw [flo_congr (o := fun f => if f < n then o f * part1 l else o f) (p := fun f => o f * part1 l) (fun f hf => by rw [if_pos hf])])
 have e : flo n (fun f => if f < 0 then o f * part1 l else o f) = flo n o := flo_congr fun f _ => by rw [if_neg (by omega)]
 rw [e] at key
 exact key
theorem AskB.why {m : MODEL} {row : List CELL} {l : List (List CELL)} (h : AskB m row l) : valid_Ok m = some true ∧ whyV true m row l = 0 := by
 obtain ⟨b, h1, h2⟩ := Ok_ok (m := m) (by have := h.a.ml; omega) (fun t ht => by have := h.a.mt t ht; omega) h.a.ms (by decide)
 have hb : b = true := h2.2 h.a.good
 subst hb
 refine ⟨h1, ?_⟩
 rw [whyV, whyR, if_pos rfl, if_pos h.a.len, if_pos rfl, if_pos (fun r hr => (h.b r hr).len), if_neg h.ne]
theorem Values17_ok {m : MODEL} {row : List CELL} {l : List (List CELL)} (h : AskB m row l) : versus_Values m row l = some (flo row.length (fun f => backV m row l l.length f * part1 l), 0) := by
 obtain ⟨h1, h2⟩ := h.why
 have hll := h.ll
 have hw := (whyV_ok h1 row (l := l) (by omega)).1
 rw [h2] at hw
 have hlen := h.a.len
 have h64 := h.a.good.1.2.1
 obtain ⟨d, st, sm, f, hn, hT⟩ := New_ok
 obtain ⟨r, hr, e⟩ := lp_inv (step := versus_Values_s7)
  (fun i v => ∃ d st sm f, v = ((row, l, flo row.length (backV m row l i), l, (l.length : Int), (i : Int), ()), ((m.1, m.2, ()), (d, st, sm, f, ()), ())) ∧ Tab d st sm f)
  (fun r => r = ((l, flo row.length (backV m row l l.length), ()), ())) l.length
  (v := ((row, l, flo row.length (fun _ => 0), l, (l.length : Int), 0, ()), ((m.1, m.2, ()), (d, st, sm, f, ()), ())))
  ⟨d, st, sm, f, rfl, hT⟩ (by omega) (by
  rintro i v hi ⟨d, st, sm, f, rfl, hT⟩
  have d0 : (i : Int) < (l.length : Int) := by omega
  have d1 : (0 : Int) ≤ (i : Int) := by omega
  obtain ⟨d', st', sm', f', ho, hT'⟩ := vone_ok h.a (h.at hi) hT
  have hL := vadd_loop (n := row.length) (row := row) (l := l) (l' := l) (c1 := (l.length : Int)) (c2 := (i : Int)) (mf := m.1) (mt := m.2) (d := d') (st := st') (sm := sm') (f := f') (o := backV m row l i) (p := oneV m row l[i]) (by omega) (fun f _ => backV_sz h (by omega) f) (fun f _ => oneV_sz (other := l[i]) h.a (Nat.le_refl _) f) (by decide) (by decide)
  refine ⟨_, ⟨d', st', sm', f', rfl, hT'⟩, fun g => ?_⟩
  rw [versus_Values_s7, cnd d0, cnd d1, Int.toNat_natCast, List.getElem?_eq_getElem hi, Option.bind_some]
  show (versus_one m row l[i] d st sm f).bind _ = _
  rw [ho, Option.bind_some]
  dsimp only
  rw [hL, Option.bind_some]
  dsimp only
  rw [iadd1 (by omega)]
  have : flo row.length (backV m row l (i + 1)) = flo row.length (fun f => backV m row l i f + oneV m row l[i] f) := flo_congr fun f _ => by
   rw [backV, rsum, rowAt_get hi]; rfl
  rw [this]; rfl) (by
  rintro v ⟨d, st, sm, f, rfl, hT⟩
  refine ⟨_, rfl, fun g => ?_⟩
  rw [versus_Values_s7, cnd' (by omega)])
 have hM := vmul_loop (n := row.length) (l := l) (o := backV m row l l.length) (by omega) hll (fun f _ => backV_sz h (Nat.le_refl _) f) (by decide)
 rw [versus_Values, hw, Option.bind_some, show (!decide ((0 : Int) = 0)) = false by decide, cond_false, hn, Option.bind_some, show versus_zeros m.1 = some (flo row.length fun _ => 0) by rw [show m.1 = ((row.length : Nat) : Int) by omega]; exact vzeros_ok (by omega), Option.bind_some]
 dsimp only
 rw [e, hr, Option.bind_some]
 dsimp only
 rw [hM]; rfl
theorem Values17_bad {b : Bool} {m : MODEL} {row : List CELL} {l : List (List CELL)} (h : valid_Ok m = some b) (hl : l.length < 1000000000) (hw : whyV b m row l ≠ 0) : versus_Values m row l = some ([], whyV b m row l) := by
 rw [versus_Values, (whyV_ok h row hl).1, Option.bind_some, decide_eq_false hw]; rfl
theorem askB_of {m : MODEL} {row : List CELL} {l : List (List CELL)} (ms : MSz m 4) (ml : m.2.length ≤ 3) (mt : ∀ t ∈ m.2, t.length ≤ 15) (cs : CSz row 9) (ls : ∀ r ∈ l, CSz r 9) (ll : l.length ≤ 8) :
   ∃ b, valid_Ok m = some b ∧ (whyV b m row l = 0 → AskB m row l) := by
 obtain ⟨b, h1, h2⟩ := Ok_ok (m := m) (by omega) (fun t h => by have := mt t h; omega) ms (by decide)
 refine ⟨b, h1, fun hw => ?_⟩
 rw [whyV] at hw
 split at hw
 · rename_i h0
   have hb : b = true := by cases b with
     | true => rfl
     | false => exact absurd h0 (by rw [whyR, if_neg (by decide)]; decide)
   subst hb
   have hlen : (row.length : Int) = m.1 := by
     apply Classical.byContradiction
     intro hn
     rw [whyR, if_pos rfl, if_neg hn] at h0
     exact absurd h0 (by decide)
   split at hw
   · rename_i ha
     split at hw
     · exact absurd hw (by decide)
     · rename_i hz
       exact ⟨⟨h2.1 rfl, hlen, ms, by omega, mt, cs⟩, fun r hr => ⟨h2.1 rfl, ha r hr, ms, by omega, mt, ls r hr⟩, ll, hz⟩
   · exact absurd hw (by decide)
 · rename_i h0; exact absurd hw h0
def fly (n : Nat) (g : Nat → CELL) : List CELL := (List.range n).map g
theorem fly_len (n : Nat) (g : Nat → CELL) : (fly n g).length = n := by simp [fly]
theorem fly_get {n f : Nat} (g : Nat → CELL) (h : f < n) : (fly n g)[f]? = some (g f) := by simp [fly, h]
def mixC (row other : List CELL) (set : Nat) (i : Nat) : CELL := if set.testBit i then cellAt row i else cellAt other i
def mixR (row other : List CELL) (set : Nat) : List CELL := fly row.length (mixC row other set)
theorem mixR_len (row other : List CELL) (set : Nat) : (mixR row other set).length = row.length := fly_len _ _
theorem mixR_sz {row other : List CELL} {set k : Nat} (h1 : CSz row k) (h2 : CSz other k) (hl : other.length = row.length) : CSz (mixR row other set) k := by
 intro c hc
 obtain ⟨i, hi, rfl⟩ := List.mem_map.1 hc
 have hi := List.mem_range.1 hi
 unfold mixC
 split
 · rw [cellAt_get hi]; exact h1 _ (List.getElem_mem hi)
 · rw [cellAt_get (by omega)]; exact h2 _ (List.getElem_mem _)
theorem AskB.mix {m : MODEL} {row : List CELL} {l : List (List CELL)} (h : AskB m row l) (set : Nat) {i : Nat} (hi : i < l.length) : Askd m (mixR row l[i] set) := by
 have a := h.a
 have b := h.at hi
 refine ⟨a.good, by rw [mixR_len]; exact a.len, a.ms, a.ml, a.mt, mixR_sz a.cs b.cs ?_⟩
 have := a.len; have := b.len; omega
def saysV (m : MODEL) (row : List CELL) (l : List (List CELL)) (set : Nat) (i : Nat) : Rat := predM m (mixR row (rowAt l i) set)
def worthV (m : MODEL) (row : List CELL) (l : List (List CELL)) (set : Nat) : Rat := rsum (saysV m row l set) l.length * part1 l
theorem saysV_sz {m : MODEL} {row : List CELL} {l : List (List CELL)} (h : AskB m row l) (set i : Nat) : SzQ (saysV m row l set i) 31 :=
 (predM_sz (row := mixR row (rowAt l i) set) h.a.good h.a.ms (n := m.2.length) (Nat.le_refl _)).mono (by have := h.a.ml; omega)
theorem sumV_sz {m : MODEL} {row : List CELL} {l : List (List CELL)} (h : AskB m row l) (set : Nat) {k : Nat} (hk : k ≤ l.length) : SzQ (rsum (saysV m row l set) k) 300 :=
 (rsum_sz (f := saysV m row l set) (k := 31) (n := k) (fun j _ => saysV_sz h set j)).mono (by have := h.ll; omega)
theorem worthV_sz {m : MODEL} {row : List CELL} {l : List (List CELL)} (h : AskB m row l) (set : Nat) : SzQ (worthV m row l set) 302 := (sumV_sz h set (Nat.le_refl _)).mul (part1_sz h.ll)
theorem worth17_ok {m : MODEL} {row : List CELL} {l : List (List CELL)} (h : AskB m row l) {set : Nat} (hs : set < 18446744073709551616) : dendronlaw17_worth m row l (set : Int) = some (canQ (worthV m row l set)) := by
 have hll := h.ll
 have hne := h.ne
 have hlen := h.a.len
 have h64 := h.a.good.1.2.1
 obtain ⟨s, es⟩ : ∃ s : Nat → Rat, s = rsum (saysV m row l set) := ⟨_, rfl⟩
 have key := lp_up (step := dendronlaw17_worth_s3) (fun i => ((row, l, (set : Int), (i : Int), ()), ((m.1, m.2, ()), (false, [], [], ()), ((canQ (s i)).1.1, (canQ (s i)).1.2, (canQ (s i)).2, ()), ()))) l.length (r := ((l, ()), ((false, [], [], ()), ((canQ (s l.length)).1.1, (canQ (s l.length)).1.2, (canQ (s l.length)).2, ()), ()))) (by omega) (by
  intro g i hi
  have d0 : (i : Int) < (l.length : Int) := by omega
  have d1 : (0 : Int) ≤ (i : Int) := by omega
  have ll := (h.at hi).len
  have key := lp_up (step := dendronlaw17_worth_s8) (fun k => ((row, l, (set : Int), (i : Int), fly k (mixC row l[i] set), ((set / 2 ^ k : Nat) : Int), (k : Int), ()), ((m.1, m.2, ()), (false, [], [], ()), ((canQ (s i)).1.1, (canQ (s i)).1.2, (canQ (s i)).2, ()), ()))) row.length (r := ((row, l, (set : Int), (i : Int), mixR row l[i] set, ()), ((m.1, m.2, ()), (false, [], [], ()), ((canQ (s i)).1.1, (canQ (s i)).1.2, (canQ (s i)).2, ()), ()))) (by omega) (by
   intro g k hk
   have e0 : (k : Int) < (row.length : Int) := by omega
   have e1 : (0 : Int) ≤ (k : Int) := by omega
   have hd : (set / 2 ^ k : Nat) < 18446744073709551616 := Nat.lt_of_le_of_lt (Nat.div_le_self _ _) hs
   have hq : iquo .u64 ((set / 2 ^ k : Nat) : Int) 2 = ((set / 2 ^ (k + 1) : Nat) : Int) := by
    obtain ⟨x, hx⟩ : ∃ x, x = set / 2 ^ k := ⟨_, rfl⟩
    rw [Nat.pow_succ, ← Nat.div_div_eq_div_mul, ← hx]
    rw [← hx] at hd
    rw [iquo_u (by omega) (by omega) (by omega)]; omega
   have hr : decide (irem ((set / 2 ^ k : Nat) : Int) 2 = 1) = set.testBit k := by
    have := testBit_div set k
    obtain ⟨x, hx⟩ : ∃ x, x = set / 2 ^ k := ⟨_, rfl⟩
    rw [← hx] at this ⊢
    rw [irem_n (by omega)]
    cases hb : set.testBit k with
    | true => rw [hb] at this; have := this.2 rfl; exact decide_eq_true (by omega)
    | false => rw [hb] at this; exact decide_eq_false (fun e => by have := this.1 (by omega); exact absurd this (by decide))
   have st : ∀ x, mixC row l[i] set k = x → fly k (mixC row l[i] set) ++ [x] = fly (k + 1) (mixC row l[i] set) := fun x hx => by rw [← hx]; simp [fly, List.range_succ]
   have b1 : (Nat.ble (((fly k (mixC row l[i] set)).length + 1) * 64) 140737488355328 && !false) = true := blt (by rw [fly_len]; omega)
   rw [dendronlaw17_worth_s8, cnd e0, hr, hq, iadd1 (by omega), b1]
   cases hb : set.testBit k with
   | true =>
    have hm : mixC row l[i] set k = row[k] := by rw [mixC, if_pos hb, cellAt_get hk]
    rw [cond_true, cnd e1, Int.toNat_natCast, List.getElem?_eq_getElem hk, Option.bind_some, cond_true, st _ hm]
    rfl
   | false =>
    have hm : mixC row l[i] set k = l[i][k]'(by omega) := by rw [mixC, hb, if_neg (by decide), cellAt_get (by omega)]
    rw [cond_false, cnd d1, Int.toNat_natCast, List.getElem?_eq_getElem hi, Option.bind_some, cnd e1, Int.toNat_natCast, List.getElem?_eq_getElem (by omega), Option.bind_some, cond_true, st _ hm]
    rfl) (by
   intro g
   rw [dendronlaw17_worth_s8, cnd' (by omega)]; rfl)
  have e0 : ((set / 2 ^ 0 : Nat) : Int) = (set : Int) := by simp
  rw [e0] at key
  have key : lp dendronlaw17_worth_s8 K0 ((row, l, (set : Int), (i : Int), [], (set : Int), 0, ()), ((m.1, m.2, ()), (false, [], [], ()), ((canQ (s i)).1.1, (canQ (s i)).1.2, (canQ (s i)).2, ()), ())) = _ := key
  have hP := Predict10_ok (h.mix set hi)
  have ha := ratio_Add_ok ((sumV_sz h set (k := i) (by omega)).sm (by decide)) ((saysV_sz h set i).sm (by decide))
  rw [rv_canQ, rv_canQ, ← es] at ha
  have en : s (i + 1) = s i + saysV m row l set i := by rw [es]; rfl
  rw [dendronlaw17_worth_s3, cnd d0, key, Option.bind_some]
  dsimp only
  show (dendronlaw10_Predict m _).bind _ = _
  rw [hP, Option.bind_some, show predM m (mixR row l[i] set) = saysV m row l set i by rw [saysV, rowAt_get hi]]
  show (ratio_Add (canQ (s i)) _).bind _ = _
  rw [ha, Option.bind_some, ← en, iadd1 (by omega)]
  rfl) (by
  intro g
  rw [dendronlaw17_worth_s3, cnd' (by omega)])
 have e0 : s 0 = 0 := by rw [es]; rfl
 rw [e0] at key
 have key : lp dendronlaw17_worth_s3 K0 ((row, l, (set : Int), 0, ()), ((m.1, m.2, ()), (false, [], [], ()), ((canQ 0).1.1, (canQ 0).1.2, (canQ 0).2, ()), ())) = _ := key
 have hF : ratio_Frac 1 (l.length : Int) = some (canQ (part1 l)) := ratio_Frac_ok (by decide) (by decide) (by omega) (by omega)
 have hm := ratio_Mul_ok ((sumV_sz h set (Nat.le_refl _)).sm (by decide)) ((part1_sz h.ll).sm (by decide))
 rw [rv_canQ, rv_canQ] at hm
 rw [dendronlaw17_worth, ratio_Zero_ok, Option.bind_some, key, Option.bind_some]
 dsimp only
 rw [hF, Option.bind_some, es]
 show (ratio_Mul (canQ _) _).bind _ = _
 rw [hm]; rfl
def tabV (m : MODEL) (row : List CELL) (l : List (List CELL)) (n : Nat) : List RAT := (List.range n).map fun s => canQ (worthV m row l s)
theorem tabV_len (m : MODEL) (row : List CELL) (l : List (List CELL)) (n : Nat) : (tabV m row l n).length = n := by simp [tabV]
theorem tabV_get (m : MODEL) (row : List CELL) (l : List (List CELL)) {n i : Nat} (h : i < n) : (tabV m row l n)[i]? = some (canQ (worthV m row l i)) := by simp [tabV, h]
theorem tabV_next (m : MODEL) (row : List CELL) (l : List (List CELL)) (i : Nat) : tabV m row l (i + 1) = tabV m row l i ++ [canQ (worthV m row l i)] := by simp [tabV, List.range_succ]
theorem table17_ok {m : MODEL} {row : List CELL} {l : List (List CELL)} (h : AskB m row l) (h12 : row.length ≤ 12) : dendronlaw17_table m row l = some (tabV m row l (2 ^ row.length)) := by
 have hlen := h.a.len
 obtain ⟨k, hk⟩ : ∃ k : Nat, k = row.length := ⟨_, rfl⟩
 have hp : 2 ^ k ≤ 2 ^ 12 := Nat.pow_le_pow_right (by decide) (by omega)
 have key := lp_up (step := dendronlaw17_table_s3) (fun i => ((row, l, ((2 ^ i : Nat) : Int), (i : Int), ()), ((m.1, m.2, ()), ()))) k (r := ((row, l, ((2 ^ k : Nat) : Int), ()), ((m.1, m.2, ()), ()))) (by omega) (by
  intro g i hi
  have d0 : (i : Int) < m.1 := by omega
  have hpi : 2 ^ i ≤ 2 ^ 12 := Nat.pow_le_pow_right (by decide) (by omega)
  have em : imul .i64 2 ((2 ^ i : Nat) : Int) = ((2 ^ (i + 1) : Nat) : Int) := by
   obtain ⟨x, hx⟩ : ∃ x, x = 2 ^ i := ⟨_, rfl⟩
   have : 2 ^ (i + 1) = 2 * x := by rw [hx, Nat.pow_succ]; omega
   rw [← hx] at hpi
   rw [this, ← hx, imul_i] <;> omega
  rw [dendronlaw17_table_s3, cnd d0, em, iadd1 (by omega)]
  rfl) (by
  intro g
  rw [dendronlaw17_table_s3, cnd' (by omega)])
 have key : lp dendronlaw17_table_s3 K0 ((row, l, 1, 0, ()), ((m.1, m.2, ()), ())) = _ := key
 obtain ⟨n, hn⟩ : ∃ n, n = 2 ^ k := ⟨_, rfl⟩
 rw [← hn] at key hp
 have hp : n ≤ 4096 := hp
 have key2 := lp_up (step := dendronlaw17_table_s8) (fun i => ((row, l, (n : Int), tabV m row l i, (i : Int), ()), ((m.1, m.2, ()), ()))) n (r := ((tabV m row l n, ()), ())) (by omega) (by
  intro g i hi
  have d0 : (i : Int) < (n : Int) := by omega
  have hv := worth17_ok h (set := i) (by omega)
  have hv : dendronlaw17_worth (m.1, m.2) row l (i : Int) = _ := hv
  rw [dendronlaw17_table_s8, cnd d0, wrap_u (by omega) (by omega), hv, Option.bind_some, blt (by rw [tabV_len]; omega), cond_true, tabV_next, iadd1 (by omega)]
  rfl) (by
  intro g
  rw [dendronlaw17_table_s8, cnd' (by omega)])
 have key2 : lp dendronlaw17_table_s8 K0 ((row, l, (n : Int), [], 0, ()), ((m.1, m.2, ()), ())) = _ := key2
 rw [dendronlaw17_table, key, Option.bind_some]
 dsimp only
 rw [key2, Option.bind_some, ← hk, ← hn]
theorem iadd_nat {a b : Nat} (h : a + b < 4611686018427387904) : iadd .i64 (a : Int) (b : Int) = ((a + b : Nat) : Int) := by rw [iadd_i (by omega) (by omega)]; omega
theorem two_ok {n : Nat} (h : n ≤ 30) : dendronlaw15_two (n : Int) = some ((2 ^ n : Nat) : Int) := by
 have key := lp_up (step := dendronlaw15_two_s3) (fun i => (((n : Int), ((2 ^ i : Nat) : Int), (i : Int), ()), ())) n (r := ((((2 ^ n : Nat) : Int), ()), ())) (by omega) (by
  intro g i hi
  have d0 : (i : Int) < (n : Int) := by omega
  have hpi : 2 ^ i ≤ 2 ^ 30 := Nat.pow_le_pow_right (by decide) (by omega)
  have em : imul .i64 2 ((2 ^ i : Nat) : Int) = ((2 ^ (i + 1) : Nat) : Int) := by
   obtain ⟨x, hx⟩ : ∃ x, x = 2 ^ i := ⟨_, rfl⟩
   have : 2 ^ (i + 1) = 2 * x := by rw [hx, Nat.pow_succ]; omega
   rw [← hx] at hpi
   rw [this, ← hx, imul_i] <;> omega
  rw [dendronlaw15_two_s3, cnd d0, em, iadd1 (by omega)]
  rfl) (by
  intro g
  rw [dendronlaw15_two_s3, cnd' (by omega)])
 have key : lp dendronlaw15_two_s3 K0 (((n : Int), 1, 0, ()), ()) = _ := key
 rw [dendronlaw15_two, key]; rfl
theorem in15_ok {S f : Nat} (hS : S < 9223372036854775808) (hf : f ≤ 1000000) : dendronlaw15_in (S : Int) (f : Int) = some (S.testBit f) := by
 have key := lp_up (step := dendronlaw15_in_s2) (fun i => ((((S / 2 ^ i : Nat) : Int), (f : Int), (i : Int), ()), ())) f (r := ((((S / 2 ^ f : Nat) : Int), ()), ())) (by omega) (by
  intro g i hi
  have d0 : (i : Int) < (f : Int) := by omega
  have hd : (S / 2 ^ i : Nat) < 9223372036854775808 := Nat.lt_of_le_of_lt (Nat.div_le_self _ _) hS
  have hq : iquo .i64 ((S / 2 ^ i : Nat) : Int) 2 = ((S / 2 ^ (i + 1) : Nat) : Int) := by
   obtain ⟨x, hx⟩ : ∃ x, x = S / 2 ^ i := ⟨_, rfl⟩
   rw [Nat.pow_succ, ← Nat.div_div_eq_div_mul, ← hx]
   rw [← hx] at hd
   rw [iquo_i (by omega) (by omega) (by omega)]; omega
  rw [dendronlaw15_in_s2, cnd d0, hq, iadd1 (by omega)]
  rfl) (by
  intro g
  rw [dendronlaw15_in_s2, cnd' (by omega)])
 have e0 : ((S / 2 ^ 0 : Nat) : Int) = (S : Int) := by simp
 rw [e0] at key
 have key : lp dendronlaw15_in_s2 K0 (((S : Int), (f : Int), 0, ()), ()) = _ := key
 rw [dendronlaw15_in, key, Option.bind_some]
 dsimp only
 congr 1
 have := testBit_div S f
 obtain ⟨x, hx⟩ : ∃ x, x = S / 2 ^ f := ⟨_, rfl⟩
 rw [← hx] at this ⊢
 rw [irem_n (by omega)]
 cases hb : S.testBit f with
 | true => rw [hb] at this; have := this.2 rfl; exact decide_eq_true (by omega)
 | false => rw [hb] at this; exact decide_eq_false (fun e => by have := this.1 (by omega); exact absurd this (by decide))
theorem size15_ok {S n : Nat} (hS : S < 9223372036854775808) (hn : n ≤ 1000000) : dendronlaw15_size (S : Int) (n : Int) = some ((popc n S : Nat) : Int) := by
 have key := lp_up (step := dendronlaw15_size_s3) (fun i => (((S : Int), (n : Int), ((popc i S : Nat) : Int), (i : Int), ()), ())) n (r := ((((popc n S : Nat) : Int), ()), ())) (by omega) (by
  intro g i hi
  have d0 : (i : Int) < (n : Int) := by omega
  have hp := popc_le i S
  have i1 : iadd .i64 (i : Int) 1 = (i : Int) + 1 := iadd1 (by omega)
  have i2 : iadd .i64 ((popc i S : Nat) : Int) 1 = ((popc i S : Nat) : Int) + 1 := iadd1 (by omega)
  rw [dendronlaw15_size_s3, cnd d0, in15_ok hS (by omega), Option.bind_some, i1, i2, popc]
  cases hb : S.testBit i with
  | true => rw [cond_true, if_pos rfl]; rfl
  | false => rw [cond_false, if_neg (by decide)]; rfl) (by
  intro g
  rw [dendronlaw15_size_s3, cnd' (by omega)])
 have key : lp dendronlaw15_size_s3 K0 (((S : Int), (n : Int), 0, 0, ()), ()) = _ := key
 rw [dendronlaw15_size, key]; rfl
theorem shapT_sz {v : Nat → Rat} {n f k S : Nat} (hn : n ≤ 12) (hf : f < n) (hv : ∀ S, S < 2 ^ n → SzQ (v S) k) (hS : S < 2 ^ n) : SzQ (shapT v n f S) (2 * k + 40) := by
 unfold shapT
 cases hb : S.testBit f with
 | true => rw [if_pos rfl]; exact SzQ.zero.mono (by omega)
 | false =>
  rw [if_neg (by decide)]
  have hp : popc n S < n := by
   have hle : ∀ m, m ≤ f → popc m S ≤ m := fun m _ => popc_le m S
   have key : ∀ m, f < m → popc m S + 1 ≤ m := by
    intro m
    induction m with
    | zero => intro h; omega
    | succ m ih =>
     intro h
     rw [popc]
     by_cases e : m = f
     · subst e
       rw [hb, if_neg (by decide)]
       have := popc_le m S; omega
     · have := ih (by omega)
       split <;> omega
   have := key n hf; omega
  have h1 := wq_sz hp (by omega)
  have h2 := (hv _ (bit_add_lt hb hS hf)).sub (hv S hS)
  exact (h1.mul h2).mono (by omega)
theorem Shapley_ok {v : Nat → Rat} {L : List RAT} {n k : Nat} (hn : n ≤ 12) (hL : ∀ S, S < 2 ^ n → L[S]? = some (canQ (v S))) (hv : ∀ S, S < 2 ^ n → SzQ (v S) k) (hk : k < 10000000) :
  dendronlaw15_Shapley L (n : Int) (-1) false = some (flo n (shapQ v n)) := by
 obtain ⟨d, st, sm, f, hN, hT⟩ := New_ok
 have hp12 : 2 ^ n ≤ 2 ^ 12 := Nat.pow_le_pow_right (by decide) hn
 have hp12 : 2 ^ n ≤ 4096 := hp12
 obtain ⟨r, ⟨d', st', sm', f', hr⟩, e⟩ := lp_inv (step := dendronlaw15_Shapley_s7)
  (fun i w => ∃ d st sm f, w = ((L, (n : Int), -1, false, (n : Int), flo i (shapQ v n), (i : Int), ()), ((d, st, sm, f, ()), ())) ∧ Tab d st sm f)
  (fun r => ∃ d' st' sm' f', r = ((flo n (shapQ v n), ()), ())) n
  (v := ((L, (n : Int), -1, false, (n : Int), [], 0, ()), ((d, st, sm, f, ()), ())))
  ⟨d, st, sm, f, rfl, hT⟩ (by omega) (by
  rintro i w hi ⟨d, st, sm, f, rfl, hT⟩
  have d0 : (i : Int) < (n : Int) := by omega
  have d1 : (0 : Int) ≤ (i : Int) := by omega
  obtain ⟨s, hs⟩ : ∃ s : Nat → Rat, s = rsum (shapT v n i) := ⟨_, rfl⟩
  have ssz : ∀ S, S ≤ 2 ^ n → SzQ (s S) 100000000000 := fun S hS => by
   have := rsum_sz (f := shapT v n i) (k := 2 * k + 40) (n := S) (fun j hj => shapT_sz hn hi hv (by omega))
   rw [hs]
   exact this.mono (by have := Nat.mul_le_mul (show S ≤ 4096 by omega) (show 2 * k + 40 + 1 ≤ 20000041 by omega); omega)
  obtain ⟨r, ⟨d', st', sm', f', hr, hT'⟩, e⟩ := lp_inv (step := dendronlaw15_Shapley_s11)
   (fun S w => ∃ d st sm f, w = ((L, (n : Int), -1, false, (n : Int), flo i (shapQ v n), (i : Int), (S : Int), ()), (((canQ (s S)).1.1, (canQ (s S)).1.2, (canQ (s S)).2, ()), (d, st, sm, f, ()), ())) ∧ Tab d st sm f)
   (fun r => ∃ d st sm f, r = ((L, (n : Int), -1, false, (n : Int), flo i (shapQ v n), (i : Int), ()), (((canQ (s (2 ^ n))).1.1, (canQ (s (2 ^ n))).1.2, (canQ (s (2 ^ n))).2, ()), (d, st, sm, f, ()), ())) ∧ Tab d st sm f) (2 ^ n)
   (v := ((L, (n : Int), -1, false, (n : Int), flo i (shapQ v n), (i : Int), 0, ()), (((canQ 0).1.1, (canQ 0).1.2, (canQ 0).2, ()), (d, st, sm, f, ()), ())))
   ⟨d, st, sm, f, by rw [hs]; rfl, hT⟩ (by omega) (by
   rintro S w hS ⟨d, st, sm, f, rfl, hT⟩
   have c0 : (S : Int) < ((2 ^ n : Nat) : Int) := by omega
   have c1 : ¬ (i : Int) = -1 := by omega
   have c2 : ¬ (-1 : Int) ≥ 0 := by omega
   have c3 : (0 : Int) ≤ (S : Int) := by omega
   have hin := in15_ok (S := S) (f := i) (by omega) (by omega)
   have en : s (S + 1) = s S + shapT v n i S := by rw [hs]; rfl
   cases hb : S.testBit i with
   | true =>
    refine ⟨_, ⟨d, st, sm, f, rfl, hT⟩, fun g => ?_⟩
    have : s (S + 1) = s S := by rw [en, shapT, hb, if_pos rfl, Rat.add_zero]
    rw [dendronlaw15_Shapley_s11, two_ok (by omega), Option.bind_some, cnd c0, decide_eq_false c1, Bool.not_false, cond_true, hin, Option.bind_some, hb, cond_true, iadd1 (by omega), this]
    rfl
   | false =>
    have hp : popc n S < n := by
     have key : ∀ m, i < m → popc m S + 1 ≤ m := by
      intro m
      induction m with
      | zero => intro h; omega
      | succ m ih =>
       intro h
       rw [popc]
       by_cases e : m = i
       · subst e
         rw [hb, if_neg (by decide)]
         have := popc_le m S; omega
       · have := ih (by omega)
         split <;> omega
     have := key n hi; omega
    have hlt := bit_add_lt hb hS hi
    have hi2 : 2 ^ i ≤ 2 ^ 12 := Nat.pow_le_pow_right (by decide) (by omega)
    have hi2 : 2 ^ i ≤ 4096 := hi2
    have hW := Weight_ok hT hp (by omega)
    have hT' := tab1 sm
    have hix : iadd .i64 (S : Int) ((2 ^ i : Nat) : Int) = ((S + 2 ^ i : Nat) : Int) := iadd_nat (by omega)
    have m1 := ratio_Sub_ok ((hv _ hlt).sm (by omega)) ((hv S hS).sm (by omega))
    rw [rv_canQ, rv_canQ] at m1
    have m2 := ratio_Mul_ok ((wq_sz hp (by omega)).sm (by decide)) (((hv _ hlt).sub (hv S hS)).sm (by omega))
    rw [rv_canQ, rv_canQ] at m2
    have hz : SzQ (wq (popc n S) n * (v (S + 2 ^ i) - v S)) 100000000 := ((wq_sz hp (by omega)).mul ((hv _ hlt).sub (hv S hS))).mono (by omega)
    have m3 := ratio_Add_ok ((ssz S (by omega)).sm (by decide)) (hz.sm (by decide))
    rw [rv_canQ, rv_canQ] at m3
    refine ⟨_, ⟨1, 0, sm, facts, rfl, hT'⟩, fun g => ?_⟩
    rw [dendronlaw15_Shapley_s11, two_ok (by omega), Option.bind_some, cnd c0, decide_eq_false c1, Bool.not_false, cond_true, hin, Option.bind_some, hb, cond_false, cnd' c2, size15_ok (by omega) (by omega), Option.bind_some, cnd' c2, hW, Option.bind_some, two_ok (by omega), Option.bind_some, hix, cnd (Int.natCast_nonneg _), Int.toNat_natCast, hL _ hlt, Option.bind_some, cnd c3, Int.toNat_natCast, hL S hS, Option.bind_some, m1, Option.bind_some, m2, Option.bind_some]
    show (ratio_Add (canQ (s S)) _).bind _ = _
    rw [m3, Option.bind_some, iadd1 (by omega), en, shapT, hb, if_neg (by decide)]
    rfl) (by
   rintro w ⟨d, st, sm, f, rfl, hT⟩
   refine ⟨_, ⟨d, st, sm, f, rfl, hT⟩, fun g => ?_⟩
   rw [dendronlaw15_Shapley_s11, two_ok (by omega), Option.bind_some, cnd' (by omega)])
  refine ⟨_, ⟨d', st', sm', f', rfl, hT'⟩, fun g => ?_⟩
  rw [dendronlaw15_Shapley_s7, cnd d0, ratio_Zero_ok, Option.bind_some, e, hr, Option.bind_some]
  dsimp only
  rw [blt (by rw [flo_len]; omega), cond_true, iadd1 (by omega)]
  have : flo (i + 1) (shapQ v n) = flo i (shapQ v n) ++ [canQ (s (2 ^ n))] := by rw [hs]; simp [flo, List.range_succ, shapQ]
  rw [this]; rfl) (by
  rintro w ⟨d, st, sm, f, rfl, hT⟩
  refine ⟨_, ⟨d, st, sm, f, rfl⟩, fun g => ?_⟩
  rw [dendronlaw15_Shapley_s7, cnd' (by omega)])
 rw [dendronlaw15_Shapley, hN, Option.bind_some, cnd' (by omega)]
 dsimp only
 rw [e, hr]; rfl
def one0 (b : Bool) : Rat := if b then 1 else 0
def zF (x : PP) : FP := (x.1.1, (one0 x.2.2.2, one0 x.1.2.2))
def reachZ (z : List PP) (S : Nat) : Rat := prodP (z.map zF) S
theorem reachZ_nil (S : Nat) : reachZ [] S = 1 := rfl
theorem reachZ_cons (x : PP) (z : List PP) (S : Nat) : reachZ (x :: z) S = pick (one0 x.2.2.2, one0 x.1.2.2) (S.testBit x.1.1) * reachZ z S := rfl
theorem pick_and (a b c d : Bool) (t : Bool) : pick (one0 (b && d), one0 (a && c)) t = pick (one0 b, one0 a) t * pick (one0 d, one0 c) t := by
 cases a <;> cases b <;> cases c <;> cases d <;> cases t <;> simp [pick, one0]
theorem along_zip {f : Nat} {q : Rat} {ok ok' : Bool} {S : Nat} : ∀ {w w' : List AP}, shp w = shp w' → reachZ ((along f q ok w).zip (along f q ok' w')) S = reachZ (w.zip w') S * pick (one0 ok', one0 ok) (S.testBit f) := by
 intro w
 induction w with
 | nil => intro w' h; cases w' with
  | nil => simp [along, reachZ_cons, reachZ_nil, Rat.mul_one, Rat.one_mul]
  | cons p w' => simp [shp] at h
 | cons p w ih =>
  intro w' h
  cases w' with
  | nil => simp [shp] at h
  | cons p' w' =>
   obtain ⟨a, b, c⟩ := p
   obtain ⟨a', b', c'⟩ := p'
   simp only [shp, List.map_cons, List.cons.injEq, Prod.mk.injEq] at h
   obtain ⟨⟨rfl, rfl⟩, h⟩ := h
   simp only [along]
   split
   · simp only [List.zip_cons_cons, reachZ_cons]; rw [ih h]; grind
   · split
     · rename_i e
       subst e
       simp only [List.zip_cons_cons, reachZ_cons]
       rw [pick_and]; grind
     · simp only [List.zip_cons_cons, reachZ_cons]; grind
theorem goL_mix {t : List NODE} {row other : List CELL} {S i : Nat} (h : featT t i < row.length) : goL t (mixR row other S) i = if S.testBit (featT t i) then goL t row i else goL t other i := by
 have e : cellAt (mixR row other S) (featT t i) = mixC row other S (featT t i) := by
  rw [cellAt_get (by rw [mixR_len]; exact h)]
  have := fly_get (mixC row other S) h
  rw [List.getElem?_eq_getElem (by rw [fly_len]; exact h)] at this
  exact Option.some.inj this
 unfold goL
 have e2 : (nFeat (nodeAt t i)).toNat = featT t i := rfl
 rw [e2, e, mixC]
 split <;> rfl
theorem predT_split (t : List NODE) (row : List CELL) (i : Nat) (l r : TR) : predT t row (.split i l r) = if goL t row i then predT t row l else predT t row r := by
 unfold predT
 rw [endT]
 split <;> rfl
def legZ (S : Nat) (x : LP) : Rat := x.1.2.1 * reachZ (x.1.2.2.zip x.2.2.2) S
theorem legs_mix {t : List NODE} {row other : List CELL} {S : Nat} {T : TR} (h : Is t (row.length : Int) T) : ∀ {w w' : List AP}, shp w = shp w' →
  lsum (((legsT t row T w).zip (legsT t other T w')).map (legZ S)) = reachZ (w.zip w') S * predT t (mixR row other S) T := by
 induction T with
 | leaf i =>
  intro w w' hw
  simp only [legsT, List.zip_cons_cons, List.zip_nil_right, List.map_cons, List.map_nil, lsum, legZ]
  show rv (nVal (nodeAt t i)) * _ + 0 = _ * rv (nVal (nodeAt t i))
  rw [Rat.add_zero, Rat.mul_comm]
 | split i l r ihl ihr =>
  intro w w' hw
  obtain ⟨h1, h2, f0, f1, h3, h4, h5, h6⟩ := h
  have hf : featT t i < row.length := by rw [featT, nodeAt_get h1]; omega
  simp only [legsT]
  rw [List.zip_append (by rw [legsT_len, legsT_len]), List.map_append, lsum_append, ihl h5 (along_shp hw), ihr h6 (along_shp hw), along_zip hw, along_zip hw, predT_split, goL_mix hf]
  cases S.testBit (featT t i) <;> cases goL t row i <;> cases goL t other i <;> simp [pick, one0, Rat.mul_one, Rat.mul_zero, Rat.zero_mul, Rat.add_zero, Rat.zero_add]
theorem EE_sides (z : List PP) : ∀ s t, EE ((z.map zF).map (·.2)) (fun k => wq (k + s) (z.length + s + t + 1)) = if nN z then 0 else wq ((mN z).length + s) ((mN z).length + (iN z).length + s + t + 1) := by
 induction z with
 | nil => intro s t; simp [EE, nN, mN, iN]
 | cons x z ih =>
  intro s t
  obtain ⟨p, p'⟩ := x
  simp only [List.map_cons, mN_cons, iN_cons, nN_cons, zF, EE, List.length_cons]
  cases h1 : p.2.2 <;> cases h2 : p'.2.2 <;> simp only [one0, Bool.not_true, Bool.not_false, Bool.and_true, Bool.and_false, Bool.true_and, Bool.false_and, Bool.false_or, Bool.true_or, if_true, Bool.false_eq_true, if_false, List.length_cons]
  · simp [Rat.zero_mul, Rat.add_zero]
  · have := ih s (t + 1)
    simp only [Nat.add_assoc] at this ⊢
    simp only [Rat.one_mul, Rat.zero_mul, Rat.add_zero]
    have e1 : z.length + (1 + (s + (t + 1))) = z.length + (s + (t + (1 + 1))) := by omega
    have e2 : (mN z).length + ((iN z).length + (1 + (s + (t + 1)))) = (mN z).length + ((iN z).length + (s + (t + (1 + 1)))) := by omega
    rw [e1, e2]; exact this
  · have := ih (s + 1) t
    simp only [Nat.add_assoc] at this ⊢
    simp only [Rat.one_mul, Rat.zero_mul, Rat.zero_add]
    have e1 : z.length + (s + (1 + (t + 1))) = z.length + (1 + (s + (t + 1))) := by omega
    have e2 : (mN z).length + ((iN z).length + (s + (1 + (t + 1)))) = (mN z).length + (1 + ((iN z).length + (s + (t + 1)))) := by omega
    have e3 : ∀ k, k + (s + 1) = k + (1 + s) := fun k => by omega
    rw [e1, e2] at this
    simp only [e3] at this
    exact this
  · have := ih s t
    rw [← this]
    simp only [Rat.one_mul]
    rw [← EE_add]
    refine EE_congr fun k hk => ?_
    simp only [List.length_map] at hk
    have := wq_add (k := k + s) (n := z.length + s + t + 1) (by omega)
    rw [show z.length + 1 + s + t + 1 = z.length + s + t + 1 + 1 by omega, show k + 1 + s = k + s + 1 by omega]
    exact this
theorem nN_append (a b : List PP) : nN (a ++ b) = (nN a || nN b) := by simp [nN]
theorem leg_shap {x y : AL} {n f : Nat} (hs : SortA x.2.2) (hlt : ∀ p ∈ x.2.2, p.1 < n) (hf : f < n) : shapQ (fun S => legZ S (x, y)) n f = legAdd x y f := by
 obtain ⟨z, ez⟩ : ∃ z, z = x.2.2.zip y.2.2 := ⟨_, rfl⟩
 have hz : ∀ p ∈ z, p.1.1 < n := fun p hp => hlt _ (zip_fst (ez ▸ hp))
 have hnd : (z.map (·.1.1)).Nodup := by
   have h1 : z.Pairwise fun a b => a.1.1 < b.1.1 := by
     have key : ∀ {w w' : List AP}, SortA w → (w.zip w').Pairwise fun a b => a.1.1 < b.1.1 := by
      intro w
      induction w with
      | nil => intro w' _; simp
      | cons p w ih =>
       intro w' h
       cases w' with
       | nil => simp
       | cons p' w' =>
        have h1 := List.pairwise_cons.1 h
        rw [List.zip_cons_cons]
        exact List.pairwise_cons.2 ⟨fun a ha => h1.1 _ (zip_fst ha), ih h1.2⟩
     exact ez ▸ key hs
   rw [List.Nodup, List.pairwise_map]
   exact h1.imp fun h => Nat.ne_of_lt h
 have e0 : shapQ (fun S => legZ S (x, y)) n f = shapQ (reachZ z) n f * x.2.1 := by
   rw [← shapQ_mul]
   refine shapQ_congr hf fun S _ => ?_
   show x.2.1 * _ = _
   rw [← ez, Rat.mul_comm]
 rw [e0, legAdd, ← ez]
 have hfst : (z.map zF).map (·.1) = z.map (·.1.1) := by rw [List.map_map]; rfl
 by_cases hm : f ∈ z.map (·.1.1)
 · obtain ⟨p, hp, e⟩ := List.mem_map.1 hm
   obtain ⟨z1, z2, e2⟩ := List.append_of_mem hp
   have hperm : z.Perm (p :: (z1 ++ z2)) := by rw [e2]; exact List.perm_middle
   have hnd2 : (p.1.1 :: (z1 ++ z2).map (·.1.1)).Nodup := ((hperm.map (fun q : PP => q.1.1)).nodup_iff).1 hnd
   have hnd3 := List.nodup_cons.1 hnd2
   have hnm : f ∉ mN (z1 ++ z2) := fun h => by
     obtain ⟨q, hq, e3, _⟩ := mN_mem h
     exact hnd3.1 (List.mem_map.2 ⟨q, hq, by rw [e3, e]⟩)
   have hni : f ∉ iN (z1 ++ z2) := fun h => by
     obtain ⟨q, hq, e3, _⟩ := iN_mem h
     exact hnd3.1 (List.mem_map.2 ⟨q, hq, by rw [e3, e]⟩)
   have hP : (z1 ++ z2).map zF = (z1 ++ z2).map zF := rfl
   have hfst2 : (((z1 ++ z2).map zF).map (·.1)) = (z1 ++ z2).map (·.1.1) := by rw [List.map_map]; rfl
   have hsp := shap_prod (n := n) (f := f) (x := (zF p).2) (P := (z1 ++ z2).map zF) hf (by rw [hfst2]; exact hnd3.2) (fun q hq => by
     obtain ⟨q', hq', rfl⟩ := List.mem_map.1 hq
     exact hz q' (hperm.mem_iff.2 (List.mem_cons_of_mem _ hq'))) (by rw [hfst2, ← e]; exact hnd3.1)
   have e3 : shapQ (reachZ z) n f = shapQ (fun S => pick (zF p).2 (S.testBit f) * prodP ((z1 ++ z2).map zF) S) n f := by
     refine shapQ_congr hf fun S _ => ?_
     unfold reachZ prodP
     rw [lprod_perm ((hperm.map zF).map _), List.map_cons, List.map_cons, lprod, ← e]; rfl
   have hE := EE_sides (z1 ++ z2) 0 0
   simp only [Nat.add_zero] at hE
   rw [e3, hsp, List.length_map, hE]
   have pM : (mN z).Perm (mN (p :: (z1 ++ z2))) := hperm.filterMap _
   have pI : (iN z).Perm (iN (p :: (z1 ++ z2))) := hperm.filterMap _
   have hN : nN z = nN (p :: (z1 ++ z2)) := by
     rw [e2, nN_append, show p :: z2 = [p] ++ z2 from rfl, nN_append, show p :: (z1 ++ z2) = [p] ++ (z1 ++ z2) from rfl, nN_append, nN_append]
     cases nN z1 <;> cases nN [p] <;> rfl
   have lM := pM.length_eq
   have lI := pI.length_eq
   have fM := pM.mem_iff (a := f)
   have fI := pI.mem_iff (a := f)
   obtain ⟨p1, p2⟩ := p
   have e : p1.1 = f := e
   rw [mN_cons] at lM fM
   rw [iN_cons] at lI fI
   rw [nN_cons] at hN
   obtain ⟨u, hu⟩ : ∃ u, u = (mN (z1 ++ z2)).length := ⟨_, rfl⟩
   obtain ⟨v, hv⟩ : ∃ v, v = (iN (z1 ++ z2)).length := ⟨_, rfl⟩
   show ((one0 p1.2.2) - (one0 p2.2.2)) * _ * _ = _
   rw [hN, ← hu, ← hv, lM, lI]
   cases h1 : p1.2.2 <;> cases h2 : p2.2.2
   · simp [one0, Rat.zero_mul]; grind
   · rw [h1, h2] at fM fI
     have fM : f ∉ mN z := fun h => hnm (by simpa using fM.1 h)
     have fI : f ∈ iN z := fI.2 (by simp [e])
     rw [if_neg fM, if_pos fI]
     simp only [Bool.not_false, Bool.not_true, Bool.and_true, Bool.true_and, Bool.and_false, Bool.false_or, Bool.false_eq_true, if_false, if_true, List.length_cons, ← hu, ← hv]
     cases nN (z1 ++ z2) with
     | true => simp [Rat.zero_mul, Rat.mul_zero]
     | false =>
      rw [if_neg (by decide), if_neg (by decide), nout, if_neg (by omega), wq, show u + v + 1 - u - 1 = v + 1 - 1 by omega, show u + (v + 1) = u + v + 1 by omega]
      simp only [one0, Bool.false_eq_true, if_false, if_true]
      grind
   · rw [h1, h2] at fM fI
     have fM : f ∈ mN z := fM.2 (by simp [e])
     have fI : f ∉ iN z := fun h => hni (by simpa using fI.1 h)
     rw [if_pos fM, if_neg fI]
     simp only [Bool.not_false, Bool.not_true, Bool.and_true, Bool.true_and, Bool.and_false, Bool.false_or, Bool.false_eq_true, if_false, if_true, List.length_cons, ← hu, ← hv]
     cases nN (z1 ++ z2) with
     | true => simp [Rat.zero_mul, Rat.mul_zero]
     | false =>
      rw [if_neg (by decide), if_neg (by decide), nin, if_neg (by omega), wq, show u + v + 1 - u - 1 = v by omega, show u + 1 - 1 = u by omega, show u + 1 + v = u + v + 1 by omega]
      simp only [one0, Bool.false_eq_true, if_false, if_true]
      grind
   · rw [h1, h2] at fM fI
     have fM : f ∉ mN z := fun h => hnm (by simpa using fM.1 h)
     have fI : f ∉ iN z := fun h => hni (by simpa using fI.1 h)
     rw [if_neg fM, if_neg fI]
     simp only [one0, if_true]
     split <;> grind
 · have h1 : f ∉ mN z := fun h => by
     obtain ⟨q, hq, e3, _⟩ := mN_mem h
     exact hm (List.mem_map.2 ⟨q, hq, e3⟩)
   have h2 : f ∉ iN z := fun h => by
     obtain ⟨q, hq, e3, _⟩ := iN_mem h
     exact hm (List.mem_map.2 ⟨q, hq, e3⟩)
   have : shapQ (reachZ z) n f = 0 := shap_none (P := z.map zF) (by rw [hfst]; exact hm)
   rw [this, if_neg h1, if_neg h2, Rat.zero_mul, Rat.add_zero]
   split <;> rfl
theorem tree_shap {m : MODEL} {row other : List CELL} (h : Askd m row) {j f : Nat} (hj : j < m.2.length) (hf : f < row.length) :
  shapQ (fun S => predT (treeAt m j) (mixR row other S) (treeOf (treeAt m j))) row.length f = treeAdd (treeAt m j) row other (treeOf (treeAt m j)) f := by
 obtain ⟨t1, t2, t3, t4, t5⟩ := h.tree hj
 have e1 : ∀ S, predT (treeAt m j) (mixR row other S) (treeOf (treeAt m j)) = lsum (((legsT (treeAt m j) row (treeOf (treeAt m j)) []).zip (legsT (treeAt m j) other (treeOf (treeAt m j)) [])).map (legZ S)) := fun S => by
  rw [legs_mix (by rw [t5] at t2 ⊢; exact t2) (w := []) (w' := []) rfl, List.zip_nil_left, reachZ_nil, Rat.one_mul]
 have hg := Legs_ok (t := m.2[j]) (h.mt _ (List.getElem_mem hj)) (h.ms _ (List.getElem_mem hj)) h.cs (h.goodT hj) (by have := h.good.1.2.1; have := h.len; omega)
 rw [treeAt_get hj] at e1 ⊢
 obtain ⟨p1, p2⟩ := pair_ok (other := other) hg.2.1
 rw [shapQ_congr hf fun S _ => e1 S]
 rw [shapQ_lsum (fun x S => legZ S x)]
 unfold treeAdd
 congr 1
 refine List.map_congr_left fun x hx => ?_
 obtain ⟨_, q1, q2, _⟩ := p2 x hx
 obtain ⟨x1, x2⟩ := x
 exact leg_shap q1 q2.2.2 hf
theorem worth_shap {m : MODEL} {row : List CELL} {l : List (List CELL)} (h : AskB m row l) {f : Nat} (hf : f < row.length) : shapQ (worthV m row l) row.length f = backV m row l l.length f * part1 l := by
 have e1 : shapQ (worthV m row l) row.length f = shapQ (fun S => rsum (saysV m row l S) l.length) row.length f * part1 l := by rw [← shapQ_mul]; rfl
 rw [e1]
 congr 1
 have e2 := shapQ_rsum (fun i S => saysV m row l S i) row.length f l.length
 have e2 : shapQ (fun S => rsum (saysV m row l S) l.length) row.length f = _ := e2
 rw [e2]
 refine rsum_congr fun i hi => ?_
 have e3 := shapQ_rsum (fun j S => predT (treeAt m j) (mixR row (rowAt l i) S) (treeOf (treeAt m j))) row.length f m.2.length
 have e3 : shapQ (fun S => saysV m row l S i) row.length f = _ := e3
 rw [e3]
 exact rsum_congr fun j hj => tree_shap h.a hj hf
theorem VersusValues_true (m0 : MODEL) (row0 : List CELL) (l0 : List (List CELL)) (hl : m0.2.length ≤ 9223372036854775807) (ht : ∀ t ∈ m0.2, t.length ≤ 9223372036854775807) (hr : row0.length ≤ 9223372036854775807)
   (hl0 : l0.length ≤ 9223372036854775807) (hlr : ∀ r ∈ l0, r.length ≤ 9223372036854775807) :
   dendronlaw17_VersusValues m0 row0 l0 = some true := by
 obtain ⟨m, row, hs, ms, ml, mt, cs⟩ := Small_ok m0 row0 hl ht hr
 have h9 := All09n_ok 3 (by decide) l0 hl0 hlr
 have h9 : dendronlaw09_All l0 3 70 = some (cutRowsN 3 l0) := h9
 have lsz := cutRowsN_sz 3 l0
 have lll := cutRowsN_len 3 l0
 obtain ⟨l, el⟩ : ∃ l, l = cutRowsN 3 l0 := ⟨_, rfl⟩
 rw [← el] at h9 lsz lll
 obtain ⟨b, h1, h2⟩ := askB_of (row := row) ms ml mt cs lsz (by omega)
 have hW := (whyV_ok h1 row (l := l) (by omega)).2
 rw [dendronlaw17_VersusValues, hs, Option.bind_some, h9, Option.bind_some]
 dsimp only
 rw [hW, Option.bind_some]
 by_cases h0 : whyV b m row l = 0
 · have h := h2 h0
   have hlen := h.a.len
   have f0 := h.a.good.1.1
   rw [h0, cnd rfl]
   by_cases h5 : m.1 > 5
   · rw [cnd h5, law17_awake_ok]; rfl
   · have hS := Shapley_ok (v := worthV m row l) (L := tabV m row l (2 ^ row.length)) (n := row.length) (k := 302) (by omega) (fun S hS => tabV_get m row l hS) (fun S _ => worthV_sz h S) (by decide)
     rw [hlen] at hS
     rw [cnd' h5, Values17_ok h, Option.bind_some, show (!decide ((0 : Int) = 0)) = false by decide, cond_false, cnd rfl, table17_ok h (by omega), Option.bind_some, hS, Option.bind_some]
     dsimp only
     have hsz : ∀ f, SzQ (backV m row l l.length f * part1 l) 300000002 := fun f => ((backV_sz h (Nat.le_refl _) f).mul (part1_sz h.ll)).mono (by decide)
     have e : flo row.length (shapQ (worthV m row l) row.length) = flo row.length (fun f => backV m row l l.length f * part1 l) := flo_congr fun f hf => worth_shap h hf
     have hA : dendronref10_All (flo row.length (fun f => backV m row l l.length f * part1 l)) (flo row.length (shapQ (worthV m row l) row.length)) = some true := by
      rw [e]
      refine All_true (n := 300000002) (m := 300000002) (by decide) (by decide) (fun x hx => ?_) rfl (by rw [flo_len]; omega) (fun i hi hi' => ?_)
      · obtain ⟨f, _, rfl⟩ := List.mem_map.1 hx
        exact (hsz f).szR
      · rw [flo_len] at hi
        have := flo_get (fun f => backV m row l l.length f * part1 l) hi
        rw [List.getElem?_eq_getElem hi'] at this
        have e := Option.some.inj this
        exact ⟨_, hsz i, e, by rw [e, rv_canQ]⟩
     rw [hA, Option.bind_some, law17_awake_ok]
     rfl
 · rw [cnd' h0, Values17_bad h1 (by omega) h0, Option.bind_some, decide_eq_false h0, Bool.not_false, cond_true, cnd (by simp), cnd rfl, law17_awake_ok]
   rfl
end Go.Proofs.YtaonkcmflkmncaaGreatDoor.X
