/- Each function answers so. Printed by a program of our own. -/
import Derived.Test.YtaonkcmflkmncaaDoorLa6

namespace Go.Proofs.YtaonkcmflkmncaaDoor.X
open Go
set_option linter.unusedSimpArgs false
set_option linter.unusedVariables false
set_option maxRecDepth 100000

abbrev e20 : List (Nat × Ctr) := []

def dendronlaw09_number_lh : LH
  | _ => none

theorem dendronlaw09_number_eq (a_0 : RAT) : fnF tb (envL e20) Tryd.f20 dendronlaw09_number_lh c20.ps c20.rs (T := RAT) (fun y => (y.2.1)) (a_0, ()) = dendronlaw09_number a_0 := by kernel_rfl

abbrev e9 : List (Nat × Ctr) := [(20, c20)]

def dendronlaw09_Few_lh : LH
  | 6 => some ⟨dendronlaw09_Few_i3, dendronlaw09_Few_o3, lp dendronlaw09_Few_s3 K0⟩
  | _ => none

theorem dendronlaw09_Few_l3 (g : dendronlaw09_Few_i3.V → Option (OT dendronlaw09_Few_o3)) (v : dendronlaw09_Few_i3.V) : loopStep tb (envL e9) 32 dendronlaw09_Few_lh (loopAt 3 (bodyOf Tryd.f9) .skip) dendronlaw09_Few_i3 dendronlaw09_Few_o3 g v = dendronlaw09_Few_s3 g v := by kernel_rfl

theorem dendronlaw09_Few_eq (l_0 : List CELL) (n_1 : Int) : fnF tb (envL e9) Tryd.f9 dendronlaw09_Few_lh c9.ps c9.rs (T := (List CELL)) (fun y => (y.2.1)) (l_0, n_1, ()) = dendronlaw09_Few l_0 n_1 := by kernel_rfl

abbrev e4 : List (Nat × Ctr) := [(9, c9)]

def dendronlaw16_leg_lh : LH
  | 6 => some ⟨dendronlaw16_leg_i3, dendronlaw16_leg_o3, lp dendronlaw16_leg_s3 K0⟩
  | _ => none

theorem dendronlaw16_leg_l3 (g : dendronlaw16_leg_i3.V → Option (OT dendronlaw16_leg_o3)) (v : dendronlaw16_leg_i3.V) : loopStep tb (envL e4) 39 dendronlaw16_leg_lh (loopAt 3 (bodyOf Tryd.f4) .skip) dendronlaw16_leg_i3 dendronlaw16_leg_o3 g v = dendronlaw16_leg_s3 g v := by kernel_rfl

theorem dendronlaw16_leg_eq (l_0 : LEG) : fnF tb (envL e4) Tryd.f4 dendronlaw16_leg_lh c4.ps c4.rs (T := LEG) (fun y => (y.2.1)) (l_0, ()) = dendronlaw16_leg l_0 := by kernel_rfl

abbrev e44 : List (Nat × Ctr) := []

def nat_trim_lh : LH
  | 4 => some ⟨nat_trim_i2, nat_trim_o2, lp nat_trim_s2 K0⟩
  | _ => none

theorem nat_trim_l2 (g : nat_trim_i2.V → Option (OT nat_trim_o2)) (v : nat_trim_i2.V) : loopStep tb (envL e44) 23 nat_trim_lh (loopAt 2 (bodyOf Tryd.f44) .skip) nat_trim_i2 nat_trim_o2 g v = nat_trim_s2 g v := by kernel_rfl

theorem nat_trim_eq (a_0 : List Int) : fnF tb (envL e44) Tryd.f44 nat_trim_lh c44.ps c44.rs (T := (List Int)) (fun y => (y.2.1)) (a_0, ()) = nat_trim a_0 := by kernel_rfl

abbrev e30 : List (Nat × Ctr) := [(44, c44)]

def nat_Of_lh : LH
  | _ => none

theorem nat_Of_eq (n_0 : Int) : fnF tb (envL e30) Tryd.f30 nat_Of_lh c30.ps c30.rs (T := (List Int)) (fun y => (y.2.1)) (n_0, ()) = nat_Of n_0 := by kernel_rfl

abbrev e16 : List (Nat × Ctr) := [(30, c30)]

def ratio_Zero_lh : LH
  | _ => none

theorem ratio_Zero_eq  : fnF tb (envL e16) Tryd.f16 ratio_Zero_lh c16.ps c16.rs (T := RAT) (fun y => (y.2.1)) () = ratio_Zero  := by kernel_rfl

abbrev e39 : List (Nat × Ctr) := [(44, c44)]

def nat_Clean_lh : LH
  | 6 => some ⟨nat_Clean_i3, nat_Clean_o3, lp nat_Clean_s3 K0⟩
  | _ => none

theorem nat_Clean_l3 (g : nat_Clean_i3.V → Option (OT nat_Clean_o3)) (v : nat_Clean_i3.V) : loopStep tb (envL e39) 24 nat_Clean_lh (loopAt 3 (bodyOf Tryd.f39) .skip) nat_Clean_i3 nat_Clean_o3 g v = nat_Clean_s3 g v := by kernel_rfl

theorem nat_Clean_eq (a_0 : List Int) : fnF tb (envL e39) Tryd.f39 nat_Clean_lh c39.ps c39.rs (T := (List Int)) (fun y => (y.2.1)) (a_0, ()) = nat_Clean a_0 := by kernel_rfl

abbrev e62 : List (Nat × Ctr) := [(39, c39)]

def nat_To_lh : LH
  | _ => none

theorem nat_To_eq (a_0 : List Int) : fnF tb (envL e62) Tryd.f62 nat_To_lh c62.ps c62.rs (T := Int × Bool) (fun y => (y.2.1, y.2.2.1)) (a_0, ()) = nat_To a_0 := by kernel_rfl

abbrev e51 : List (Nat × Ctr) := [(30, c30), (62, c62)]

def nat_euclid_lh : LH
  | 6 => some ⟨nat_euclid_i3, nat_euclid_o3, lp nat_euclid_s3 K0⟩
  | _ => none

theorem nat_euclid_l3 (g : nat_euclid_i3.V → Option (OT nat_euclid_o3)) (v : nat_euclid_i3.V) : loopStep tb (envL e51) 27 nat_euclid_lh (loopAt 3 (bodyOf Tryd.f51) .skip) nat_euclid_i3 nat_euclid_o3 g v = nat_euclid_s3 g v := by kernel_rfl

theorem nat_euclid_eq (a_0 : List Int) (b_1 : List Int) : fnF tb (envL e51) Tryd.f51 nat_euclid_lh c51.ps c51.rs (T := (List Int)) (fun y => (y.2.1)) (a_0, b_1, ()) = nat_euclid a_0 b_1 := by kernel_rfl

abbrev e52 : List (Nat × Ctr) := [(63, c63)]

def nat_zeros_lh : LH
  | 6 => some ⟨nat_zeros_i3, nat_zeros_o3, lp nat_zeros_s3 K0⟩
  | _ => none

theorem nat_zeros_l3 (g : nat_zeros_i3.V → Option (OT nat_zeros_o3)) (v : nat_zeros_i3.V) : loopStep tb (envL e52) 24 nat_zeros_lh (loopAt 3 (bodyOf Tryd.f52) .skip) nat_zeros_i3 nat_zeros_o3 g v = nat_zeros_s3 g v := by kernel_rfl

theorem nat_zeros_eq (a_0 : List Int) : fnF tb (envL e52) Tryd.f52 nat_zeros_lh c52.ps c52.rs (T := Int) (fun y => (y.2.1)) (a_0, ()) = nat_zeros a_0 := by kernel_rfl

abbrev e60 : List (Nat × Ctr) := []

def nat_limb_lh : LH
  | _ => none

theorem nat_limb_eq (a_0 : List Int) (i_1 : Int) : fnF tb (envL e60) Tryd.f60 nat_limb_lh c60.ps c60.rs (T := Int) (fun y => (y.2.1)) (a_0, i_1, ()) = nat_limb a_0 i_1 := by kernel_rfl

abbrev e53 : List (Nat × Ctr) := [(44, c44), (60, c60)]

def nat_shr_lh : LH
  | 12 => some ⟨nat_shr_i6, nat_shr_o6, lp nat_shr_s6 K0⟩
  | _ => none

theorem nat_shr_l6 (g : nat_shr_i6.V → Option (OT nat_shr_o6)) (v : nat_shr_i6.V) : loopStep tb (envL e53) 50 nat_shr_lh (loopAt 6 (bodyOf Tryd.f53) .skip) nat_shr_i6 nat_shr_o6 g v = nat_shr_s6 g v := by kernel_rfl

theorem nat_shr_eq (a_0 : List Int) (n_1 : Int) : fnF tb (envL e53) Tryd.f53 nat_shr_lh c53.ps c53.rs (T := (List Int)) (fun y => (y.2.1)) (a_0, n_1, ()) = nat_shr a_0 n_1 := by kernel_rfl

abbrev e54 : List (Nat × Ctr) := []

def nat_order_lh : LH
  | 12 => some ⟨nat_order_i6, nat_order_o6, lp nat_order_s6 K0⟩
  | _ => none

theorem nat_order_l6 (g : nat_order_i6.V → Option (OT nat_order_o6)) (v : nat_order_i6.V) : loopStep tb (envL e54) 45 nat_order_lh (loopAt 6 (bodyOf Tryd.f54) .skip) nat_order_i6 nat_order_o6 g v = nat_order_s6 g v := by kernel_rfl

theorem nat_order_eq (a_0 : List Int) (b_1 : List Int) : fnF tb (envL e54) Tryd.f54 nat_order_lh c54.ps c54.rs (T := Int) (fun y => (y.2.1)) (a_0, b_1, ()) = nat_order a_0 b_1 := by kernel_rfl

abbrev e55 : List (Nat × Ctr) := [(44, c44)]

def nat_shl_lh : LH
  | 8 => some ⟨nat_shl_i4, nat_shl_o4, lp nat_shl_s4 K0⟩
  | _ => none

theorem nat_shl_l4 (g : nat_shl_i4.V → Option (OT nat_shl_o4)) (v : nat_shl_i4.V) : loopStep tb (envL e55) 51 nat_shl_lh (loopAt 4 (bodyOf Tryd.f55) .skip) nat_shl_i4 nat_shl_o4 g v = nat_shl_s4 g v := by kernel_rfl

theorem nat_shl_eq (a_0 : List Int) (n_1 : Int) : fnF tb (envL e55) Tryd.f55 nat_shl_lh c55.ps c55.rs (T := (List Int)) (fun y => (y.2.1)) (a_0, n_1, ()) = nat_shl a_0 n_1 := by kernel_rfl

abbrev e58 : List (Nat × Ctr) := [(44, c44)]

def nat_small_lh : LH
  | 8 => some ⟨nat_small_i4, nat_small_o4, lp nat_small_s4 K0⟩
  | _ => none

theorem nat_small_l4 (g : nat_small_i4.V → Option (OT nat_small_o4)) (v : nat_small_i4.V) : loopStep tb (envL e58) 38 nat_small_lh (loopAt 4 (bodyOf Tryd.f58) .skip) nat_small_i4 nat_small_o4 g v = nat_small_s4 g v := by kernel_rfl

theorem nat_small_eq (a_0 : List Int) (d_1 : Int) : fnF tb (envL e58) Tryd.f58 nat_small_lh c58.ps c58.rs (T := (List Int) × Int) (fun y => (y.2.1, y.2.2.1)) (a_0, d_1, ()) = nat_small a_0 d_1 := by kernel_rfl

abbrev e64 : List (Nat × Ctr) := [(68, c68)]

def bits_LeadingZeros32_lh : LH
  | _ => none

theorem bits_LeadingZeros32_eq (x_0 : Int) : fnF tb (envL e64) Tryd.f64 bits_LeadingZeros32_lh c64.ps c64.rs (T := Int) (fun y => (y.2.1)) (x_0, ()) = bits_LeadingZeros32 x_0 := by kernel_rfl

abbrev e69 : List (Nat × Ctr) := [(60, c60)]

def nat_take_lh : LH
  | 6 => some ⟨nat_take_i3, nat_take_o3, lp nat_take_s3 K0⟩
  | _ => none

theorem nat_take_l3 (g : nat_take_i3.V → Option (OT nat_take_o3)) (v : nat_take_i3.V) : loopStep tb (envL e69) 46 nat_take_lh (loopAt 3 (bodyOf Tryd.f69) .skip) nat_take_i3 nat_take_o3 g v = nat_take_s3 g v := by kernel_rfl

theorem nat_take_eq (u_0 : List Int) (v_1 : List Int) (times_2 : Int) : fnF tb (envL e69) Tryd.f69 nat_take_lh c69.ps c69.rs (T := (List Int) × Bool) (fun y => (y.1.1, y.2.1)) (u_0, v_1, times_2, ()) = nat_take u_0 v_1 times_2 := by kernel_rfl

abbrev e70 : List (Nat × Ctr) := [(60, c60)]

def nat_give_lh : LH
  | 4 => some ⟨nat_give_i2, nat_give_o2, lp nat_give_s2 K0⟩
  | _ => none

theorem nat_give_l2 (g : nat_give_i2.V → Option (OT nat_give_o2)) (v : nat_give_i2.V) : loopStep tb (envL e70) 29 nat_give_lh (loopAt 2 (bodyOf Tryd.f70) .skip) nat_give_i2 nat_give_o2 g v = nat_give_s2 g v := by kernel_rfl

theorem nat_give_eq (u_0 : List Int) (v_1 : List Int) : fnF tb (envL e70) Tryd.f70 nat_give_lh c70.ps c70.rs (T := (List Int)) (fun y => (y.1.1)) (u_0, v_1, ()) = nat_give u_0 v_1 := by kernel_rfl

abbrev e65 : List (Nat × Ctr) := [(69, c69), (70, c70)]

def nat_digit_lh : LH
  | 8 => some ⟨nat_digit_i4, nat_digit_o4, lp nat_digit_s4 K0⟩
  | _ => none

theorem nat_digit_l4 (g : nat_digit_i4.V → Option (OT nat_digit_o4)) (v : nat_digit_i4.V) : loopStep tb (envL e65) 77 nat_digit_lh (loopAt 4 (bodyOf Tryd.f65) .skip) nat_digit_i4 nat_digit_o4 g v = nat_digit_s4 g v := by kernel_rfl

theorem nat_digit_eq (a_0 : List Int) (a_1 : List Int) : fnF tb (envL e65) Tryd.f65 nat_digit_lh c65.ps c65.rs (T := (List Int) × Int) (fun y => (y.1.1, y.2.1)) (a_0, a_1, ()) = nat_digit a_0 a_1 := by kernel_rfl

abbrev e59 : List (Nat × Ctr) := [(44, c44), (53, c53), (55, c55), (64, c64), (65, c65)]

def nat_long_lh : LH
  | 14 => some ⟨nat_long_i7, nat_long_o7, lp nat_long_s7 K0⟩
  | _ => none

theorem nat_long_l7 (g : nat_long_i7.V → Option (OT nat_long_o7)) (v : nat_long_i7.V) : loopStep tb (envL e59) 64 nat_long_lh (loopAt 7 (bodyOf Tryd.f59) .skip) nat_long_i7 nat_long_o7 g v = nat_long_s7 g v := by kernel_rfl

theorem nat_long_eq (a_0 : List Int) (b_1 : List Int) : fnF tb (envL e59) Tryd.f59 nat_long_lh c59.ps c59.rs (T := (List Int) × (List Int)) (fun y => (y.2.1, y.2.2.1)) (a_0, b_1, ()) = nat_long a_0 b_1 := by kernel_rfl

abbrev e42 : List (Nat × Ctr) := [(30, c30), (39, c39), (54, c54), (58, c58), (59, c59)]

def nat_DivMod_lh : LH
  | _ => none

theorem nat_DivMod_eq (a_0 : List Int) (b_1 : List Int) : fnF tb (envL e42) Tryd.f42 nat_DivMod_lh c42.ps c42.rs (T := (List Int) × (List Int) × Int) (fun y => (y.2.1, y.2.2.1, y.2.2.2.1)) (a_0, b_1, ()) = nat_DivMod a_0 b_1 := by kernel_rfl

abbrev e56 : List (Nat × Ctr) := [(42, c42)]

def nat_rest_lh : LH
  | _ => none

theorem nat_rest_eq (a_0 : List Int) (b_1 : List Int) : fnF tb (envL e56) Tryd.f56 nat_rest_lh c56.ps c56.rs (T := (List Int) × (List Int)) (fun y => (y.2.1, y.2.2.1)) (a_0, b_1, ()) = nat_rest a_0 b_1 := by kernel_rfl

abbrev e57 : List (Nat × Ctr) := [(44, c44), (60, c60)]

def nat_minus_lh : LH
  | 8 => some ⟨nat_minus_i4, nat_minus_o4, lp nat_minus_s4 K0⟩
  | _ => none

theorem nat_minus_l4 (g : nat_minus_i4.V → Option (OT nat_minus_o4)) (v : nat_minus_i4.V) : loopStep tb (envL e57) 39 nat_minus_lh (loopAt 4 (bodyOf Tryd.f57) .skip) nat_minus_i4 nat_minus_o4 g v = nat_minus_s4 g v := by kernel_rfl

theorem nat_minus_eq (a_0 : List Int) (b_1 : List Int) : fnF tb (envL e57) Tryd.f57 nat_minus_lh c57.ps c57.rs (T := (List Int)) (fun y => (y.2.1)) (a_0, b_1, ()) = nat_minus a_0 b_1 := by kernel_rfl

abbrev e41 : List (Nat × Ctr) := [(39, c39), (51, c51), (52, c52), (53, c53), (54, c54), (55, c55), (56, c56), (57, c57)]

def nat_Gcd_lh : LH
  | 20 => some ⟨nat_Gcd_i10, nat_Gcd_o10, lp nat_Gcd_s10 K0⟩
  | _ => none

theorem nat_Gcd_l10 (g : nat_Gcd_i10.V → Option (OT nat_Gcd_o10)) (v : nat_Gcd_i10.V) : loopStep tb (envL e41) 86 nat_Gcd_lh (loopAt 10 (bodyOf Tryd.f41) .skip) nat_Gcd_i10 nat_Gcd_o10 g v = nat_Gcd_s10 g v := by kernel_rfl

theorem nat_Gcd_eq (a_0 : List Int) (a_1 : List Int) : fnF tb (envL e41) Tryd.f41 nat_Gcd_lh c41.ps c41.rs (T := (List Int)) (fun y => (y.2.1)) (a_0, a_1, ()) = nat_Gcd a_0 a_1 := by kernel_rfl

abbrev e27 : List (Nat × Ctr) := [(30, c30), (41, c41), (42, c42)]

def ratio_form_lh : LH
  | _ => none

theorem ratio_form_eq (num_0 : WH) (den_1 : List Int) : fnF tb (envL e27) Tryd.f27 ratio_form_lh c27.ps c27.rs (T := RAT) (fun y => (y.2.1)) (num_0, den_1, ()) = ratio_form num_0 den_1 := by kernel_rfl

abbrev e43 : List (Nat × Ctr) := []

def whole_sign_lh : LH
  | _ => none

theorem whole_sign_eq (neg_0 : Bool) (abs_1 : List Int) : fnF tb (envL e43) Tryd.f43 whole_sign_lh c43.ps c43.rs (T := WH) (fun y => (y.2.1)) (neg_0, abs_1, ()) = whole_sign neg_0 abs_1 := by kernel_rfl

abbrev e40 : List (Nat × Ctr) := [(39, c39), (43, c43)]

def whole_Clean_lh : LH
  | _ => none

theorem whole_Clean_eq (a_0 : WH) : fnF tb (envL e40) Tryd.f40 whole_Clean_lh c40.ps c40.rs (T := WH) (fun y => (y.2.1)) (a_0, ()) = whole_Clean a_0 := by kernel_rfl

abbrev e26 : List (Nat × Ctr) := [(16, c16), (27, c27), (39, c39), (40, c40)]

def ratio_Clean_lh : LH
  | _ => none

theorem ratio_Clean_eq (a_0 : RAT) : fnF tb (envL e26) Tryd.f26 ratio_Clean_lh c26.ps c26.rs (T := RAT) (fun y => (y.2.1)) (a_0, ()) = ratio_Clean a_0 := by kernel_rfl

abbrev e29 : List (Nat × Ctr) := [(39, c39), (44, c44)]

def nat_Mul_lh : LH
  | 16 => some ⟨nat_Mul_i8, nat_Mul_o8, lp nat_Mul_s8 K0⟩
  | 8 => some ⟨nat_Mul_i4, nat_Mul_o4, lp nat_Mul_s4 K0⟩
  | _ => none

theorem nat_Mul_l8 (g : nat_Mul_i8.V → Option (OT nat_Mul_o8)) (v : nat_Mul_i8.V) : loopStep tb (envL e29) 67 nat_Mul_lh (loopAt 8 (bodyOf Tryd.f29) .skip) nat_Mul_i8 nat_Mul_o8 g v = nat_Mul_s8 g v := by kernel_rfl

theorem nat_Mul_l4 (g : nat_Mul_i4.V → Option (OT nat_Mul_o4)) (v : nat_Mul_i4.V) : loopStep tb (envL e29) 67 nat_Mul_lh (loopAt 4 (bodyOf Tryd.f29) .skip) nat_Mul_i4 nat_Mul_o4 g v = nat_Mul_s4 g v := by kernel_rfl

theorem nat_Mul_eq (a_0 : List Int) (a_1 : List Int) : fnF tb (envL e29) Tryd.f29 nat_Mul_lh c29.ps c29.rs (T := (List Int)) (fun y => (y.2.1)) (a_0, a_1, ()) = nat_Mul a_0 a_1 := by kernel_rfl

abbrev e28 : List (Nat × Ctr) := [(29, c29), (40, c40), (43, c43)]

def whole_Mul_lh : LH
  | _ => none

theorem whole_Mul_eq (a_0 : WH) (b_1 : WH) : fnF tb (envL e28) Tryd.f28 whole_Mul_lh c28.ps c28.rs (T := WH) (fun y => (y.2.1)) (a_0, b_1, ()) = whole_Mul a_0 b_1 := by kernel_rfl

abbrev e45 : List (Nat × Ctr) := [(39, c39), (44, c44), (60, c60)]

def nat_Add_lh : LH
  | 10 => some ⟨nat_Add_i5, nat_Add_o5, lp nat_Add_s5 K0⟩
  | _ => none

theorem nat_Add_l5 (g : nat_Add_i5.V → Option (OT nat_Add_o5)) (v : nat_Add_i5.V) : loopStep tb (envL e45) 43 nat_Add_lh (loopAt 5 (bodyOf Tryd.f45) .skip) nat_Add_i5 nat_Add_o5 g v = nat_Add_s5 g v := by kernel_rfl

theorem nat_Add_eq (a_0 : List Int) (b_1 : List Int) : fnF tb (envL e45) Tryd.f45 nat_Add_lh c45.ps c45.rs (T := (List Int)) (fun y => (y.2.1)) (a_0, b_1, ()) = nat_Add a_0 b_1 := by kernel_rfl

abbrev e46 : List (Nat × Ctr) := [(39, c39), (54, c54)]

def nat_Cmp_lh : LH
  | _ => none

theorem nat_Cmp_eq (a_0 : List Int) (b_1 : List Int) : fnF tb (envL e46) Tryd.f46 nat_Cmp_lh c46.ps c46.rs (T := Int) (fun y => (y.2.1)) (a_0, b_1, ()) = nat_Cmp a_0 b_1 := by kernel_rfl

abbrev e47 : List (Nat × Ctr) := [(39, c39), (54, c54), (57, c57)]

def nat_Sub_lh : LH
  | _ => none

theorem nat_Sub_eq (a_0 : List Int) (b_1 : List Int) : fnF tb (envL e47) Tryd.f47 nat_Sub_lh c47.ps c47.rs (T := (List Int) × Int) (fun y => (y.2.1, y.2.2.1)) (a_0, b_1, ()) = nat_Sub a_0 b_1 := by kernel_rfl

abbrev e31 : List (Nat × Ctr) := [(40, c40), (43, c43), (45, c45), (46, c46), (47, c47)]

def whole_Add_lh : LH
  | _ => none

theorem whole_Add_eq (a_0 : WH) (b_1 : WH) : fnF tb (envL e31) Tryd.f31 whole_Add_lh c31.ps c31.rs (T := WH) (fun y => (y.2.1)) (a_0, b_1, ()) = whole_Add a_0 b_1 := by kernel_rfl

abbrev e32 : List (Nat × Ctr) := []

def ratio_den_lh : LH
  | _ => none

theorem ratio_den_eq (a_0 : RAT) : fnF tb (envL e32) Tryd.f32 ratio_den_lh c32.ps c32.rs (T := WH) (fun y => (y.2.1)) (a_0, ()) = ratio_den a_0 := by kernel_rfl

abbrev e17 : List (Nat × Ctr) := [(26, c26), (27, c27), (28, c28), (29, c29), (31, c31), (32, c32)]

def ratio_Add_lh : LH
  | _ => none

theorem ratio_Add_eq (a_0 : RAT) (b_1 : RAT) : fnF tb (envL e17) Tryd.f17 ratio_Add_lh c17.ps c17.rs (T := RAT) (fun y => (y.2.1)) (a_0, b_1, ()) = ratio_Add a_0 b_1 := by kernel_rfl

abbrev e50 : List (Nat × Ctr) := [(40, c40)]

def whole_Sign_lh : LH
  | _ => none

theorem whole_Sign_eq (a_0 : WH) : fnF tb (envL e50) Tryd.f50 whole_Sign_lh c50.ps c50.rs (T := Int) (fun y => (y.2.1)) (a_0, ()) = whole_Sign a_0 := by kernel_rfl

abbrev e38 : List (Nat × Ctr) := [(26, c26), (50, c50)]

def ratio_Sign_lh : LH
  | _ => none

theorem ratio_Sign_eq (a_0 : RAT) : fnF tb (envL e38) Tryd.f38 ratio_Sign_lh c38.ps c38.rs (T := Int) (fun y => (y.2.1)) (a_0, ()) = ratio_Sign a_0 := by kernel_rfl

abbrev e25 : List (Nat × Ctr) := [(38, c38)]

def poly_trim_lh : LH
  | 4 => some ⟨poly_trim_i2, poly_trim_o2, lp poly_trim_s2 K0⟩
  | _ => none

theorem poly_trim_l2 (g : poly_trim_i2.V → Option (OT poly_trim_o2)) (v : poly_trim_i2.V) : loopStep tb (envL e25) 23 poly_trim_lh (loopAt 2 (bodyOf Tryd.f25) .skip) poly_trim_i2 poly_trim_o2 g v = poly_trim_s2 g v := by kernel_rfl

theorem poly_trim_eq (p_0 : List RAT) : fnF tb (envL e25) Tryd.f25 poly_trim_lh c25.ps c25.rs (T := (List RAT)) (fun y => (y.2.1)) (p_0, ()) = poly_trim p_0 := by kernel_rfl

abbrev e36 : List (Nat × Ctr) := [(16, c16)]

def poly_at_lh : LH
  | _ => none

theorem poly_at_eq (p_0 : List RAT) (i_1 : Int) : fnF tb (envL e36) Tryd.f36 poly_at_lh c36.ps c36.rs (T := RAT) (fun y => (y.2.1)) (p_0, i_1, ()) = poly_at p_0 i_1 := by kernel_rfl

abbrev e21 : List (Nat × Ctr) := [(17, c17), (25, c25), (36, c36)]

def poly_Add_lh : LH
  | 6 => some ⟨poly_Add_i3, poly_Add_o3, lp poly_Add_s3 K0⟩
  | _ => none

theorem poly_Add_l3 (g : poly_Add_i3.V → Option (OT poly_Add_o3)) (v : poly_Add_i3.V) : loopStep tb (envL e21) 28 poly_Add_lh (loopAt 3 (bodyOf Tryd.f21) .skip) poly_Add_i3 poly_Add_o3 g v = poly_Add_s3 g v := by kernel_rfl

theorem poly_Add_eq (a_0 : List RAT) (b_1 : List RAT) : fnF tb (envL e21) Tryd.f21 poly_Add_lh c21.ps c21.rs (T := (List RAT)) (fun y => (y.2.1)) (a_0, b_1, ()) = poly_Add a_0 b_1 := by kernel_rfl

abbrev e15 : List (Nat × Ctr) := [(26, c26), (27, c27), (28, c28), (29, c29)]

def ratio_Mul_lh : LH
  | _ => none

theorem ratio_Mul_eq (a_0 : RAT) (b_1 : RAT) : fnF tb (envL e15) Tryd.f15 ratio_Mul_lh c15.ps c15.rs (T := RAT) (fun y => (y.2.1)) (a_0, b_1, ()) = ratio_Mul a_0 b_1 := by kernel_rfl

abbrev e22 : List (Nat × Ctr) := [(15, c15), (25, c25)]

def poly_Scale_lh : LH
  | 6 => some ⟨poly_Scale_i3, poly_Scale_o3, lp poly_Scale_s3 K0⟩
  | _ => none

theorem poly_Scale_l3 (g : poly_Scale_i3.V → Option (OT poly_Scale_o3)) (v : poly_Scale_i3.V) : loopStep tb (envL e22) 23 poly_Scale_lh (loopAt 3 (bodyOf Tryd.f22) .skip) poly_Scale_i3 poly_Scale_o3 g v = poly_Scale_s3 g v := by kernel_rfl

theorem poly_Scale_eq (p_0 : List RAT) (by_1 : RAT) : fnF tb (envL e22) Tryd.f22 poly_Scale_lh c22.ps c22.rs (T := (List RAT)) (fun y => (y.2.1)) (p_0, by_1, ()) = poly_Scale p_0 by_1 := by kernel_rfl

abbrev e37 : List (Nat × Ctr) := [(30, c30), (43, c43)]

def whole_Of_lh : LH
  | _ => none

theorem whole_Of_eq (n_0 : Int) : fnF tb (envL e37) Tryd.f37 whole_Of_lh c37.ps c37.rs (T := WH) (fun y => (y.2.1)) (n_0, ()) = whole_Of n_0 := by kernel_rfl

abbrev e23 : List (Nat × Ctr) := [(30, c30), (37, c37)]

def ratio_Of_lh : LH
  | _ => none

theorem ratio_Of_eq (n_0 : Int) : fnF tb (envL e23) Tryd.f23 ratio_Of_lh c23.ps c23.rs (T := RAT) (fun y => (y.2.1)) (n_0, ()) = ratio_Of n_0 := by kernel_rfl

abbrev e10 : List (Nat × Ctr) := [(21, c21), (22, c22), (23, c23)]

def poly_Sub_lh : LH
  | _ => none

theorem poly_Sub_eq (a_0 : List RAT) (b_1 : List RAT) : fnF tb (envL e10) Tryd.f10 poly_Sub_lh c10.ps c10.rs (T := (List RAT)) (fun y => (y.2.1)) (a_0, b_1, ()) = poly_Sub a_0 b_1 := by kernel_rfl

abbrev e5 : List (Nat × Ctr) := [(10, c10)]

def poly_Same_lh : LH
  | _ => none

theorem poly_Same_eq (a_0 : List RAT) (b_1 : List RAT) : fnF tb (envL e5) Tryd.f5 poly_Same_lh c5.ps c5.rs (T := Bool) (fun y => (y.2.1)) (a_0, b_1, ()) = poly_Same a_0 b_1 := by kernel_rfl

abbrev e11 : List (Nat × Ctr) := [(23, c23)]

def ratio_One_lh : LH
  | _ => none

theorem ratio_One_eq  : fnF tb (envL e11) Tryd.f11 ratio_One_lh c11.ps c11.rs (T := RAT) (fun y => (y.2.1)) () = ratio_One  := by kernel_rfl

abbrev e24 : List (Nat × Ctr) := [(25, c25), (26, c26)]

def poly_Clean_lh : LH
  | 6 => some ⟨poly_Clean_i3, poly_Clean_o3, lp poly_Clean_s3 K0⟩
  | _ => none

theorem poly_Clean_l3 (g : poly_Clean_i3.V → Option (OT poly_Clean_o3)) (v : poly_Clean_i3.V) : loopStep tb (envL e24) 24 poly_Clean_lh (loopAt 3 (bodyOf Tryd.f24) .skip) poly_Clean_i3 poly_Clean_o3 g v = poly_Clean_s3 g v := by kernel_rfl

theorem poly_Clean_eq (p_0 : List RAT) : fnF tb (envL e24) Tryd.f24 poly_Clean_lh c24.ps c24.rs (T := (List RAT)) (fun y => (y.2.1)) (p_0, ()) = poly_Clean p_0 := by kernel_rfl

abbrev e12 : List (Nat × Ctr) := [(15, c15), (16, c16), (17, c17), (24, c24), (25, c25)]

def poly_Mul_lh : LH
  | 28 => some ⟨poly_Mul_i14, poly_Mul_o14, lp poly_Mul_s14 K0⟩
  | 12 => some ⟨poly_Mul_i6, poly_Mul_o6, lp poly_Mul_s6 K0⟩
  | 22 => some ⟨poly_Mul_i11, poly_Mul_o11, lp poly_Mul_s11 K0⟩
  | _ => none

theorem poly_Mul_l14 (g : poly_Mul_i14.V → Option (OT poly_Mul_o14)) (v : poly_Mul_i14.V) : loopStep tb (envL e12) 73 poly_Mul_lh (loopAt 14 (bodyOf Tryd.f12) .skip) poly_Mul_i14 poly_Mul_o14 g v = poly_Mul_s14 g v := by kernel_rfl

theorem poly_Mul_l6 (g : poly_Mul_i6.V → Option (OT poly_Mul_o6)) (v : poly_Mul_i6.V) : loopStep tb (envL e12) 73 poly_Mul_lh (loopAt 6 (bodyOf Tryd.f12) .skip) poly_Mul_i6 poly_Mul_o6 g v = poly_Mul_s6 g v := by kernel_rfl

theorem poly_Mul_l11 (g : poly_Mul_i11.V → Option (OT poly_Mul_o11)) (v : poly_Mul_i11.V) : loopStep tb (envL e12) 73 poly_Mul_lh (loopAt 11 (bodyOf Tryd.f12) .skip) poly_Mul_i11 poly_Mul_o11 g v = poly_Mul_s11 g v := by kernel_rfl

theorem poly_Mul_eq (a_0 : List RAT) (a_1 : List RAT) : fnF tb (envL e12) Tryd.f12 poly_Mul_lh c12.ps c12.rs (T := (List RAT)) (fun y => (y.2.1)) (a_0, a_1, ()) = poly_Mul a_0 a_1 := by kernel_rfl

abbrev e13 : List (Nat × Ctr) := [(11, c11)]

def linear_factor_lh : LH
  | _ => none

theorem linear_factor_eq (p_0 : PART) : fnF tb (envL e13) Tryd.f13 linear_factor_lh c13.ps c13.rs (T := (List RAT)) (fun y => (y.2.1)) (p_0, ()) = linear_factor p_0 := by kernel_rfl

abbrev e6 : List (Nat × Ctr) := [(11, c11), (12, c12), (13, c13)]

def linear_Leaf_lh : LH
  | 6 => some ⟨linear_Leaf_i3, linear_Leaf_o3, lp linear_Leaf_s3 K0⟩
  | _ => none

theorem linear_Leaf_l3 (g : linear_Leaf_i3.V → Option (OT linear_Leaf_o3)) (v : linear_Leaf_i3.V) : loopStep tb (envL e6) 21 linear_Leaf_lh (loopAt 3 (bodyOf Tryd.f6) .skip) linear_Leaf_i3 linear_Leaf_o3 g v = linear_Leaf_s3 g v := by kernel_rfl

theorem linear_Leaf_eq (l_0 : LEG) : fnF tb (envL e6) Tryd.f6 linear_Leaf_lh c6.ps c6.rs (T := (List RAT)) (fun y => (y.2.1)) (l_0, ()) = linear_Leaf l_0 := by kernel_rfl

abbrev e14 : List (Nat × Ctr) := []

def dendronlaw16_in_lh : LH
  | 4 => some ⟨dendronlaw16_in_i2, dendronlaw16_in_o2, lp dendronlaw16_in_s2 K0⟩
  | _ => none

theorem dendronlaw16_in_l2 (g : dendronlaw16_in_i2.V → Option (OT dendronlaw16_in_o2)) (v : dendronlaw16_in_i2.V) : loopStep tb (envL e14) 16 dendronlaw16_in_lh (loopAt 2 (bodyOf Tryd.f14) .skip) dendronlaw16_in_i2 dendronlaw16_in_o2 g v = dendronlaw16_in_s2 g v := by kernel_rfl

theorem dendronlaw16_in_eq (set_0 : Int) (i_1 : Int) : fnF tb (envL e14) Tryd.f14 dendronlaw16_in_lh c14.ps c14.rs (T := Bool) (fun y => (y.2.1)) (set_0, i_1, ()) = dendronlaw16_in set_0 i_1 := by kernel_rfl

abbrev e7 : List (Nat × Ctr) := [(11, c11), (14, c14), (15, c15), (16, c16), (17, c17)]

def dendronlaw16_sums_lh : LH
  | 28 => some ⟨dendronlaw16_sums_i14, dendronlaw16_sums_o14, lp dendronlaw16_sums_s14 K0⟩
  | 8 => some ⟨dendronlaw16_sums_i4, dendronlaw16_sums_o4, lp dendronlaw16_sums_s4 K0⟩
  | 18 => some ⟨dendronlaw16_sums_i9, dendronlaw16_sums_o9, lp dendronlaw16_sums_s9 K0⟩
  | _ => none

theorem dendronlaw16_sums_l14 (g : dendronlaw16_sums_i14.V → Option (OT dendronlaw16_sums_o14)) (v : dendronlaw16_sums_i14.V) : loopStep tb (envL e7) 64 dendronlaw16_sums_lh (loopAt 14 (bodyOf Tryd.f7) .skip) dendronlaw16_sums_i14 dendronlaw16_sums_o14 g v = dendronlaw16_sums_s14 g v := by kernel_rfl

theorem dendronlaw16_sums_l4 (g : dendronlaw16_sums_i4.V → Option (OT dendronlaw16_sums_o4)) (v : dendronlaw16_sums_i4.V) : loopStep tb (envL e7) 64 dendronlaw16_sums_lh (loopAt 4 (bodyOf Tryd.f7) .skip) dendronlaw16_sums_i4 dendronlaw16_sums_o4 g v = dendronlaw16_sums_s4 g v := by kernel_rfl

theorem dendronlaw16_sums_l9 (g : dendronlaw16_sums_i9.V → Option (OT dendronlaw16_sums_o9)) (v : dendronlaw16_sums_i9.V) : loopStep tb (envL e7) 64 dendronlaw16_sums_lh (loopAt 9 (bodyOf Tryd.f7) .skip) dendronlaw16_sums_i9 dendronlaw16_sums_o9 g v = dendronlaw16_sums_s9 g v := by kernel_rfl

theorem dendronlaw16_sums_eq (parts_0 : List PART) : fnF tb (envL e7) Tryd.f7 dendronlaw16_sums_lh c7.ps c7.rs (T := (List RAT)) (fun y => (y.2.1)) (parts_0, ()) = dendronlaw16_sums parts_0 := by kernel_rfl

abbrev e33 : List (Nat × Ctr) := []

def weigh_New_lh : LH
  | _ => none

theorem weigh_New_eq  : fnFB tb (envL e33) Tryd.f33 weigh_New_lh w33 c33.ps c33.rs (T := Int × Int × Int × (List WH)) (fun y => (y.2.1, y.2.2.1, y.2.2.2.1, y.2.2.2.2.1)) () = weigh_New  := by kernel_rfl

abbrev e71 : List (Nat × Ctr) := [(40, c40), (43, c43)]

def whole_Neg_lh : LH
  | _ => none

theorem whole_Neg_eq (a_0 : WH) : fnF tb (envL e71) Tryd.f71 whole_Neg_lh c71.ps c71.rs (T := WH) (fun y => (y.2.1)) (a_0, ()) = whole_Neg a_0 := by kernel_rfl

abbrev e66 : List (Nat × Ctr) := [(27, c27), (40, c40), (50, c50), (71, c71)]

def ratio_Make_lh : LH
  | _ => none

theorem ratio_Make_eq (num_0 : WH) (den_1 : WH) : fnF tb (envL e66) Tryd.f66 ratio_Make_lh c66.ps c66.rs (T := RAT × Int) (fun y => (y.2.1, y.2.2.1)) (num_0, den_1, ()) = ratio_Make num_0 den_1 := by kernel_rfl

abbrev e74 : List (Nat × Ctr) := [(28, c28), (37, c37)]

def weigh_products_lh : LH
  | 8 => some ⟨weigh_products_i4, weigh_products_o4, lp weigh_products_s4 K0⟩
  | _ => none

theorem weigh_products_l4 (g : weigh_products_i4.V → Option (OT weigh_products_o4)) (v : weigh_products_i4.V) : loopStep tb (envL e74) 21 weigh_products_lh (loopAt 4 (bodyOf Tryd.f74) .skip) weigh_products_i4 weigh_products_o4 g v = weigh_products_s4 g v := by kernel_rfl

theorem weigh_products_eq  : fnF tb (envL e74) Tryd.f74 weigh_products_lh c74.ps c74.rs (T := (List WH)) (fun y => (y.2.1)) () = weigh_products  := by kernel_rfl

abbrev e73 : List (Nat × Ctr) := [(74, c74)]

def weigh_Table_at_c1_lh : LH
  | _ => none

theorem weigh_Table_at_c1_eq (b_0 : Int) (b_1 : Int) (b_2 : Int) (b_3 : List WH) : fnFB tb (envL e73) Tryd.f73 weigh_Table_at_c1_lh w73 c73.ps c73.rs (T := Int × Int × Int × (List WH)) (fun y => (y.2.1, y.2.2.1, y.2.2.2.1, y.2.2.2.2.1)) (b_0, b_1, b_2, b_3, ()) = weigh_Table_at_c1 b_0 b_1 b_2 b_3 := by kernel_rfl

abbrev e61 : List (Nat × Ctr) := [(28, c28), (66, c66), (67, c67)]

def weigh_Table_quotient_lh : LH
  | _ => none

theorem weigh_Table_quotient_eq (a_0 : Int) (b_1 : Int) (c_2 : Int) (b_3 : Int) (b_4 : Int) (b_5 : Int) (b_6 : List WH) : fnFB tb (envL e61) Tryd.f61 weigh_Table_quotient_lh w61 c61.ps c61.rs (T := RAT × Int × Int × Int × (List WH)) (fun y => (y.2.1, y.2.2.1, y.2.2.2.1, y.2.2.2.2.1, y.2.2.2.2.2.1)) (a_0, b_1, c_2, b_3, b_4, b_5, b_6, ()) = weigh_Table_quotient a_0 b_1 c_2 b_3 b_4 b_5 b_6 := by kernel_rfl

abbrev e48 : List (Nat × Ctr) := [(61, c61)]

def weigh_Table_Weight_lh : LH
  | _ => none

theorem weigh_Table_Weight_eq (s_0 : Int) (n_1 : Int) (b_2 : Int) (b_3 : Int) (b_4 : Int) (b_5 : List WH) : fnFB tb (envL e48) Tryd.f48 weigh_Table_Weight_lh w48 c48.ps c48.rs (T := RAT × Int × Int × Int × Int × (List WH)) (fun y => (y.2.1, y.2.2.1, y.2.2.2.1, y.2.2.2.2.1, y.2.2.2.2.2.1, y.2.2.2.2.2.2.1)) (s_0, n_1, b_2, b_3, b_4, b_5, ()) = weigh_Table_Weight s_0 n_1 b_2 b_3 b_4 b_5 := by kernel_rfl

abbrev e34 : List (Nat × Ctr) := [(48, c48)]

def weigh_Table_All_lh : LH
  | 14 => some ⟨weigh_Table_All_i7, weigh_Table_All_o7, lp weigh_Table_All_s7 K0⟩
  | _ => none

theorem weigh_Table_All_l7 (g : weigh_Table_All_i7.V → Option (OT weigh_Table_All_o7)) (v : weigh_Table_All_i7.V) : loopStep tb (envL e34) 35 weigh_Table_All_lh (loopAt 7 (bodyOf Tryd.f34) .skip) weigh_Table_All_i7 weigh_Table_All_o7 g v = weigh_Table_All_s7 g v := by kernel_rfl

theorem weigh_Table_All_eq (n_0 : Int) (b_1 : Int) (b_2 : Int) (b_3 : Int) (b_4 : List WH) : fnFB tb (envL e34) Tryd.f34 weigh_Table_All_lh w34 c34.ps c34.rs (T := (List RAT) × Int × Int × Int × Int × (List WH)) (fun y => (y.2.1, y.2.2.1, y.2.2.2.1, y.2.2.2.2.1, y.2.2.2.2.2.1, y.2.2.2.2.2.2.1)) (n_0, b_1, b_2, b_3, b_4, ()) = weigh_Table_All n_0 b_1 b_2 b_3 b_4 := by kernel_rfl

abbrev e18 : List (Nat × Ctr) := [(15, c15), (16, c16), (17, c17), (33, c33), (34, c34)]

def linear_Weigh_lh : LH
  | 16 => some ⟨linear_Weigh_i8, linear_Weigh_o8, lp linear_Weigh_s8 K0⟩
  | _ => none

theorem linear_Weigh_l8 (g : linear_Weigh_i8.V → Option (OT linear_Weigh_o8)) (v : linear_Weigh_i8.V) : loopStep tb (envL e18) 44 linear_Weigh_lh (loopAt 8 (bodyOf Tryd.f18) .skip) linear_Weigh_i8 linear_Weigh_o8 g v = linear_Weigh_s8 g v := by kernel_rfl

theorem linear_Weigh_eq (p_0 : List RAT) (n_1 : Int) : fnF tb (envL e18) Tryd.f18 linear_Weigh_lh c18.ps c18.rs (T := RAT × Int) (fun y => (y.2.1, y.2.2.1)) (p_0, n_1, ()) = linear_Weigh p_0 n_1 := by kernel_rfl

abbrev e49 : List (Nat × Ctr) := [(40, c40), (46, c46)]

def whole_Cmp_lh : LH
  | _ => none

theorem whole_Cmp_eq (a_0 : WH) (b_1 : WH) : fnF tb (envL e49) Tryd.f49 whole_Cmp_lh c49.ps c49.rs (T := Int) (fun y => (y.2.1)) (a_0, b_1, ()) = whole_Cmp a_0 b_1 := by kernel_rfl

abbrev e35 : List (Nat × Ctr) := [(26, c26), (28, c28), (32, c32), (49, c49)]

def ratio_Cmp_lh : LH
  | _ => none

theorem ratio_Cmp_eq (a_0 : RAT) (b_1 : RAT) : fnF tb (envL e35) Tryd.f35 ratio_Cmp_lh c35.ps c35.rs (T := Int) (fun y => (y.2.1)) (a_0, b_1, ()) = ratio_Cmp a_0 b_1 := by kernel_rfl

abbrev e19 : List (Nat × Ctr) := [(35, c35)]

def ratio_Same_lh : LH
  | _ => none

theorem ratio_Same_eq (a_0 : RAT) (b_1 : RAT) : fnF tb (envL e19) Tryd.f19 ratio_Same_lh c19.ps c19.rs (T := Bool) (fun y => (y.2.1)) (a_0, b_1, ()) = ratio_Same a_0 b_1 := by kernel_rfl

abbrev e8 : List (Nat × Ctr) := [(11, c11), (18, c18), (19, c19)]

def dendronlaw16_awake_lh : LH
  | _ => none

theorem dendronlaw16_awake_eq  : fnF tb (envL e8) Tryd.f8 dendronlaw16_awake_lh c8.ps c8.rs (T := Bool) (fun y => (y.2.1)) () = dendronlaw16_awake  := by kernel_rfl

abbrev e3 : List (Nat × Ctr) := [(4, c4), (5, c5), (6, c6), (7, c7), (8, c8)]

def dendronlaw16_LinearLeaves_lh : LH
  | _ => none

theorem dendronlaw16_LinearLeaves_eq (l_0 : LEG) : fnF tb (envL e3) Tryd.f3 dendronlaw16_LinearLeaves_lh c3.ps c3.rs (T := Bool) (fun y => (y.2.1)) (l_0, ()) = dendronlaw16_LinearLeaves l_0 := by kernel_rfl
end Go.Proofs.YtaonkcmflkmncaaDoor.X

