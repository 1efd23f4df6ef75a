/- Each function answers so. Printed by a program of our own. -/
import Derived.Test.YtflagjfdamgknaaDoorLa5

namespace Go.Proofs.YtflagjfdamgknaaDoor.X
open Go
set_option linter.unusedVariables false
set_option maxRecDepth 100000

abbrev e45 : List (Nat × Ctr) := []

def dendronlaw07_number_lh : LH
  | _ => none

theorem dendronlaw07_number_eq (a_0 : RAT) : fnF tb (envL e45) Tryd.f45 dendronlaw07_number_lh c45.ps c45.rs (T := RAT) (fun y => (y.2.1)) (a_0, ()) = dendronlaw07_number a_0 := by kernel_rfl

abbrev e11 : List (Nat × Ctr) := [(45, c45)]

def dendronlaw07_Few_lh : LH
  | 14 => some ⟨dendronlaw07_Few_i7, dendronlaw07_Few_o7, lp dendronlaw07_Few_s7 K0⟩
  | 6 => some ⟨dendronlaw07_Few_i3, dendronlaw07_Few_o3, lp dendronlaw07_Few_s3 K0⟩
  | _ => none

theorem dendronlaw07_Few_l7 (g : dendronlaw07_Few_i7.V → Option (OT dendronlaw07_Few_o7)) (v : dendronlaw07_Few_i7.V) : loopStep tb (envL e11) 67 dendronlaw07_Few_lh (loopAt 7 (bodyOf Tryd.f11) .skip) dendronlaw07_Few_i7 dendronlaw07_Few_o7 g v = dendronlaw07_Few_s7 g v := by kernel_rfl

theorem dendronlaw07_Few_l3 (g : dendronlaw07_Few_i3.V → Option (OT dendronlaw07_Few_o3)) (v : dendronlaw07_Few_i3.V) : loopStep tb (envL e11) 67 dendronlaw07_Few_lh (loopAt 3 (bodyOf Tryd.f11) .skip) dendronlaw07_Few_i3 dendronlaw07_Few_o3 g v = dendronlaw07_Few_s3 g v := by kernel_rfl

theorem dendronlaw07_Few_eq (a_0 : MODEL) : fnF tb (envL e11) Tryd.f11 dendronlaw07_Few_lh c11.ps c11.rs (T := MODEL) (fun y => (y.2.1)) (a_0, ()) = dendronlaw07_Few a_0 := by kernel_rfl

abbrev e46 : List (Nat × Ctr) := []

def dendronlaw09_number_lh : LH
  | _ => none

theorem dendronlaw09_number_eq (a_0 : RAT) : fnF tb (envL e46) Tryd.f46 dendronlaw09_number_lh c46.ps c46.rs (T := RAT) (fun y => (y.2.1)) (a_0, ()) = dendronlaw09_number a_0 := by kernel_rfl

abbrev e12 : List (Nat × Ctr) := [(46, c46)]

def dendronlaw09_Few_lh : LH
  | 6 => some ⟨dendronlaw09_Few_i3, dendronlaw09_Few_o3, lp dendronlaw09_Few_s3 K0⟩
  | _ => none

theorem dendronlaw09_Few_l3 (g : dendronlaw09_Few_i3.V → Option (OT dendronlaw09_Few_o3)) (v : dendronlaw09_Few_i3.V) : loopStep tb (envL e12) 32 dendronlaw09_Few_lh (loopAt 3 (bodyOf Tryd.f12) .skip) dendronlaw09_Few_i3 dendronlaw09_Few_o3 g v = dendronlaw09_Few_s3 g v := by kernel_rfl

theorem dendronlaw09_Few_eq (l_0 : List CELL) (n_1 : Int) : fnF tb (envL e12) Tryd.f12 dendronlaw09_Few_lh c12.ps c12.rs (T := (List CELL)) (fun y => (y.2.1)) (l_0, n_1, ()) = dendronlaw09_Few l_0 n_1 := by kernel_rfl

abbrev e96 : List (Nat × Ctr) := []

def nat_trim_lh : LH
  | 4 => some ⟨nat_trim_i2, nat_trim_o2, lp nat_trim_s2 K0⟩
  | _ => none

theorem nat_trim_l2 (g : nat_trim_i2.V → Option (OT nat_trim_o2)) (v : nat_trim_i2.V) : loopStep tb (envL e96) 23 nat_trim_lh (loopAt 2 (bodyOf Tryd.f96) .skip) nat_trim_i2 nat_trim_o2 g v = nat_trim_s2 g v := by kernel_rfl

theorem nat_trim_eq (a_0 : List Int) : fnF tb (envL e96) Tryd.f96 nat_trim_lh c96.ps c96.rs (T := (List Int)) (fun y => (y.2.1)) (a_0, ()) = nat_trim a_0 := by kernel_rfl

abbrev e62 : List (Nat × Ctr) := [(96, c96)]

def nat_Of_lh : LH
  | _ => none

theorem nat_Of_eq (n_0 : Int) : fnF tb (envL e62) Tryd.f62 nat_Of_lh c62.ps c62.rs (T := (List Int)) (fun y => (y.2.1)) (n_0, ()) = nat_Of n_0 := by kernel_rfl

abbrev e33 : List (Nat × Ctr) := [(62, c62)]

def ratio_Zero_lh : LH
  | _ => none

theorem ratio_Zero_eq  : fnF tb (envL e33) Tryd.f33 ratio_Zero_lh c33.ps c33.rs (T := RAT) (fun y => (y.2.1)) () = ratio_Zero  := by kernel_rfl

abbrev e81 : List (Nat × Ctr) := [(96, c96)]

def nat_Clean_lh : LH
  | 6 => some ⟨nat_Clean_i3, nat_Clean_o3, lp nat_Clean_s3 K0⟩
  | _ => none

theorem nat_Clean_l3 (g : nat_Clean_i3.V → Option (OT nat_Clean_o3)) (v : nat_Clean_i3.V) : loopStep tb (envL e81) 24 nat_Clean_lh (loopAt 3 (bodyOf Tryd.f81) .skip) nat_Clean_i3 nat_Clean_o3 g v = nat_Clean_s3 g v := by kernel_rfl

theorem nat_Clean_eq (a_0 : List Int) : fnF tb (envL e81) Tryd.f81 nat_Clean_lh c81.ps c81.rs (T := (List Int)) (fun y => (y.2.1)) (a_0, ()) = nat_Clean a_0 := by kernel_rfl

abbrev e117 : List (Nat × Ctr) := [(81, c81)]

def nat_To_lh : LH
  | _ => none

theorem nat_To_eq (a_0 : List Int) : fnF tb (envL e117) Tryd.f117 nat_To_lh c117.ps c117.rs (T := Int × Bool) (fun y => (y.2.1, y.2.2.1)) (a_0, ()) = nat_To a_0 := by kernel_rfl

abbrev e89 : List (Nat × Ctr) := [(62, c62), (117, c117)]

def nat_euclid_lh : LH
  | 6 => some ⟨nat_euclid_i3, nat_euclid_o3, lp nat_euclid_s3 K0⟩
  | _ => none

theorem nat_euclid_l3 (g : nat_euclid_i3.V → Option (OT nat_euclid_o3)) (v : nat_euclid_i3.V) : loopStep tb (envL e89) 27 nat_euclid_lh (loopAt 3 (bodyOf Tryd.f89) .skip) nat_euclid_i3 nat_euclid_o3 g v = nat_euclid_s3 g v := by kernel_rfl

theorem nat_euclid_eq (a_0 : List Int) (b_1 : List Int) : fnF tb (envL e89) Tryd.f89 nat_euclid_lh c89.ps c89.rs (T := (List Int)) (fun y => (y.2.1)) (a_0, b_1, ()) = nat_euclid a_0 b_1 := by kernel_rfl

abbrev e90 : List (Nat × Ctr) := [(118, c118)]

def nat_zeros_lh : LH
  | 6 => some ⟨nat_zeros_i3, nat_zeros_o3, lp nat_zeros_s3 K0⟩
  | _ => none

theorem nat_zeros_l3 (g : nat_zeros_i3.V → Option (OT nat_zeros_o3)) (v : nat_zeros_i3.V) : loopStep tb (envL e90) 24 nat_zeros_lh (loopAt 3 (bodyOf Tryd.f90) .skip) nat_zeros_i3 nat_zeros_o3 g v = nat_zeros_s3 g v := by kernel_rfl

theorem nat_zeros_eq (a_0 : List Int) : fnF tb (envL e90) Tryd.f90 nat_zeros_lh c90.ps c90.rs (T := Int) (fun y => (y.2.1)) (a_0, ()) = nat_zeros a_0 := by kernel_rfl

abbrev e119 : List (Nat × Ctr) := []

def nat_limb_lh : LH
  | _ => none

theorem nat_limb_eq (a_0 : List Int) (i_1 : Int) : fnF tb (envL e119) Tryd.f119 nat_limb_lh c119.ps c119.rs (T := Int) (fun y => (y.2.1)) (a_0, i_1, ()) = nat_limb a_0 i_1 := by kernel_rfl

abbrev e91 : List (Nat × Ctr) := [(96, c96), (119, c119)]

def nat_shr_lh : LH
  | 12 => some ⟨nat_shr_i6, nat_shr_o6, lp nat_shr_s6 K0⟩
  | _ => none

theorem nat_shr_l6 (g : nat_shr_i6.V → Option (OT nat_shr_o6)) (v : nat_shr_i6.V) : loopStep tb (envL e91) 50 nat_shr_lh (loopAt 6 (bodyOf Tryd.f91) .skip) nat_shr_i6 nat_shr_o6 g v = nat_shr_s6 g v := by kernel_rfl

theorem nat_shr_eq (a_0 : List Int) (n_1 : Int) : fnF tb (envL e91) Tryd.f91 nat_shr_lh c91.ps c91.rs (T := (List Int)) (fun y => (y.2.1)) (a_0, n_1, ()) = nat_shr a_0 n_1 := by kernel_rfl

abbrev e92 : List (Nat × Ctr) := []

def nat_order_lh : LH
  | 12 => some ⟨nat_order_i6, nat_order_o6, lp nat_order_s6 K0⟩
  | _ => none

theorem nat_order_l6 (g : nat_order_i6.V → Option (OT nat_order_o6)) (v : nat_order_i6.V) : loopStep tb (envL e92) 45 nat_order_lh (loopAt 6 (bodyOf Tryd.f92) .skip) nat_order_i6 nat_order_o6 g v = nat_order_s6 g v := by kernel_rfl

theorem nat_order_eq (a_0 : List Int) (b_1 : List Int) : fnF tb (envL e92) Tryd.f92 nat_order_lh c92.ps c92.rs (T := Int) (fun y => (y.2.1)) (a_0, b_1, ()) = nat_order a_0 b_1 := by kernel_rfl

abbrev e93 : List (Nat × Ctr) := [(96, c96)]

def nat_shl_lh : LH
  | 8 => some ⟨nat_shl_i4, nat_shl_o4, lp nat_shl_s4 K0⟩
  | _ => none

theorem nat_shl_l4 (g : nat_shl_i4.V → Option (OT nat_shl_o4)) (v : nat_shl_i4.V) : loopStep tb (envL e93) 51 nat_shl_lh (loopAt 4 (bodyOf Tryd.f93) .skip) nat_shl_i4 nat_shl_o4 g v = nat_shl_s4 g v := by kernel_rfl

theorem nat_shl_eq (a_0 : List Int) (n_1 : Int) : fnF tb (envL e93) Tryd.f93 nat_shl_lh c93.ps c93.rs (T := (List Int)) (fun y => (y.2.1)) (a_0, n_1, ()) = nat_shl a_0 n_1 := by kernel_rfl

abbrev e120 : List (Nat × Ctr) := [(96, c96)]

def nat_small_lh : LH
  | 8 => some ⟨nat_small_i4, nat_small_o4, lp nat_small_s4 K0⟩
  | _ => none

theorem nat_small_l4 (g : nat_small_i4.V → Option (OT nat_small_o4)) (v : nat_small_i4.V) : loopStep tb (envL e120) 38 nat_small_lh (loopAt 4 (bodyOf Tryd.f120) .skip) nat_small_i4 nat_small_o4 g v = nat_small_s4 g v := by kernel_rfl

theorem nat_small_eq (a_0 : List Int) (d_1 : Int) : fnF tb (envL e120) Tryd.f120 nat_small_lh c120.ps c120.rs (T := (List Int) × Int) (fun y => (y.2.1, y.2.2.1)) (a_0, d_1, ()) = nat_small a_0 d_1 := by kernel_rfl

abbrev e127 : List (Nat × Ctr) := [(130, c130)]

def bits_LeadingZeros32_lh : LH
  | _ => none

theorem bits_LeadingZeros32_eq (x_0 : Int) : fnF tb (envL e127) Tryd.f127 bits_LeadingZeros32_lh c127.ps c127.rs (T := Int) (fun y => (y.2.1)) (x_0, ()) = bits_LeadingZeros32 x_0 := by kernel_rfl

abbrev e131 : List (Nat × Ctr) := [(119, c119)]

def nat_take_lh : LH
  | 6 => some ⟨nat_take_i3, nat_take_o3, lp nat_take_s3 K0⟩
  | _ => none

theorem nat_take_l3 (g : nat_take_i3.V → Option (OT nat_take_o3)) (v : nat_take_i3.V) : loopStep tb (envL e131) 46 nat_take_lh (loopAt 3 (bodyOf Tryd.f131) .skip) nat_take_i3 nat_take_o3 g v = nat_take_s3 g v := by kernel_rfl

theorem nat_take_eq (u_0 : List Int) (v_1 : List Int) (times_2 : Int) : fnF tb (envL e131) Tryd.f131 nat_take_lh c131.ps c131.rs (T := (List Int) × Bool) (fun y => (y.1.1, y.2.1)) (u_0, v_1, times_2, ()) = nat_take u_0 v_1 times_2 := by kernel_rfl

abbrev e132 : List (Nat × Ctr) := [(119, c119)]

def nat_give_lh : LH
  | 4 => some ⟨nat_give_i2, nat_give_o2, lp nat_give_s2 K0⟩
  | _ => none

theorem nat_give_l2 (g : nat_give_i2.V → Option (OT nat_give_o2)) (v : nat_give_i2.V) : loopStep tb (envL e132) 29 nat_give_lh (loopAt 2 (bodyOf Tryd.f132) .skip) nat_give_i2 nat_give_o2 g v = nat_give_s2 g v := by kernel_rfl

theorem nat_give_eq (u_0 : List Int) (v_1 : List Int) : fnF tb (envL e132) Tryd.f132 nat_give_lh c132.ps c132.rs (T := (List Int)) (fun y => (y.1.1)) (u_0, v_1, ()) = nat_give u_0 v_1 := by kernel_rfl

abbrev e128 : List (Nat × Ctr) := [(131, c131), (132, c132)]

def nat_digit_lh : LH
  | 8 => some ⟨nat_digit_i4, nat_digit_o4, lp nat_digit_s4 K0⟩
  | _ => none

theorem nat_digit_l4 (g : nat_digit_i4.V → Option (OT nat_digit_o4)) (v : nat_digit_i4.V) : loopStep tb (envL e128) 77 nat_digit_lh (loopAt 4 (bodyOf Tryd.f128) .skip) nat_digit_i4 nat_digit_o4 g v = nat_digit_s4 g v := by kernel_rfl

theorem nat_digit_eq (a_0 : List Int) (a_1 : List Int) : fnF tb (envL e128) Tryd.f128 nat_digit_lh c128.ps c128.rs (T := (List Int) × Int) (fun y => (y.1.1, y.2.1)) (a_0, a_1, ()) = nat_digit a_0 a_1 := by kernel_rfl

abbrev e121 : List (Nat × Ctr) := [(91, c91), (93, c93), (96, c96), (127, c127), (128, c128)]

def nat_long_lh : LH
  | 14 => some ⟨nat_long_i7, nat_long_o7, lp nat_long_s7 K0⟩
  | _ => none

theorem nat_long_l7 (g : nat_long_i7.V → Option (OT nat_long_o7)) (v : nat_long_i7.V) : loopStep tb (envL e121) 64 nat_long_lh (loopAt 7 (bodyOf Tryd.f121) .skip) nat_long_i7 nat_long_o7 g v = nat_long_s7 g v := by kernel_rfl

theorem nat_long_eq (a_0 : List Int) (b_1 : List Int) : fnF tb (envL e121) Tryd.f121 nat_long_lh c121.ps c121.rs (T := (List Int) × (List Int)) (fun y => (y.2.1, y.2.2.1)) (a_0, b_1, ()) = nat_long a_0 b_1 := by kernel_rfl

abbrev e99 : List (Nat × Ctr) := [(62, c62), (81, c81), (92, c92), (120, c120), (121, c121)]

def nat_DivMod_lh : LH
  | _ => none

theorem nat_DivMod_eq (a_0 : List Int) (b_1 : List Int) : fnF tb (envL e99) Tryd.f99 nat_DivMod_lh c99.ps c99.rs (T := (List Int) × (List Int) × Int) (fun y => (y.2.1, y.2.2.1, y.2.2.2.1)) (a_0, b_1, ()) = nat_DivMod a_0 b_1 := by kernel_rfl

abbrev e94 : List (Nat × Ctr) := [(99, c99)]

def nat_rest_lh : LH
  | _ => none

theorem nat_rest_eq (a_0 : List Int) (b_1 : List Int) : fnF tb (envL e94) Tryd.f94 nat_rest_lh c94.ps c94.rs (T := (List Int) × (List Int)) (fun y => (y.2.1, y.2.2.1)) (a_0, b_1, ()) = nat_rest a_0 b_1 := by kernel_rfl

abbrev e95 : List (Nat × Ctr) := [(96, c96), (119, c119)]

def nat_minus_lh : LH
  | 8 => some ⟨nat_minus_i4, nat_minus_o4, lp nat_minus_s4 K0⟩
  | _ => none

theorem nat_minus_l4 (g : nat_minus_i4.V → Option (OT nat_minus_o4)) (v : nat_minus_i4.V) : loopStep tb (envL e95) 39 nat_minus_lh (loopAt 4 (bodyOf Tryd.f95) .skip) nat_minus_i4 nat_minus_o4 g v = nat_minus_s4 g v := by kernel_rfl

theorem nat_minus_eq (a_0 : List Int) (b_1 : List Int) : fnF tb (envL e95) Tryd.f95 nat_minus_lh c95.ps c95.rs (T := (List Int)) (fun y => (y.2.1)) (a_0, b_1, ()) = nat_minus a_0 b_1 := by kernel_rfl

abbrev e60 : List (Nat × Ctr) := [(81, c81), (89, c89), (90, c90), (91, c91), (92, c92), (93, c93), (94, c94), (95, c95)]

def nat_Gcd_lh : LH
  | 20 => some ⟨nat_Gcd_i10, nat_Gcd_o10, lp nat_Gcd_s10 K0⟩
  | _ => none

theorem nat_Gcd_l10 (g : nat_Gcd_i10.V → Option (OT nat_Gcd_o10)) (v : nat_Gcd_i10.V) : loopStep tb (envL e60) 86 nat_Gcd_lh (loopAt 10 (bodyOf Tryd.f60) .skip) nat_Gcd_i10 nat_Gcd_o10 g v = nat_Gcd_s10 g v := by kernel_rfl

theorem nat_Gcd_eq (a_0 : List Int) (a_1 : List Int) : fnF tb (envL e60) Tryd.f60 nat_Gcd_lh c60.ps c60.rs (T := (List Int)) (fun y => (y.2.1)) (a_0, a_1, ()) = nat_Gcd a_0 a_1 := by kernel_rfl

abbrev e68 : List (Nat × Ctr) := [(60, c60), (62, c62), (99, c99)]

def ratio_form_lh : LH
  | _ => none

theorem ratio_form_eq (num_0 : WH) (den_1 : List Int) : fnF tb (envL e68) Tryd.f68 ratio_form_lh c68.ps c68.rs (T := RAT) (fun y => (y.2.1)) (num_0, den_1, ()) = ratio_form num_0 den_1 := by kernel_rfl

abbrev e97 : List (Nat × Ctr) := []

def whole_sign_lh : LH
  | _ => none

theorem whole_sign_eq (neg_0 : Bool) (abs_1 : List Int) : fnF tb (envL e97) Tryd.f97 whole_sign_lh c97.ps c97.rs (T := WH) (fun y => (y.2.1)) (neg_0, abs_1, ()) = whole_sign neg_0 abs_1 := by kernel_rfl

abbrev e82 : List (Nat × Ctr) := [(81, c81), (97, c97)]

def whole_Clean_lh : LH
  | _ => none

theorem whole_Clean_eq (a_0 : WH) : fnF tb (envL e82) Tryd.f82 whole_Clean_lh c82.ps c82.rs (T := WH) (fun y => (y.2.1)) (a_0, ()) = whole_Clean a_0 := by kernel_rfl

abbrev e56 : List (Nat × Ctr) := [(33, c33), (68, c68), (81, c81), (82, c82)]

def ratio_Clean_lh : LH
  | _ => none

theorem ratio_Clean_eq (a_0 : RAT) : fnF tb (envL e56) Tryd.f56 ratio_Clean_lh c56.ps c56.rs (T := RAT) (fun y => (y.2.1)) (a_0, ()) = ratio_Clean a_0 := by kernel_rfl

abbrev e61 : List (Nat × Ctr) := [(81, c81), (92, c92)]

def nat_Cmp_lh : LH
  | _ => none

theorem nat_Cmp_eq (a_0 : List Int) (b_1 : List Int) : fnF tb (envL e61) Tryd.f61 nat_Cmp_lh c61.ps c61.rs (T := Int) (fun y => (y.2.1)) (a_0, b_1, ()) = nat_Cmp a_0 b_1 := by kernel_rfl

abbrev e63 : List (Nat × Ctr) := [(61, c61), (82, c82)]

def whole_Cmp_lh : LH
  | _ => none

theorem whole_Cmp_eq (a_0 : WH) (b_1 : WH) : fnF tb (envL e63) Tryd.f63 whole_Cmp_lh c63.ps c63.rs (T := Int) (fun y => (y.2.1)) (a_0, b_1, ()) = whole_Cmp a_0 b_1 := by kernel_rfl

abbrev e69 : List (Nat × Ctr) := [(81, c81), (96, c96)]

def nat_Mul_lh : LH
  | 16 => some ⟨nat_Mul_i8, nat_Mul_o8, lp nat_Mul_s8 K0⟩
  | 8 => some ⟨nat_Mul_i4, nat_Mul_o4, lp nat_Mul_s4 K0⟩
  | _ => none

theorem nat_Mul_l8 (g : nat_Mul_i8.V → Option (OT nat_Mul_o8)) (v : nat_Mul_i8.V) : loopStep tb (envL e69) 67 nat_Mul_lh (loopAt 8 (bodyOf Tryd.f69) .skip) nat_Mul_i8 nat_Mul_o8 g v = nat_Mul_s8 g v := by kernel_rfl

theorem nat_Mul_l4 (g : nat_Mul_i4.V → Option (OT nat_Mul_o4)) (v : nat_Mul_i4.V) : loopStep tb (envL e69) 67 nat_Mul_lh (loopAt 4 (bodyOf Tryd.f69) .skip) nat_Mul_i4 nat_Mul_o4 g v = nat_Mul_s4 g v := by kernel_rfl

theorem nat_Mul_eq (a_0 : List Int) (a_1 : List Int) : fnF tb (envL e69) Tryd.f69 nat_Mul_lh c69.ps c69.rs (T := (List Int)) (fun y => (y.2.1)) (a_0, a_1, ()) = nat_Mul a_0 a_1 := by kernel_rfl

abbrev e64 : List (Nat × Ctr) := [(69, c69), (82, c82), (97, c97)]

def whole_Mul_lh : LH
  | _ => none

theorem whole_Mul_eq (a_0 : WH) (b_1 : WH) : fnF tb (envL e64) Tryd.f64 whole_Mul_lh c64.ps c64.rs (T := WH) (fun y => (y.2.1)) (a_0, b_1, ()) = whole_Mul a_0 b_1 := by kernel_rfl

abbrev e65 : List (Nat × Ctr) := []

def ratio_den_lh : LH
  | _ => none

theorem ratio_den_eq (a_0 : RAT) : fnF tb (envL e65) Tryd.f65 ratio_den_lh c65.ps c65.rs (T := WH) (fun y => (y.2.1)) (a_0, ()) = ratio_den a_0 := by kernel_rfl

abbrev e30 : List (Nat × Ctr) := [(56, c56), (63, c63), (64, c64), (65, c65)]

def ratio_Cmp_lh : LH
  | _ => none

theorem ratio_Cmp_eq (a_0 : RAT) (b_1 : RAT) : fnF tb (envL e30) Tryd.f30 ratio_Cmp_lh c30.ps c30.rs (T := Int) (fun y => (y.2.1)) (a_0, b_1, ()) = ratio_Cmp a_0 b_1 := by kernel_rfl

abbrev e47 : List (Nat × Ctr) := [(30, c30)]

def route_goes_lh : LH
  | _ => none

theorem route_goes_eq (n_0 : NODE) (c_1 : CELL) : fnF tb (envL e47) Tryd.f47 route_goes_lh c47.ps c47.rs (T := Bool) (fun y => (y.2.1)) (n_0, c_1, ()) = route_goes n_0 c_1 := by kernel_rfl

abbrev e13 : List (Nat × Ctr) := [(47, c47)]

def route_Left_lh : LH
  | _ => none

theorem route_Left_eq (n_0 : NODE) (c_1 : CELL) : fnF tb (envL e13) Tryd.f13 route_Left_lh c13.ps c13.rs (T := Bool) (fun y => (y.2.1)) (n_0, c_1, ()) = route_Left n_0 c_1 := by kernel_rfl

abbrev e14 : List (Nat × Ctr) := [(30, c30)]

def dendronlaw10_left_lh : LH
  | _ => none

theorem dendronlaw10_left_eq (n_0 : NODE) (c_1 : CELL) : fnF tb (envL e14) Tryd.f14 dendronlaw10_left_lh c14.ps c14.rs (T := Bool) (fun y => (y.2.1)) (n_0, c_1, ()) = dendronlaw10_left n_0 c_1 := by kernel_rfl

abbrev e83 : List (Nat × Ctr) := []

def model_Fits_lh : LH
  | 18 => some ⟨model_Fits_i9, model_Fits_o9, lp model_Fits_s9 K0⟩
  | 8 => some ⟨model_Fits_i4, model_Fits_o4, lp model_Fits_s4 K0⟩
  | _ => none

theorem model_Fits_l9 (g : model_Fits_i9.V → Option (OT model_Fits_o9)) (v : model_Fits_i9.V) : loopStep tb (envL e83) 72 model_Fits_lh (loopAt 9 (bodyOf Tryd.f83) .skip) model_Fits_i9 model_Fits_o9 g v = model_Fits_s9 g v := by kernel_rfl

theorem model_Fits_l4 (g : model_Fits_i4.V → Option (OT model_Fits_o4)) (v : model_Fits_i4.V) : loopStep tb (envL e83) 72 model_Fits_lh (loopAt 4 (bodyOf Tryd.f83) .skip) model_Fits_i4 model_Fits_o4 g v = model_Fits_s4 g v := by kernel_rfl

theorem model_Fits_eq (a_0 : MODEL) : fnF tb (envL e83) Tryd.f83 model_Fits_lh c83.ps c83.rs (T := Bool) (fun y => (y.2.1)) (a_0, ()) = model_Fits a_0 := by kernel_rfl

abbrev e84 : List (Nat × Ctr) := []

def valid_ranges_lh : LH
  | 4 => some ⟨valid_ranges_i2, valid_ranges_o2, lp valid_ranges_s2 K0⟩
  | _ => none

theorem valid_ranges_l2 (g : valid_ranges_i2.V → Option (OT valid_ranges_o2)) (v : valid_ranges_i2.V) : loopStep tb (envL e84) 52 valid_ranges_lh (loopAt 2 (bodyOf Tryd.f84) .skip) valid_ranges_i2 valid_ranges_o2 g v = valid_ranges_s2 g v := by kernel_rfl

theorem valid_ranges_eq (t_0 : List NODE) (features_1 : Int) : fnF tb (envL e84) Tryd.f84 valid_ranges_lh c84.ps c84.rs (T := Int × Int) (fun y => (y.2.1, y.2.2.1)) (t_0, features_1, ()) = valid_ranges t_0 features_1 := by kernel_rfl

abbrev e85 : List (Nat × Ctr) := []

def valid_shape_lh : LH
  | 6 => some ⟨valid_shape_i3, valid_shape_o3, lp valid_shape_s3 K0⟩
  | 20 => some ⟨valid_shape_i10, valid_shape_o10, lp valid_shape_s10 K0⟩
  | 34 => some ⟨valid_shape_i17, valid_shape_o17, lp valid_shape_s17 K0⟩
  | 50 => some ⟨valid_shape_i25, valid_shape_o25, lp valid_shape_s25 K0⟩
  | _ => none

theorem valid_shape_l3 (g : valid_shape_i3.V → Option (OT valid_shape_o3)) (v : valid_shape_i3.V) : loopStep tb (envL e85) 103 valid_shape_lh (loopAt 3 (bodyOf Tryd.f85) .skip) valid_shape_i3 valid_shape_o3 g v = valid_shape_s3 g v := by kernel_rfl

theorem valid_shape_l10 (g : valid_shape_i10.V → Option (OT valid_shape_o10)) (v : valid_shape_i10.V) : loopStep tb (envL e85) 103 valid_shape_lh (loopAt 10 (bodyOf Tryd.f85) .skip) valid_shape_i10 valid_shape_o10 g v = valid_shape_s10 g v := by kernel_rfl

theorem valid_shape_l17 (g : valid_shape_i17.V → Option (OT valid_shape_o17)) (v : valid_shape_i17.V) : loopStep tb (envL e85) 103 valid_shape_lh (loopAt 17 (bodyOf Tryd.f85) .skip) valid_shape_i17 valid_shape_o17 g v = valid_shape_s17 g v := by kernel_rfl

theorem valid_shape_l25 (g : valid_shape_i25.V → Option (OT valid_shape_o25)) (v : valid_shape_i25.V) : loopStep tb (envL e85) 103 valid_shape_lh (loopAt 25 (bodyOf Tryd.f85) .skip) valid_shape_i25 valid_shape_o25 g v = valid_shape_s25 g v := by kernel_rfl

theorem valid_shape_eq (a_0 : List NODE) : fnF tb (envL e85) Tryd.f85 valid_shape_lh c85.ps c85.rs (T := Int × Int) (fun y => (y.2.1, y.2.2.1)) (a_0, ()) = valid_shape a_0 := by kernel_rfl

abbrev e102 : List (Nat × Ctr) := [(82, c82)]

def whole_Sign_lh : LH
  | _ => none

theorem whole_Sign_eq (a_0 : WH) : fnF tb (envL e102) Tryd.f102 whole_Sign_lh c102.ps c102.rs (T := Int) (fun y => (y.2.1)) (a_0, ()) = whole_Sign a_0 := by kernel_rfl

abbrev e116 : List (Nat × Ctr) := [(56, c56), (102, c102)]

def ratio_Sign_lh : LH
  | _ => none

theorem ratio_Sign_eq (a_0 : RAT) : fnF tb (envL e116) Tryd.f116 ratio_Sign_lh c116.ps c116.rs (T := Int) (fun y => (y.2.1)) (a_0, ()) = ratio_Sign a_0 := by kernel_rfl

abbrev e86 : List (Nat × Ctr) := [(116, c116)]

def valid_covers_lh : LH
  | 4 => some ⟨valid_covers_i2, valid_covers_o2, lp valid_covers_s2 K0⟩
  | _ => none

theorem valid_covers_l2 (g : valid_covers_i2.V → Option (OT valid_covers_o2)) (v : valid_covers_i2.V) : loopStep tb (envL e86) 19 valid_covers_lh (loopAt 2 (bodyOf Tryd.f86) .skip) valid_covers_i2 valid_covers_o2 g v = valid_covers_s2 g v := by kernel_rfl

theorem valid_covers_eq (t_0 : List NODE) : fnF tb (envL e86) Tryd.f86 valid_covers_lh c86.ps c86.rs (T := Int × Int) (fun y => (y.2.1, y.2.2.1)) (t_0, ()) = valid_covers t_0 := by kernel_rfl

abbrev e36 : List (Nat × Ctr) := [(30, c30)]

def ratio_Same_lh : LH
  | _ => none

theorem ratio_Same_eq (a_0 : RAT) (b_1 : RAT) : fnF tb (envL e36) Tryd.f36 ratio_Same_lh c36.ps c36.rs (T := Bool) (fun y => (y.2.1)) (a_0, b_1, ()) = ratio_Same a_0 b_1 := by kernel_rfl

abbrev e103 : List (Nat × Ctr) := [(81, c81), (96, c96), (119, c119)]

def nat_Add_lh : LH
  | 10 => some ⟨nat_Add_i5, nat_Add_o5, lp nat_Add_s5 K0⟩
  | _ => none

theorem nat_Add_l5 (g : nat_Add_i5.V → Option (OT nat_Add_o5)) (v : nat_Add_i5.V) : loopStep tb (envL e103) 43 nat_Add_lh (loopAt 5 (bodyOf Tryd.f103) .skip) nat_Add_i5 nat_Add_o5 g v = nat_Add_s5 g v := by kernel_rfl

theorem nat_Add_eq (a_0 : List Int) (b_1 : List Int) : fnF tb (envL e103) Tryd.f103 nat_Add_lh c103.ps c103.rs (T := (List Int)) (fun y => (y.2.1)) (a_0, b_1, ()) = nat_Add a_0 b_1 := by kernel_rfl

abbrev e104 : List (Nat × Ctr) := [(81, c81), (92, c92), (95, c95)]

def nat_Sub_lh : LH
  | _ => none

theorem nat_Sub_eq (a_0 : List Int) (b_1 : List Int) : fnF tb (envL e104) Tryd.f104 nat_Sub_lh c104.ps c104.rs (T := (List Int) × Int) (fun y => (y.2.1, y.2.2.1)) (a_0, b_1, ()) = nat_Sub a_0 b_1 := by kernel_rfl

abbrev e75 : List (Nat × Ctr) := [(61, c61), (82, c82), (97, c97), (103, c103), (104, c104)]

def whole_Add_lh : LH
  | _ => none

theorem whole_Add_eq (a_0 : WH) (b_1 : WH) : fnF tb (envL e75) Tryd.f75 whole_Add_lh c75.ps c75.rs (T := WH) (fun y => (y.2.1)) (a_0, b_1, ()) = whole_Add a_0 b_1 := by kernel_rfl

abbrev e50 : List (Nat × Ctr) := [(56, c56), (64, c64), (65, c65), (68, c68), (69, c69), (75, c75)]

def ratio_Add_lh : LH
  | _ => none

theorem ratio_Add_eq (a_0 : RAT) (b_1 : RAT) : fnF tb (envL e50) Tryd.f50 ratio_Add_lh c50.ps c50.rs (T := RAT) (fun y => (y.2.1)) (a_0, b_1, ()) = ratio_Add a_0 b_1 := by kernel_rfl

abbrev e87 : List (Nat × Ctr) := [(36, c36), (50, c50)]

def valid_sums_lh : LH
  | 4 => some ⟨valid_sums_i2, valid_sums_o2, lp valid_sums_s2 K0⟩
  | _ => none

theorem valid_sums_l2 (g : valid_sums_i2.V → Option (OT valid_sums_o2)) (v : valid_sums_i2.V) : loopStep tb (envL e87) 37 valid_sums_lh (loopAt 2 (bodyOf Tryd.f87) .skip) valid_sums_i2 valid_sums_o2 g v = valid_sums_s2 g v := by kernel_rfl

theorem valid_sums_eq (t_0 : List NODE) : fnF tb (envL e87) Tryd.f87 valid_sums_lh c87.ps c87.rs (T := Int × Int) (fun y => (y.2.1, y.2.2.1)) (t_0, ()) = valid_sums t_0 := by kernel_rfl

abbrev e88 : List (Nat × Ctr) := []

def valid_fault_lh : LH
  | _ => none

theorem valid_fault_eq (e_0 : Int) (tree_1 : Int) (node_2 : Int) : fnF tb (envL e88) Tryd.f88 valid_fault_lh c88.ps c88.rs (T := (Int × Int × Int × Int)) (fun y => (y.2.1)) (e_0, tree_1, node_2, ()) = valid_fault e_0 tree_1 node_2 := by kernel_rfl

abbrev e57 : List (Nat × Ctr) := [(83, c83), (84, c84), (85, c85), (86, c86), (87, c87), (88, c88)]

def valid_Check_lh : LH
  | 14 => some ⟨valid_Check_i7, valid_Check_o7, lp valid_Check_s7 K0⟩
  | 8 => some ⟨valid_Check_i4, valid_Check_o4, lp valid_Check_s4 K0⟩
  | _ => none

theorem valid_Check_l7 (g : valid_Check_i7.V → Option (OT valid_Check_o7)) (v : valid_Check_i7.V) : loopStep tb (envL e57) 63 valid_Check_lh (loopAt 7 (bodyOf Tryd.f57) .skip) valid_Check_i7 valid_Check_o7 g v = valid_Check_s7 g v := by kernel_rfl

theorem valid_Check_l4 (g : valid_Check_i4.V → Option (OT valid_Check_o4)) (v : valid_Check_i4.V) : loopStep tb (envL e57) 63 valid_Check_lh (loopAt 4 (bodyOf Tryd.f57) .skip) valid_Check_i4 valid_Check_o4 g v = valid_Check_s4 g v := by kernel_rfl

theorem valid_Check_eq (m_0 : MODEL) : fnF tb (envL e57) Tryd.f57 valid_Check_lh c57.ps c57.rs (T := (Int × Int × Int × Int)) (fun y => (y.2.1)) (m_0, ()) = valid_Check m_0 := by kernel_rfl

abbrev e28 : List (Nat × Ctr) := [(57, c57)]

def valid_Ok_lh : LH
  | _ => none

theorem valid_Ok_eq (m_0 : MODEL) : fnF tb (envL e28) Tryd.f28 valid_Ok_lh c28.ps c28.rs (T := Bool) (fun y => (y.2.1)) (m_0, ()) = valid_Ok m_0 := by kernel_rfl

abbrev e49 : List (Nat × Ctr) := [(28, c28)]

def route_fits_lh : LH
  | _ => none

theorem route_fits_eq (m_0 : MODEL) (row_1 : List CELL) : fnF tb (envL e49) Tryd.f49 route_fits_lh c49.ps c49.rs (T := Int) (fun y => (y.2.1)) (m_0, row_1, ()) = route_fits m_0 row_1 := by kernel_rfl

abbrev e54 : List (Nat × Ctr) := [(47, c47)]

def route_next_lh : LH
  | _ => none

theorem route_next_eq (n_0 : NODE) (row_1 : List CELL) : fnF tb (envL e54) Tryd.f54 route_next_lh c54.ps c54.rs (T := Int) (fun y => (y.2.1)) (n_0, row_1, ()) = route_next n_0 row_1 := by kernel_rfl

abbrev e51 : List (Nat × Ctr) := [(54, c54), (56, c56)]

def route_value_lh : LH
  | 4 => some ⟨route_value_i2, route_value_o2, lp route_value_s2 K0⟩
  | _ => none

theorem route_value_l2 (g : route_value_i2.V → Option (OT route_value_o2)) (v : route_value_i2.V) : loopStep tb (envL e51) 24 route_value_lh (loopAt 2 (bodyOf Tryd.f51) .skip) route_value_i2 route_value_o2 g v = route_value_s2 g v := by kernel_rfl

theorem route_value_eq (t_0 : List NODE) (row_1 : List CELL) : fnF tb (envL e51) Tryd.f51 route_value_lh c51.ps c51.rs (T := RAT) (fun y => (y.2.1)) (t_0, row_1, ()) = route_value t_0 row_1 := by kernel_rfl

abbrev e16 : List (Nat × Ctr) := [(33, c33), (49, c49), (50, c50), (51, c51)]

def route_Predict_lh : LH
  | 12 => some ⟨route_Predict_i6, route_Predict_o6, lp route_Predict_s6 K0⟩
  | _ => none

theorem route_Predict_l6 (g : route_Predict_i6.V → Option (OT route_Predict_o6)) (v : route_Predict_i6.V) : loopStep tb (envL e16) 32 route_Predict_lh (loopAt 6 (bodyOf Tryd.f16) .skip) route_Predict_i6 route_Predict_o6 g v = route_Predict_s6 g v := by kernel_rfl

theorem route_Predict_eq (m_0 : MODEL) (row_1 : List CELL) : fnF tb (envL e16) Tryd.f16 route_Predict_lh c16.ps c16.rs (T := RAT × Int) (fun y => (y.2.1, y.2.2.1)) (m_0, row_1, ()) = route_Predict m_0 row_1 := by kernel_rfl

abbrev e59 : List (Nat × Ctr) := []

def nat_Right_lh : LH
  | 4 => some ⟨nat_Right_i2, nat_Right_o2, lp nat_Right_s2 K0⟩
  | _ => none

theorem nat_Right_l2 (g : nat_Right_i2.V → Option (OT nat_Right_o2)) (v : nat_Right_i2.V) : loopStep tb (envL e59) 26 nat_Right_lh (loopAt 2 (bodyOf Tryd.f59) .skip) nat_Right_i2 nat_Right_o2 g v = nat_Right_s2 g v := by kernel_rfl

theorem nat_Right_eq (a_0 : List Int) : fnF tb (envL e59) Tryd.f59 nat_Right_lh c59.ps c59.rs (T := Bool) (fun y => (y.2.1)) (a_0, ()) = nat_Right a_0 := by kernel_rfl

abbrev e58 : List (Nat × Ctr) := [(59, c59)]

def whole_Right_lh : LH
  | _ => none

theorem whole_Right_eq (a_0 : WH) : fnF tb (envL e58) Tryd.f58 whole_Right_lh c58.ps c58.rs (T := Bool) (fun y => (y.2.1)) (a_0, ()) = whole_Right a_0 := by kernel_rfl

abbrev e29 : List (Nat × Ctr) := [(58, c58), (59, c59), (60, c60), (61, c61), (62, c62)]

def ratio_Right_lh : LH
  | _ => none

theorem ratio_Right_eq (a_0 : RAT) : fnF tb (envL e29) Tryd.f29 ratio_Right_lh c29.ps c29.rs (T := Bool) (fun y => (y.2.1)) (a_0, ()) = ratio_Right a_0 := by kernel_rfl

abbrev e98 : List (Nat × Ctr) := [(82, c82), (97, c97)]

def whole_Neg_lh : LH
  | _ => none

theorem whole_Neg_eq (a_0 : WH) : fnF tb (envL e98) Tryd.f98 whole_Neg_lh c98.ps c98.rs (T := WH) (fun y => (y.2.1)) (a_0, ()) = whole_Neg a_0 := by kernel_rfl

abbrev e73 : List (Nat × Ctr) := [(68, c68), (82, c82), (98, c98), (102, c102)]

def ratio_Make_lh : LH
  | _ => none

theorem ratio_Make_eq (num_0 : WH) (den_1 : WH) : fnF tb (envL e73) Tryd.f73 ratio_Make_lh c73.ps c73.rs (T := RAT × Int) (fun y => (y.2.1, y.2.2.1)) (num_0, den_1, ()) = ratio_Make num_0 den_1 := by kernel_rfl

abbrev e74 : List (Nat × Ctr) := [(62, c62), (97, c97)]

def whole_Of_lh : LH
  | _ => none

theorem whole_Of_eq (n_0 : Int) : fnF tb (envL e74) Tryd.f74 whole_Of_lh c74.ps c74.rs (T := WH) (fun y => (y.2.1)) (n_0, ()) = whole_Of n_0 := by kernel_rfl

abbrev e48 : List (Nat × Ctr) := [(56, c56), (73, c73), (74, c74)]

def ratio_Frac_lh : LH
  | _ => none

theorem ratio_Frac_eq (n_0 : Int) (d_1 : Int) : fnF tb (envL e48) Tryd.f48 ratio_Frac_lh c48.ps c48.rs (T := RAT) (fun y => (y.2.1)) (n_0, d_1, ()) = ratio_Frac n_0 d_1 := by kernel_rfl

abbrev e15 : List (Nat × Ctr) := [(13, c13), (16, c16), (29, c29), (33, c33), (48, c48)]

def dendronlaw10_awake_lh : LH
  | _ => none

theorem dendronlaw10_awake_eq  : fnF tb (envL e15) Tryd.f15 dendronlaw10_awake_lh c15.ps c15.rs (T := Bool) (fun y => (y.2.1)) () = dendronlaw10_awake  := by kernel_rfl

abbrev e3 : List (Nat × Ctr) := [(11, c11), (12, c12), (13, c13), (14, c14), (15, c15)]

def dendronlaw10_RouteLefts_lh : LH
  | _ => none

theorem dendronlaw10_RouteLefts_eq (n_0 : NODE) (c_1 : CELL) : fnF tb (envL e3) Tryd.f3 dendronlaw10_RouteLefts_lh c3.ps c3.rs (T := Bool) (fun y => (y.2.1)) (n_0, c_1, ()) = dendronlaw10_RouteLefts n_0 c_1 := by kernel_rfl

abbrev e17 : List (Nat × Ctr) := [(49, c49), (51, c51)]

def route_Each_lh : LH
  | 12 => some ⟨route_Each_i6, route_Each_o6, lp route_Each_s6 K0⟩
  | _ => none

theorem route_Each_l6 (g : route_Each_i6.V → Option (OT route_Each_o6)) (v : route_Each_i6.V) : loopStep tb (envL e17) 31 route_Each_lh (loopAt 6 (bodyOf Tryd.f17) .skip) route_Each_i6 route_Each_o6 g v = route_Each_s6 g v := by kernel_rfl

theorem route_Each_eq (m_0 : MODEL) (row_1 : List CELL) : fnF tb (envL e17) Tryd.f17 route_Each_lh c17.ps c17.rs (T := (List RAT) × Int) (fun y => (y.2.1, y.2.2.1)) (m_0, row_1, ()) = route_Each m_0 row_1 := by kernel_rfl

abbrev e18 : List (Nat × Ctr) := [(28, c28)]

def dendronlaw10_Why_lh : LH
  | _ => none

theorem dendronlaw10_Why_eq (m_0 : MODEL) (row_1 : List CELL) : fnF tb (envL e18) Tryd.f18 dendronlaw10_Why_lh c18.ps c18.rs (T := Int) (fun y => (y.2.1)) (m_0, row_1, ()) = dendronlaw10_Why m_0 row_1 := by kernel_rfl

abbrev e19 : List (Nat × Ctr) := [(49, c49)]

def route_Fits_lh : LH
  | _ => none

theorem route_Fits_eq (m_0 : MODEL) (row_1 : List CELL) : fnF tb (envL e19) Tryd.f19 route_Fits_lh c19.ps c19.rs (T := Int) (fun y => (y.2.1)) (m_0, row_1, ()) = route_Fits m_0 row_1 := by kernel_rfl

abbrev e108 : List (Nat × Ctr) := []

def dendronref01_Small_lh : LH
  | 4 => some ⟨dendronref01_Small_i2, dendronref01_Small_o2, lp dendronref01_Small_s2 K0⟩
  | _ => none

theorem dendronref01_Small_l2 (g : dendronref01_Small_i2.V → Option (OT dendronref01_Small_o2)) (v : dendronref01_Small_i2.V) : loopStep tb (envL e108) 14 dendronref01_Small_lh (loopAt 2 (bodyOf Tryd.f108) .skip) dendronref01_Small_i2 dendronref01_Small_o2 g v = dendronref01_Small_s2 g v := by kernel_rfl

theorem dendronref01_Small_eq (n_0 : Int) : fnF tb (envL e108) Tryd.f108 dendronref01_Small_lh c108.ps c108.rs (T := (List Int)) (fun y => (y.2.1)) (n_0, ()) = dendronref01_Small n_0 := by kernel_rfl

abbrev e125 : List (Nat × Ctr) := []

def dendronref01_digit_lh : LH
  | _ => none

theorem dendronref01_digit_eq (a_0 : List Int) (i_1 : Int) : fnF tb (envL e125) Tryd.f125 dendronref01_digit_lh c125.ps c125.rs (T := Int) (fun y => (y.2.1)) (a_0, i_1, ()) = dendronref01_digit a_0 i_1 := by kernel_rfl

abbrev e112 : List (Nat × Ctr) := [(125, c125)]

def dendronref01_Plus_lh : LH
  | 8 => some ⟨dendronref01_Plus_i4, dendronref01_Plus_o4, lp dendronref01_Plus_s4 K0⟩
  | _ => none

theorem dendronref01_Plus_l4 (g : dendronref01_Plus_i4.V → Option (OT dendronref01_Plus_o4)) (v : dendronref01_Plus_i4.V) : loopStep tb (envL e112) 41 dendronref01_Plus_lh (loopAt 4 (bodyOf Tryd.f112) .skip) dendronref01_Plus_i4 dendronref01_Plus_o4 g v = dendronref01_Plus_s4 g v := by kernel_rfl

theorem dendronref01_Plus_eq (a_0 : List Int) (b_1 : List Int) : fnF tb (envL e112) Tryd.f112 dendronref01_Plus_lh c112.ps c112.rs (T := (List Int)) (fun y => (y.2.1)) (a_0, b_1, ()) = dendronref01_Plus a_0 b_1 := by kernel_rfl

abbrev e126 : List (Nat × Ctr) := []

def dendronref01_Trim_lh : LH
  | 4 => some ⟨dendronref01_Trim_i2, dendronref01_Trim_o2, lp dendronref01_Trim_s2 K0⟩
  | _ => none

theorem dendronref01_Trim_l2 (g : dendronref01_Trim_i2.V → Option (OT dendronref01_Trim_o2)) (v : dendronref01_Trim_i2.V) : loopStep tb (envL e126) 21 dendronref01_Trim_lh (loopAt 2 (bodyOf Tryd.f126) .skip) dendronref01_Trim_i2 dendronref01_Trim_o2 g v = dendronref01_Trim_s2 g v := by kernel_rfl

theorem dendronref01_Trim_eq (a_0 : List Int) : fnF tb (envL e126) Tryd.f126 dendronref01_Trim_lh c126.ps c126.rs (T := (List Int)) (fun y => (y.2.1)) (a_0, ()) = dendronref01_Trim a_0 := by kernel_rfl

abbrev e113 : List (Nat × Ctr) := [(126, c126)]

def dendronref01_Times_lh : LH
  | 14 => some ⟨dendronref01_Times_i7, dendronref01_Times_o7, lp dendronref01_Times_s7 K0⟩
  | 6 => some ⟨dendronref01_Times_i3, dendronref01_Times_o3, lp dendronref01_Times_s3 K0⟩
  | _ => none

theorem dendronref01_Times_l7 (g : dendronref01_Times_i7.V → Option (OT dendronref01_Times_o7)) (v : dendronref01_Times_i7.V) : loopStep tb (envL e113) 63 dendronref01_Times_lh (loopAt 7 (bodyOf Tryd.f113) .skip) dendronref01_Times_i7 dendronref01_Times_o7 g v = dendronref01_Times_s7 g v := by kernel_rfl

theorem dendronref01_Times_l3 (g : dendronref01_Times_i3.V → Option (OT dendronref01_Times_o3)) (v : dendronref01_Times_i3.V) : loopStep tb (envL e113) 63 dendronref01_Times_lh (loopAt 3 (bodyOf Tryd.f113) .skip) dendronref01_Times_i3 dendronref01_Times_o3 g v = dendronref01_Times_s3 g v := by kernel_rfl

theorem dendronref01_Times_eq (a_0 : List Int) (b_1 : List Int) : fnF tb (envL e113) Tryd.f113 dendronref01_Times_lh c113.ps c113.rs (T := (List Int)) (fun y => (y.2.1)) (a_0, b_1, ()) = dendronref01_Times a_0 b_1 := by kernel_rfl

abbrev e78 : List (Nat × Ctr) := [(108, c108), (112, c112), (113, c113)]

def dendronref01_From_lh : LH
  | 8 => some ⟨dendronref01_From_i4, dendronref01_From_o4, lp dendronref01_From_s4 K0⟩
  | _ => none

theorem dendronref01_From_l4 (g : dendronref01_From_i4.V → Option (OT dendronref01_From_o4)) (v : dendronref01_From_i4.V) : loopStep tb (envL e78) 26 dendronref01_From_lh (loopAt 4 (bodyOf Tryd.f78) .skip) dendronref01_From_i4 dendronref01_From_o4 g v = dendronref01_From_s4 g v := by kernel_rfl

theorem dendronref01_From_eq (a_0 : List Int) : fnF tb (envL e78) Tryd.f78 dendronref01_From_lh c78.ps c78.rs (T := (List Int)) (fun y => (y.2.1)) (a_0, ()) = dendronref01_From a_0 := by kernel_rfl

abbrev e115 : List (Nat × Ctr) := []

def dendronref02_Make_lh : LH
  | _ => none

theorem dendronref02_Make_eq (neg_0 : Bool) (n_1 : List Int) : fnF tb (envL e115) Tryd.f115 dendronref02_Make_lh c115.ps c115.rs (T := (Bool × List Int)) (fun y => (y.2.1)) (neg_0, n_1, ()) = dendronref02_Make neg_0 n_1 := by kernel_rfl

abbrev e114 : List (Nat × Ctr) := [(108, c108), (112, c112), (115, c115)]

def dendronref02_Small_lh : LH
  | _ => none

theorem dendronref02_Small_eq (n_0 : Int) : fnF tb (envL e114) Tryd.f114 dendronref02_Small_lh c114.ps c114.rs (T := (Bool × List Int)) (fun y => (y.2.1)) (n_0, ()) = dendronref02_Small n_0 := by kernel_rfl

abbrev e79 : List (Nat × Ctr) := [(108, c108), (114, c114)]

def dendronref03_Small_lh : LH
  | _ => none

theorem dendronref03_Small_eq (n_0 : Int) (d_1 : Int) : fnF tb (envL e79) Tryd.f79 dendronref03_Small_lh c79.ps c79.rs (T := ((Bool × List Int) × List Int)) (fun y => (y.2.1)) (n_0, d_1, ()) = dendronref03_Small n_0 d_1 := by kernel_rfl

abbrev e80 : List (Nat × Ctr) := [(78, c78), (115, c115)]

def dendronref02_From_lh : LH
  | _ => none

theorem dendronref02_From_eq (a_0 : WH) : fnF tb (envL e80) Tryd.f80 dendronref02_From_lh c80.ps c80.rs (T := (Bool × List Int)) (fun y => (y.2.1)) (a_0, ()) = dendronref02_From a_0 := by kernel_rfl

abbrev e53 : List (Nat × Ctr) := [(78, c78), (79, c79), (80, c80)]

def dendronref03_From_lh : LH
  | _ => none

theorem dendronref03_From_eq (a_0 : RAT) : fnF tb (envL e53) Tryd.f53 dendronref03_From_lh c53.ps c53.rs (T := ((Bool × List Int) × List Int)) (fun y => (y.2.1)) (a_0, ()) = dendronref03_From a_0 := by kernel_rfl

abbrev e105 : List (Nat × Ctr) := []

def dendronref01_Right_lh : LH
  | 4 => some ⟨dendronref01_Right_i2, dendronref01_Right_o2, lp dendronref01_Right_s2 K0⟩
  | _ => none

theorem dendronref01_Right_l2 (g : dendronref01_Right_i2.V → Option (OT dendronref01_Right_o2)) (v : dendronref01_Right_i2.V) : loopStep tb (envL e105) 27 dendronref01_Right_lh (loopAt 2 (bodyOf Tryd.f105) .skip) dendronref01_Right_i2 dendronref01_Right_o2 g v = dendronref01_Right_s2 g v := by kernel_rfl

theorem dendronref01_Right_eq (a_0 : List Int) : fnF tb (envL e105) Tryd.f105 dendronref01_Right_lh c105.ps c105.rs (T := Bool) (fun y => (y.2.1)) (a_0, ()) = dendronref01_Right a_0 := by kernel_rfl

abbrev e107 : List (Nat × Ctr) := []

def dendronref01_Order_lh : LH
  | 12 => some ⟨dendronref01_Order_i6, dendronref01_Order_o6, lp dendronref01_Order_s6 K0⟩
  | _ => none

theorem dendronref01_Order_l6 (g : dendronref01_Order_i6.V → Option (OT dendronref01_Order_o6)) (v : dendronref01_Order_i6.V) : loopStep tb (envL e107) 41 dendronref01_Order_lh (loopAt 6 (bodyOf Tryd.f107) .skip) dendronref01_Order_i6 dendronref01_Order_o6 g v = dendronref01_Order_s6 g v := by kernel_rfl

theorem dendronref01_Order_eq (a_0 : List Int) (b_1 : List Int) : fnF tb (envL e107) Tryd.f107 dendronref01_Order_lh c107.ps c107.rs (T := Int) (fun y => (y.2.1)) (a_0, b_1, ()) = dendronref01_Order a_0 b_1 := by kernel_rfl

abbrev e129 : List (Nat × Ctr) := [(125, c125), (126, c126)]

def dendronref01_Minus_lh : LH
  | 8 => some ⟨dendronref01_Minus_i4, dendronref01_Minus_o4, lp dendronref01_Minus_s4 K0⟩
  | _ => none

theorem dendronref01_Minus_l4 (g : dendronref01_Minus_i4.V → Option (OT dendronref01_Minus_o4)) (v : dendronref01_Minus_i4.V) : loopStep tb (envL e129) 35 dendronref01_Minus_lh (loopAt 4 (bodyOf Tryd.f129) .skip) dendronref01_Minus_i4 dendronref01_Minus_o4 g v = dendronref01_Minus_s4 g v := by kernel_rfl

theorem dendronref01_Minus_eq (a_0 : List Int) (b_1 : List Int) : fnF tb (envL e129) Tryd.f129 dendronref01_Minus_lh c129.ps c129.rs (T := (List Int)) (fun y => (y.2.1)) (a_0, b_1, ()) = dendronref01_Minus a_0 b_1 := by kernel_rfl

abbrev e124 : List (Nat × Ctr) := [(107, c107), (108, c108), (113, c113), (126, c126), (129, c129)]

def dendronref01_Over_lh : LH
  | 24 => some ⟨dendronref01_Over_i12, dendronref01_Over_o12, lp dendronref01_Over_s12 K0⟩
  | 8 => some ⟨dendronref01_Over_i4, dendronref01_Over_o4, lp dendronref01_Over_s4 K0⟩
  | _ => none

theorem dendronref01_Over_l12 (g : dendronref01_Over_i12.V → Option (OT dendronref01_Over_o12)) (v : dendronref01_Over_i12.V) : loopStep tb (envL e124) 65 dendronref01_Over_lh (loopAt 12 (bodyOf Tryd.f124) .skip) dendronref01_Over_i12 dendronref01_Over_o12 g v = dendronref01_Over_s12 g v := by kernel_rfl

theorem dendronref01_Over_l4 (g : dendronref01_Over_i4.V → Option (OT dendronref01_Over_o4)) (v : dendronref01_Over_i4.V) : loopStep tb (envL e124) 65 dendronref01_Over_lh (loopAt 4 (bodyOf Tryd.f124) .skip) dendronref01_Over_i4 dendronref01_Over_o4 g v = dendronref01_Over_s4 g v := by kernel_rfl

theorem dendronref01_Over_eq (a_0 : List Int) (a_1 : List Int) : fnF tb (envL e124) Tryd.f124 dendronref01_Over_lh c124.ps c124.rs (T := (List Int) × (List Int)) (fun y => (y.2.1, y.2.2.1)) (a_0, a_1, ()) = dendronref01_Over a_0 a_1 := by kernel_rfl

abbrev e106 : List (Nat × Ctr) := [(124, c124)]

def dendronref01_Gcd_lh : LH
  | 2 => some ⟨dendronref01_Gcd_i1, dendronref01_Gcd_o1, lp dendronref01_Gcd_s1 K0⟩
  | _ => none

theorem dendronref01_Gcd_l1 (g : dendronref01_Gcd_i1.V → Option (OT dendronref01_Gcd_o1)) (v : dendronref01_Gcd_i1.V) : loopStep tb (envL e106) 19 dendronref01_Gcd_lh (loopAt 1 (bodyOf Tryd.f106) .skip) dendronref01_Gcd_i1 dendronref01_Gcd_o1 g v = dendronref01_Gcd_s1 g v := by kernel_rfl

theorem dendronref01_Gcd_eq (a_0 : List Int) (b_1 : List Int) : fnF tb (envL e106) Tryd.f106 dendronref01_Gcd_lh c106.ps c106.rs (T := (List Int)) (fun y => (y.2.1)) (a_0, b_1, ()) = dendronref01_Gcd a_0 b_1 := by kernel_rfl

abbrev e76 : List (Nat × Ctr) := [(78, c78), (105, c105), (106, c106), (107, c107), (108, c108)]

def dendronref03_Right_lh : LH
  | _ => none

theorem dendronref03_Right_eq (a_0 : RAT) : fnF tb (envL e76) Tryd.f76 dendronref03_Right_lh c76.ps c76.rs (T := Bool) (fun y => (y.2.1)) (a_0, ()) = dendronref03_Right a_0 := by kernel_rfl

abbrev e109 : List (Nat × Ctr) := [(107, c107)]

def dendronref02_Order_lh : LH
  | _ => none

theorem dendronref02_Order_eq (a_0 : Bool × List Int) (b_1 : Bool × List Int) : fnF tb (envL e109) Tryd.f109 dendronref02_Order_lh c109.ps c109.rs (T := Int) (fun y => (y.2.1)) (a_0, b_1, ()) = dendronref02_Order a_0 b_1 := by kernel_rfl

abbrev e110 : List (Nat × Ctr) := [(113, c113), (115, c115)]

def dendronref02_Times_lh : LH
  | _ => none

theorem dendronref02_Times_eq (a_0 : Bool × List Int) (b_1 : Bool × List Int) : fnF tb (envL e110) Tryd.f110 dendronref02_Times_lh c110.ps c110.rs (T := (Bool × List Int)) (fun y => (y.2.1)) (a_0, b_1, ()) = dendronref02_Times a_0 b_1 := by kernel_rfl

abbrev e111 : List (Nat × Ctr) := [(115, c115)]

def dendronref03_den_lh : LH
  | _ => none

theorem dendronref03_den_eq (a_0 : (Bool × List Int) × List Int) : fnF tb (envL e111) Tryd.f111 dendronref03_den_lh c111.ps c111.rs (T := (Bool × List Int)) (fun y => (y.2.1)) (a_0, ()) = dendronref03_den a_0 := by kernel_rfl

abbrev e77 : List (Nat × Ctr) := [(109, c109), (110, c110), (111, c111)]

def dendronref03_Order_lh : LH
  | _ => none

theorem dendronref03_Order_eq (a_0 : (Bool × List Int) × List Int) (b_1 : (Bool × List Int) × List Int) : fnF tb (envL e77) Tryd.f77 dendronref03_Order_lh c77.ps c77.rs (T := Int) (fun y => (y.2.1)) (a_0, b_1, ()) = dendronref03_Order a_0 b_1 := by kernel_rfl

abbrev e52 : List (Nat × Ctr) := [(53, c53), (76, c76), (77, c77)]

def dendronref03_Is_lh : LH
  | _ => none

theorem dendronref03_Is_eq (a_0 : RAT) (x_1 : (Bool × List Int) × List Int) : fnF tb (envL e52) Tryd.f52 dendronref03_Is_lh c52.ps c52.rs (T := Bool) (fun y => (y.2.1)) (a_0, x_1, ()) = dendronref03_Is a_0 x_1 := by kernel_rfl

abbrev e20 : List (Nat × Ctr) := [(52, c52), (53, c53)]

def dendronref10_Is_lh : LH
  | _ => none

theorem dendronref10_Is_eq (a_0 : RAT) (b_1 : RAT) : fnF tb (envL e20) Tryd.f20 dendronref10_Is_lh c20.ps c20.rs (T := Bool) (fun y => (y.2.1)) (a_0, b_1, ()) = dendronref10_Is a_0 b_1 := by kernel_rfl

abbrev e25 (n : Nat) : List (Nat × Ctr) := [(14, c14), (25, (c25 n))]

def dendronlaw10_Way_lh (n : Nat) : LH
  | _ => none

theorem dendronlaw10_Way_eq (n : Nat) (t_0 : List NODE) (at_1 : Int) (row_2 : List CELL) : fnF tb (envL (e25 n)) Tryd.f25 (dendronlaw10_Way_lh n) (c25 n).ps (c25 n).rs (T := (List Int)) (fun y => (y.2.1)) (t_0, at_1, row_2, ()) = dendronlaw10_Way (n + 1) t_0 at_1 row_2 := by kernel_rfl

abbrev e21 : List (Nat × Ctr) := [(25, (c25 R0)), (33, c33), (50, c50)]

def dendronlaw10_Predict_lh : LH
  | 6 => some ⟨dendronlaw10_Predict_i3, dendronlaw10_Predict_o3, lp dendronlaw10_Predict_s3 K0⟩
  | _ => none

theorem dendronlaw10_Predict_l3 (g : dendronlaw10_Predict_i3.V → Option (OT dendronlaw10_Predict_o3)) (v : dendronlaw10_Predict_i3.V) : loopStep tb (envL e21) 40 dendronlaw10_Predict_lh (loopAt 3 (bodyOf Tryd.f21) .skip) dendronlaw10_Predict_i3 dendronlaw10_Predict_o3 g v = dendronlaw10_Predict_s3 g v := by kernel_rfl

theorem dendronlaw10_Predict_eq (m_0 : MODEL) (row_1 : List CELL) : fnF tb (envL e21) Tryd.f21 dendronlaw10_Predict_lh c21.ps c21.rs (T := RAT) (fun y => (y.2.1)) (m_0, row_1, ()) = dendronlaw10_Predict m_0 row_1 := by kernel_rfl

abbrev e4 : List (Nat × Ctr) := [(11, c11), (12, c12), (15, c15), (16, c16), (17, c17), (18, c18), (19, c19), (20, c20), (21, c21)]

def dendronlaw10_RoutePredicts_lh : LH
  | 26 => some ⟨dendronlaw10_RoutePredicts_i13, dendronlaw10_RoutePredicts_o13, lp dendronlaw10_RoutePredicts_s13 K0⟩
  | _ => none

theorem dendronlaw10_RoutePredicts_l13 (g : dendronlaw10_RoutePredicts_i13.V → Option (OT dendronlaw10_RoutePredicts_o13)) (v : dendronlaw10_RoutePredicts_i13.V) : loopStep tb (envL e4) 105 dendronlaw10_RoutePredicts_lh (loopAt 13 (bodyOf Tryd.f4) .skip) dendronlaw10_RoutePredicts_i13 dendronlaw10_RoutePredicts_o13 g v = dendronlaw10_RoutePredicts_s13 g v := by kernel_rfl

theorem dendronlaw10_RoutePredicts_eq (a_0 : MODEL) (a_1 : List CELL) : fnF tb (envL e4) Tryd.f4 dendronlaw10_RoutePredicts_lh c4.ps c4.rs (T := Bool) (fun y => (y.2.1)) (a_0, a_1, ()) = dendronlaw10_RoutePredicts a_0 a_1 := by kernel_rfl

abbrev e24 : List (Nat × Ctr) := [(28, c28)]

def valid_Tree_lh : LH
  | _ => none

theorem valid_Tree_eq (t_0 : List NODE) (features_1 : Int) : fnF tb (envL e24) Tryd.f24 valid_Tree_lh c24.ps c24.rs (T := Bool) (fun y => (y.2.1)) (t_0, features_1, ()) = valid_Tree t_0 features_1 := by kernel_rfl

abbrev e22 : List (Nat × Ctr) := [(24, c24), (54, c54)]

def route_Way_lh : LH
  | 10 => some ⟨route_Way_i5, route_Way_o5, lp route_Way_s5 K0⟩
  | _ => none

theorem route_Way_l5 (g : route_Way_i5.V → Option (OT route_Way_o5)) (v : route_Way_i5.V) : loopStep tb (envL e22) 31 route_Way_lh (loopAt 5 (bodyOf Tryd.f22) .skip) route_Way_i5 route_Way_o5 g v = route_Way_s5 g v := by kernel_rfl

theorem route_Way_eq (t_0 : List NODE) (row_1 : List CELL) : fnF tb (envL e22) Tryd.f22 route_Way_lh c22.ps c22.rs (T := (List Int) × Int) (fun y => (y.2.1, y.2.2.1)) (t_0, row_1, ()) = route_Way t_0 row_1 := by kernel_rfl

abbrev e23 : List (Nat × Ctr) := [(22, c22)]

def route_Leaf_lh : LH
  | _ => none

theorem route_Leaf_eq (t_0 : List NODE) (row_1 : List CELL) : fnF tb (envL e23) Tryd.f23 route_Leaf_lh c23.ps c23.rs (T := Int × Int) (fun y => (y.2.1, y.2.2.1)) (t_0, row_1, ()) = route_Leaf t_0 row_1 := by kernel_rfl

abbrev e5 : List (Nat × Ctr) := [(11, c11), (12, c12), (15, c15), (22, c22), (23, c23), (24, c24), (25, (c25 R0))]

def dendronlaw10_RouteWays_lh : LH
  | 22 => some ⟨dendronlaw10_RouteWays_i11, dendronlaw10_RouteWays_o11, lp dendronlaw10_RouteWays_s11 K0⟩
  | _ => none

theorem dendronlaw10_RouteWays_l11 (g : dendronlaw10_RouteWays_i11.V → Option (OT dendronlaw10_RouteWays_o11)) (v : dendronlaw10_RouteWays_i11.V) : loopStep tb (envL e5) 97 dendronlaw10_RouteWays_lh (loopAt 11 (bodyOf Tryd.f5) .skip) dendronlaw10_RouteWays_i11 dendronlaw10_RouteWays_o11 g v = dendronlaw10_RouteWays_s11 g v := by kernel_rfl

theorem dendronlaw10_RouteWays_eq (a_0 : List NODE) (a_1 : List CELL) : fnF tb (envL e5) Tryd.f5 dendronlaw10_RouteWays_lh c5.ps c5.rs (T := Bool) (fun y => (y.2.1)) (a_0, a_1, ()) = dendronlaw10_RouteWays a_0 a_1 := by kernel_rfl

abbrev e55 : List (Nat × Ctr) := [(30, c30), (36, c36)]

def route_put_lh : LH
  | 4 => some ⟨route_put_i2, route_put_o2, lp route_put_s2 K0⟩
  | _ => none

theorem route_put_l2 (g : route_put_i2.V → Option (OT route_put_o2)) (v : route_put_i2.V) : loopStep tb (envL e55) 51 route_put_lh (loopAt 2 (bodyOf Tryd.f55) .skip) route_put_i2 route_put_o2 g v = route_put_s2 g v := by kernel_rfl

theorem route_put_eq (l_0 : List RAT) (x_1 : RAT) : fnF tb (envL e55) Tryd.f55 route_put_lh c55.ps c55.rs (T := (List RAT)) (fun y => (y.2.1)) (l_0, x_1, ()) = route_put l_0 x_1 := by kernel_rfl

abbrev e26 : List (Nat × Ctr) := [(28, c28), (55, c55), (56, c56)]

def route_Cuts_lh : LH
  | 20 => some ⟨route_Cuts_i10, route_Cuts_o10, lp route_Cuts_s10 K0⟩
  | 14 => some ⟨route_Cuts_i7, route_Cuts_o7, lp route_Cuts_s7 K0⟩
  | _ => none

theorem route_Cuts_l10 (g : route_Cuts_i10.V → Option (OT route_Cuts_o10)) (v : route_Cuts_i10.V) : loopStep tb (envL e26) 54 route_Cuts_lh (loopAt 10 (bodyOf Tryd.f26) .skip) route_Cuts_i10 route_Cuts_o10 g v = route_Cuts_s10 g v := by kernel_rfl

theorem route_Cuts_l7 (g : route_Cuts_i7.V → Option (OT route_Cuts_o7)) (v : route_Cuts_i7.V) : loopStep tb (envL e26) 54 route_Cuts_lh (loopAt 7 (bodyOf Tryd.f26) .skip) route_Cuts_i7 route_Cuts_o7 g v = route_Cuts_s7 g v := by kernel_rfl

theorem route_Cuts_eq (m_0 : MODEL) (feature_1 : Int) : fnF tb (envL e26) Tryd.f26 route_Cuts_lh c26.ps c26.rs (T := (List RAT) × Int) (fun y => (y.2.1, y.2.2.1)) (m_0, feature_1, ()) = route_Cuts m_0 feature_1 := by kernel_rfl

abbrev e66 : List (Nat × Ctr) := [(56, c56), (98, c98)]

def ratio_Neg_lh : LH
  | _ => none

theorem ratio_Neg_eq (a_0 : RAT) : fnF tb (envL e66) Tryd.f66 ratio_Neg_lh c66.ps c66.rs (T := RAT) (fun y => (y.2.1)) (a_0, ()) = ratio_Neg a_0 := by kernel_rfl

abbrev e34 : List (Nat × Ctr) := [(50, c50), (66, c66)]

def ratio_Sub_lh : LH
  | _ => none

theorem ratio_Sub_eq (a_0 : RAT) (b_1 : RAT) : fnF tb (envL e34) Tryd.f34 ratio_Sub_lh c34.ps c34.rs (T := RAT) (fun y => (y.2.1)) (a_0, b_1, ()) = ratio_Sub a_0 b_1 := by kernel_rfl

abbrev e67 : List (Nat × Ctr) := [(62, c62), (74, c74)]

def ratio_Of_lh : LH
  | _ => none

theorem ratio_Of_eq (n_0 : Int) : fnF tb (envL e67) Tryd.f67 ratio_Of_lh c67.ps c67.rs (T := RAT) (fun y => (y.2.1)) (n_0, ()) = ratio_Of n_0 := by kernel_rfl

abbrev e35 : List (Nat × Ctr) := [(67, c67)]

def ratio_One_lh : LH
  | _ => none

theorem ratio_One_eq  : fnF tb (envL e35) Tryd.f35 ratio_One_lh c35.ps c35.rs (T := RAT) (fun y => (y.2.1)) () = ratio_One  := by kernel_rfl

abbrev e27 : List (Nat × Ctr) := [(26, c26), (33, c33), (34, c34), (35, c35)]

def route_Steps_lh : LH
  | _ => none

theorem route_Steps_eq (m_0 : MODEL) (feature_1 : Int) : fnF tb (envL e27) Tryd.f27 route_Steps_lh c27.ps c27.rs (T := (List RAT) × Int) (fun y => (y.2.1, y.2.2.1)) (m_0, feature_1, ()) = route_Steps m_0 feature_1 := by kernel_rfl

abbrev e31 : List (Nat × Ctr) := [(36, c36)]

def dendronlaw10_asked_lh : LH
  | 10 => some ⟨dendronlaw10_asked_i5, dendronlaw10_asked_o5, lp dendronlaw10_asked_s5 K0⟩
  | 4 => some ⟨dendronlaw10_asked_i2, dendronlaw10_asked_o2, lp dendronlaw10_asked_s2 K0⟩
  | _ => none

theorem dendronlaw10_asked_l5 (g : dendronlaw10_asked_i5.V → Option (OT dendronlaw10_asked_o5)) (v : dendronlaw10_asked_i5.V) : loopStep tb (envL e31) 50 dendronlaw10_asked_lh (loopAt 5 (bodyOf Tryd.f31) .skip) dendronlaw10_asked_i5 dendronlaw10_asked_o5 g v = dendronlaw10_asked_s5 g v := by kernel_rfl

theorem dendronlaw10_asked_l2 (g : dendronlaw10_asked_i2.V → Option (OT dendronlaw10_asked_o2)) (v : dendronlaw10_asked_i2.V) : loopStep tb (envL e31) 50 dendronlaw10_asked_lh (loopAt 2 (bodyOf Tryd.f31) .skip) dendronlaw10_asked_i2 dendronlaw10_asked_o2 g v = dendronlaw10_asked_s2 g v := by kernel_rfl

theorem dendronlaw10_asked_eq (m_0 : MODEL) (feature_1 : Int) (x_2 : RAT) : fnF tb (envL e31) Tryd.f31 dendronlaw10_asked_lh c31.ps c31.rs (T := Bool) (fun y => (y.2.1)) (m_0, feature_1, x_2, ()) = dendronlaw10_asked m_0 feature_1 x_2 := by kernel_rfl

abbrev e32 : List (Nat × Ctr) := [(36, c36)]

def dendronlaw10_has_lh : LH
  | 4 => some ⟨dendronlaw10_has_i2, dendronlaw10_has_o2, lp dendronlaw10_has_s2 K0⟩
  | _ => none

theorem dendronlaw10_has_l2 (g : dendronlaw10_has_i2.V → Option (OT dendronlaw10_has_o2)) (v : dendronlaw10_has_i2.V) : loopStep tb (envL e32) 18 dendronlaw10_has_lh (loopAt 2 (bodyOf Tryd.f32) .skip) dendronlaw10_has_i2 dendronlaw10_has_o2 g v = dendronlaw10_has_s2 g v := by kernel_rfl

theorem dendronlaw10_has_eq (l_0 : List RAT) (x_1 : RAT) : fnF tb (envL e32) Tryd.f32 dendronlaw10_has_lh c32.ps c32.rs (T := Bool) (fun y => (y.2.1)) (l_0, x_1, ()) = dendronlaw10_has l_0 x_1 := by kernel_rfl

abbrev e6 : List (Nat × Ctr) := [(11, c11), (15, c15), (20, c20), (26, c26), (27, c27), (28, c28), (29, c29), (30, c30), (31, c31), (32, c32), (33, c33), (34, c34), (35, c35)]

def dendronlaw10_RouteCuts_lh : LH
  | 44 => some ⟨dendronlaw10_RouteCuts_i22, dendronlaw10_RouteCuts_o22, lp dendronlaw10_RouteCuts_s22 K0⟩
  | 28 => some ⟨dendronlaw10_RouteCuts_i14, dendronlaw10_RouteCuts_o14, lp dendronlaw10_RouteCuts_s14 K0⟩
  | 38 => some ⟨dendronlaw10_RouteCuts_i19, dendronlaw10_RouteCuts_o19, lp dendronlaw10_RouteCuts_s19 K0⟩
  | 64 => some ⟨dendronlaw10_RouteCuts_i32, dendronlaw10_RouteCuts_o32, lp dendronlaw10_RouteCuts_s32 K0⟩
  | _ => none

theorem dendronlaw10_RouteCuts_l22 (g : dendronlaw10_RouteCuts_i22.V → Option (OT dendronlaw10_RouteCuts_o22)) (v : dendronlaw10_RouteCuts_i22.V) : loopStep tb (envL e6) 199 dendronlaw10_RouteCuts_lh (loopAt 22 (bodyOf Tryd.f6) .skip) dendronlaw10_RouteCuts_i22 dendronlaw10_RouteCuts_o22 g v = dendronlaw10_RouteCuts_s22 g v := by kernel_rfl

theorem dendronlaw10_RouteCuts_l14 (g : dendronlaw10_RouteCuts_i14.V → Option (OT dendronlaw10_RouteCuts_o14)) (v : dendronlaw10_RouteCuts_i14.V) : loopStep tb (envL e6) 199 dendronlaw10_RouteCuts_lh (loopAt 14 (bodyOf Tryd.f6) .skip) dendronlaw10_RouteCuts_i14 dendronlaw10_RouteCuts_o14 g v = dendronlaw10_RouteCuts_s14 g v := by kernel_rfl

theorem dendronlaw10_RouteCuts_l19 (g : dendronlaw10_RouteCuts_i19.V → Option (OT dendronlaw10_RouteCuts_o19)) (v : dendronlaw10_RouteCuts_i19.V) : loopStep tb (envL e6) 199 dendronlaw10_RouteCuts_lh (loopAt 19 (bodyOf Tryd.f6) .skip) dendronlaw10_RouteCuts_i19 dendronlaw10_RouteCuts_o19 g v = dendronlaw10_RouteCuts_s19 g v := by kernel_rfl

theorem dendronlaw10_RouteCuts_l32 (g : dendronlaw10_RouteCuts_i32.V → Option (OT dendronlaw10_RouteCuts_o32)) (v : dendronlaw10_RouteCuts_i32.V) : loopStep tb (envL e6) 199 dendronlaw10_RouteCuts_lh (loopAt 32 (bodyOf Tryd.f6) .skip) dendronlaw10_RouteCuts_i32 dendronlaw10_RouteCuts_o32 g v = dendronlaw10_RouteCuts_s32 g v := by kernel_rfl

theorem dendronlaw10_RouteCuts_eq (a_0 : MODEL) (a_1 : Int) : fnF tb (envL e6) Tryd.f6 dendronlaw10_RouteCuts_lh c6.ps c6.rs (T := Bool) (fun y => (y.2.1)) (a_0, a_1, ()) = dendronlaw10_RouteCuts a_0 a_1 := by kernel_rfl

abbrev e7 : List (Nat × Ctr) := [(11, c11), (12, c12), (15, c15), (16, c16), (27, c27), (30, c30), (36, c36)]

def dendronlaw10_RouteStands_lh : LH
  | 20 => some ⟨dendronlaw10_RouteStands_i10, dendronlaw10_RouteStands_o10, lp dendronlaw10_RouteStands_s10 K0⟩
  | _ => none

theorem dendronlaw10_RouteStands_l10 (g : dendronlaw10_RouteStands_i10.V → Option (OT dendronlaw10_RouteStands_o10)) (v : dendronlaw10_RouteStands_i10.V) : loopStep tb (envL e7) 114 dendronlaw10_RouteStands_lh (loopAt 10 (bodyOf Tryd.f7) .skip) dendronlaw10_RouteStands_i10 dendronlaw10_RouteStands_o10 g v = dendronlaw10_RouteStands_s10 g v := by kernel_rfl

theorem dendronlaw10_RouteStands_eq (a_0 : MODEL) (a_1 : List CELL) (a_2 : Int) : fnF tb (envL e7) Tryd.f7 dendronlaw10_RouteStands_lh c7.ps c7.rs (T := Bool) (fun y => (y.2.1)) (a_0, a_1, a_2, ()) = dendronlaw10_RouteStands a_0 a_1 a_2 := by kernel_rfl

abbrev e37 : List (Nat × Ctr) := []

def dendronlaw11_in_lh : LH
  | 4 => some ⟨dendronlaw11_in_i2, dendronlaw11_in_o2, lp dendronlaw11_in_s2 K0⟩
  | _ => none

theorem dendronlaw11_in_l2 (g : dendronlaw11_in_i2.V → Option (OT dendronlaw11_in_o2)) (v : dendronlaw11_in_i2.V) : loopStep tb (envL e37) 16 dendronlaw11_in_lh (loopAt 2 (bodyOf Tryd.f37) .skip) dendronlaw11_in_i2 dendronlaw11_in_o2 g v = dendronlaw11_in_s2 g v := by kernel_rfl

theorem dendronlaw11_in_eq (set_0 : Int) (feature_1 : Int) : fnF tb (envL e37) Tryd.f37 dendronlaw11_in_lh c37.ps c37.rs (T := Bool) (fun y => (y.2.1)) (set_0, feature_1, ()) = dendronlaw11_in set_0 feature_1 := by kernel_rfl

abbrev e38 : List (Nat × Ctr) := [(56, c56), (64, c64), (68, c68), (69, c69)]

def ratio_Mul_lh : LH
  | _ => none

theorem ratio_Mul_eq (a_0 : RAT) (b_1 : RAT) : fnF tb (envL e38) Tryd.f38 ratio_Mul_lh c38.ps c38.rs (T := RAT) (fun y => (y.2.1)) (a_0, b_1, ()) = ratio_Mul a_0 b_1 := by kernel_rfl

abbrev e70 : List (Nat × Ctr) := []

def expect_known_lh : LH
  | _ => none

theorem expect_known_eq (set_0 : Int) (feature_1 : Int) : fnF tb (envL e70) Tryd.f70 expect_known_lh c70.ps c70.rs (T := Bool) (fun y => (y.2.1)) (set_0, feature_1, ()) = expect_known set_0 feature_1 := by kernel_rfl

abbrev e39 : List (Nat × Ctr) := [(33, c33), (35, c35), (38, c38), (70, c70)]

def expect_Reach_lh : LH
  | 6 => some ⟨expect_Reach_i3, expect_Reach_o3, lp expect_Reach_s3 K0⟩
  | _ => none

theorem expect_Reach_l3 (g : expect_Reach_i3.V → Option (OT expect_Reach_o3)) (v : expect_Reach_i3.V) : loopStep tb (envL e39) 43 expect_Reach_lh (loopAt 3 (bodyOf Tryd.f39) .skip) expect_Reach_i3 expect_Reach_o3 g v = expect_Reach_s3 g v := by kernel_rfl

theorem expect_Reach_eq (l_0 : LEG) (set_1 : Int) : fnF tb (envL e39) Tryd.f39 expect_Reach_lh c39.ps c39.rs (T := RAT) (fun y => (y.2.1)) (l_0, set_1, ()) = expect_Reach l_0 set_1 := by kernel_rfl

abbrev e122 : List (Nat × Ctr) := [(56, c56), (65, c65), (73, c73)]

def ratio_Inv_lh : LH
  | _ => none

theorem ratio_Inv_eq (a_0 : RAT) : fnF tb (envL e122) Tryd.f122 ratio_Inv_lh c122.ps c122.rs (T := RAT × Int) (fun y => (y.2.1, y.2.2.1)) (a_0, ()) = ratio_Inv a_0 := by kernel_rfl

abbrev e100 : List (Nat × Ctr) := [(38, c38), (122, c122)]

def ratio_Div_lh : LH
  | _ => none

theorem ratio_Div_eq (a_0 : RAT) (b_1 : RAT) : fnF tb (envL e100) Tryd.f100 ratio_Div_lh c100.ps c100.rs (T := RAT × Int) (fun y => (y.2.1, y.2.2.1)) (a_0, b_1, ()) = ratio_Div a_0 b_1 := by kernel_rfl

abbrev e123 : List (Nat × Ctr) := [(100, c100)]

def expect_over_lh : LH
  | _ => none

theorem expect_over_eq (a_0 : RAT) (b_1 : RAT) : fnF tb (envL e123) Tryd.f123 expect_over_lh c123.ps c123.rs (T := RAT) (fun y => (y.2.1)) (a_0, b_1, ()) = expect_over a_0 b_1 := by kernel_rfl

abbrev e101 : List (Nat × Ctr) := [(38, c38), (50, c50), (123, c123)]

def expect_mean_lh : LH
  | _ => none

theorem expect_mean_eq (t_0 : List NODE) (n_1 : NODE) (a_2 : RAT) (b_3 : RAT) : fnF tb (envL e101) Tryd.f101 expect_mean_lh c101.ps c101.rs (T := RAT) (fun y => (y.2.1)) (t_0, n_1, a_2, b_3, ()) = expect_mean t_0 n_1 a_2 b_3 := by kernel_rfl

abbrev e72 (n : Nat) : List (Nat × Ctr) := [(13, c13), (56, c56), (70, c70), (72, (c72 n)), (101, c101)]

def expect_value_lh (n : Nat) : LH
  | _ => none

theorem expect_value_eq (n : Nat) (t_0 : List NODE) (at_1 : Int) (row_2 : List CELL) (set_3 : Int) : fnF tb (envL (e72 n)) Tryd.f72 (expect_value_lh n) (c72 n).ps (c72 n).rs (T := RAT) (fun y => (y.2.1)) (t_0, at_1, row_2, set_3, ()) = expect_value (n + 1) t_0 at_1 row_2 set_3 := by kernel_rfl

abbrev e44 : List (Nat × Ctr) := [(19, c19), (33, c33), (50, c50), (72, (c72 R0))]

def expect_Value_lh : LH
  | 12 => some ⟨expect_Value_i6, expect_Value_o6, lp expect_Value_s6 K0⟩
  | _ => none

theorem expect_Value_l6 (g : expect_Value_i6.V → Option (OT expect_Value_o6)) (v : expect_Value_i6.V) : loopStep tb (envL e44) 35 expect_Value_lh (loopAt 6 (bodyOf Tryd.f44) .skip) expect_Value_i6 expect_Value_o6 g v = expect_Value_s6 g v := by kernel_rfl

theorem expect_Value_eq (m_0 : MODEL) (row_1 : List CELL) (set_2 : Int) : fnF tb (envL e44) Tryd.f44 expect_Value_lh c44.ps c44.rs (T := RAT × Int) (fun y => (y.2.1, y.2.2.1)) (m_0, row_1, set_2, ()) = expect_Value m_0 row_1 set_2 := by kernel_rfl

abbrev e42 : List (Nat × Ctr) := [(28, c28), (44, c44)]

def expect_Base_lh : LH
  | _ => none

theorem expect_Base_eq (m_0 : MODEL) : fnF tb (envL e42) Tryd.f42 expect_Base_lh c42.ps c42.rs (T := RAT × Int) (fun y => (y.2.1, y.2.2.1)) (m_0, ()) = expect_Base m_0 := by kernel_rfl

abbrev e40 : List (Nat × Ctr) := [(35, c35), (36, c36), (42, c42), (48, c48), (67, c67)]

def dendronlaw11_awake_lh : LH
  | _ => none

theorem dendronlaw11_awake_eq  : fnF tb (envL e40) Tryd.f40 dendronlaw11_awake_lh c40.ps c40.rs (T := Bool) (fun y => (y.2.1)) () = dendronlaw11_awake  := by kernel_rfl

abbrev e8 : List (Nat × Ctr) := [(12, c12), (20, c20), (33, c33), (35, c35), (37, c37), (38, c38), (39, c39), (40, c40)]

def dendronlaw11_ExpectReach_lh : LH
  | 6 => some ⟨dendronlaw11_ExpectReach_i3, dendronlaw11_ExpectReach_o3, lp dendronlaw11_ExpectReach_s3 K0⟩
  | 22 => some ⟨dendronlaw11_ExpectReach_i11, dendronlaw11_ExpectReach_o11, lp dendronlaw11_ExpectReach_s11 K0⟩
  | _ => none

theorem dendronlaw11_ExpectReach_l3 (g : dendronlaw11_ExpectReach_i3.V → Option (OT dendronlaw11_ExpectReach_o3)) (v : dendronlaw11_ExpectReach_i3.V) : loopStep tb (envL e8) 91 dendronlaw11_ExpectReach_lh (loopAt 3 (bodyOf Tryd.f8) .skip) dendronlaw11_ExpectReach_i3 dendronlaw11_ExpectReach_o3 g v = dendronlaw11_ExpectReach_s3 g v := by kernel_rfl

theorem dendronlaw11_ExpectReach_l11 (g : dendronlaw11_ExpectReach_i11.V → Option (OT dendronlaw11_ExpectReach_o11)) (v : dendronlaw11_ExpectReach_i11.V) : loopStep tb (envL e8) 91 dendronlaw11_ExpectReach_lh (loopAt 11 (bodyOf Tryd.f8) .skip) dendronlaw11_ExpectReach_i11 dendronlaw11_ExpectReach_o11 g v = dendronlaw11_ExpectReach_s11 g v := by kernel_rfl

theorem dendronlaw11_ExpectReach_eq (a_0 : LEG) (a_1 : Int) : fnF tb (envL e8) Tryd.f8 dendronlaw11_ExpectReach_lh c8.ps c8.rs (T := Bool) (fun y => (y.2.1)) (a_0, a_1, ()) = dendronlaw11_ExpectReach a_0 a_1 := by kernel_rfl

abbrev e41 : List (Nat × Ctr) := [(11, c11), (12, c12)]

def dendronlaw11_Small_lh : LH
  | _ => none

theorem dendronlaw11_Small_eq (m_0 : MODEL) (row_1 : List CELL) : fnF tb (envL e41) Tryd.f41 dendronlaw11_Small_lh c41.ps c41.rs (T := MODEL × (List CELL)) (fun y => (y.2.1, y.2.2.1)) (m_0, row_1, ()) = dendronlaw11_Small m_0 row_1 := by kernel_rfl

abbrev e71 (n : Nat) : List (Nat × Ctr) := [(13, c13), (37, c37), (38, c38), (50, c50), (71, (c71 n)), (100, c100)]

def dendronlaw11_below_lh (n : Nat) : LH
  | _ => none

theorem dendronlaw11_below_eq (n : Nat) (a_0 : List NODE) (a_1 : Int) (a_2 : List CELL) (a_3 : Int) : fnF tb (envL (e71 n)) Tryd.f71 (dendronlaw11_below_lh n) (c71 n).ps (c71 n).rs (T := RAT) (fun y => (y.2.1)) (a_0, a_1, a_2, a_3, ()) = dendronlaw11_below (n + 1) a_0 a_1 a_2 a_3 := by kernel_rfl

abbrev e43 : List (Nat × Ctr) := [(33, c33), (50, c50), (71, (c71 R0))]

def dendronlaw11_Value_lh : LH
  | 6 => some ⟨dendronlaw11_Value_i3, dendronlaw11_Value_o3, lp dendronlaw11_Value_s3 K0⟩
  | _ => none

theorem dendronlaw11_Value_l3 (g : dendronlaw11_Value_i3.V → Option (OT dendronlaw11_Value_o3)) (v : dendronlaw11_Value_i3.V) : loopStep tb (envL e43) 28 dendronlaw11_Value_lh (loopAt 3 (bodyOf Tryd.f43) .skip) dendronlaw11_Value_i3 dendronlaw11_Value_o3 g v = dendronlaw11_Value_s3 g v := by kernel_rfl

theorem dendronlaw11_Value_eq (m_0 : MODEL) (row_1 : List CELL) (set_2 : Int) : fnF tb (envL e43) Tryd.f43 dendronlaw11_Value_lh c43.ps c43.rs (T := RAT) (fun y => (y.2.1)) (m_0, row_1, set_2, ()) = dendronlaw11_Value m_0 row_1 set_2 := by kernel_rfl

abbrev e9 : List (Nat × Ctr) := [(28, c28), (29, c29), (36, c36), (40, c40), (41, c41), (42, c42), (43, c43)]

def dendronlaw11_ExpectBases_lh : LH
  | _ => none

theorem dendronlaw11_ExpectBases_eq (m_0 : MODEL) (row_1 : List CELL) : fnF tb (envL e9) Tryd.f9 dendronlaw11_ExpectBases_lh c9.ps c9.rs (T := Bool) (fun y => (y.2.1)) (m_0, row_1, ()) = dendronlaw11_ExpectBases m_0 row_1 := by kernel_rfl

abbrev e10 : List (Nat × Ctr) := [(16, c16), (36, c36), (40, c40), (41, c41), (44, c44)]

def dendronlaw11_ExpectAll_lh : LH
  | _ => none

theorem dendronlaw11_ExpectAll_eq (m_0 : MODEL) (row_1 : List CELL) : fnF tb (envL e10) Tryd.f10 dendronlaw11_ExpectAll_lh c10.ps c10.rs (T := Bool) (fun y => (y.2.1)) (m_0, row_1, ()) = dendronlaw11_ExpectAll m_0 row_1 := by kernel_rfl
end Go.Proofs.YtflagjfdamgknaaDoor.X

