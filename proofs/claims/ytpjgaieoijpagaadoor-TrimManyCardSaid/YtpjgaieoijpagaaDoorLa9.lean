/- Each function answers so. Printed by a program of our own. -/
import Derived.Test.YtpjgaieoijpagaaDoorLa6

namespace Go.Proofs.YtpjgaieoijpagaaDoor.X
open Go
set_option linter.unusedSimpArgs false
set_option linter.unusedVariables false
set_option maxRecDepth 100000

abbrev e65 : List (Nat × Ctr) := []

def nat_trim_lh : LH
  | 4 => some ⟨nat_trim_i2, nat_trim_o2, lp nat_trim_s2 K0⟩
  | _ => none

theorem nat_trim_l2 (g : nat_trim_i2.V → Option (OT nat_trim_o2)) (v : nat_trim_i2.V) : loopStep tb (envL e65) 23 nat_trim_lh (loopAt 2 (bodyOf Tryd.f65) .skip) nat_trim_i2 nat_trim_o2 g v = nat_trim_s2 g v := by kernel_rfl

theorem nat_trim_eq (a_0 : List Int) : fnF tb (envL e65) Tryd.f65 nat_trim_lh c65.ps c65.rs (T := (List Int)) (fun y => (y.2.1)) (a_0, ()) = nat_trim a_0 := by kernel_rfl

abbrev e47 : List (Nat × Ctr) := [(65, c65)]

def nat_Of_lh : LH
  | _ => none

theorem nat_Of_eq (n_0 : Int) : fnF tb (envL e47) Tryd.f47 nat_Of_lh c47.ps c47.rs (T := (List Int)) (fun y => (y.2.1)) (n_0, ()) = nat_Of n_0 := by kernel_rfl

abbrev e61 : List (Nat × Ctr) := []

def whole_sign_lh : LH
  | _ => none

theorem whole_sign_eq (neg_0 : Bool) (abs_1 : List Int) : fnF tb (envL e61) Tryd.f61 whole_sign_lh c61.ps c61.rs (T := WH) (fun y => (y.2.1)) (neg_0, abs_1, ()) = whole_sign neg_0 abs_1 := by kernel_rfl

abbrev e46 : List (Nat × Ctr) := [(47, c47), (61, c61)]

def whole_Of_lh : LH
  | _ => none

theorem whole_Of_eq (n_0 : Int) : fnF tb (envL e46) Tryd.f46 whole_Of_lh c46.ps c46.rs (T := WH) (fun y => (y.2.1)) (n_0, ()) = whole_Of n_0 := by kernel_rfl

abbrev e26 : List (Nat × Ctr) := [(46, c46), (47, c47)]

def ratio_Of_lh : LH
  | _ => none

theorem ratio_Of_eq (n_0 : Int) : fnF tb (envL e26) Tryd.f26 ratio_Of_lh c26.ps c26.rs (T := RAT) (fun y => (y.2.1)) (n_0, ()) = ratio_Of n_0 := by kernel_rfl

abbrev e8 : List (Nat × Ctr) := [(26, c26)]

def ratio_One_lh : LH
  | _ => none

theorem ratio_One_eq  : fnF tb (envL e8) Tryd.f8 ratio_One_lh c8.ps c8.rs (T := RAT) (fun y => (y.2.1)) () = ratio_One  := by kernel_rfl

abbrev e57 : List (Nat × Ctr) := [(65, c65)]

def nat_Clean_lh : LH
  | 6 => some ⟨nat_Clean_i3, nat_Clean_o3, lp nat_Clean_s3 K0⟩
  | _ => none

theorem nat_Clean_l3 (g : nat_Clean_i3.V → Option (OT nat_Clean_o3)) (v : nat_Clean_i3.V) : loopStep tb (envL e57) 24 nat_Clean_lh (loopAt 3 (bodyOf Tryd.f57) .skip) nat_Clean_i3 nat_Clean_o3 g v = nat_Clean_s3 g v := by kernel_rfl

theorem nat_Clean_eq (a_0 : List Int) : fnF tb (envL e57) Tryd.f57 nat_Clean_lh c57.ps c57.rs (T := (List Int)) (fun y => (y.2.1)) (a_0, ()) = nat_Clean a_0 := by kernel_rfl

abbrev e83 : List (Nat × Ctr) := [(57, c57)]

def nat_To_lh : LH
  | _ => none

theorem nat_To_eq (a_0 : List Int) : fnF tb (envL e83) Tryd.f83 nat_To_lh c83.ps c83.rs (T := Int × Bool) (fun y => (y.2.1, y.2.2.1)) (a_0, ()) = nat_To a_0 := by kernel_rfl

abbrev e71 : List (Nat × Ctr) := [(47, c47), (83, c83)]

def nat_euclid_lh : LH
  | 6 => some ⟨nat_euclid_i3, nat_euclid_o3, lp nat_euclid_s3 K0⟩
  | _ => none

theorem nat_euclid_l3 (g : nat_euclid_i3.V → Option (OT nat_euclid_o3)) (v : nat_euclid_i3.V) : loopStep tb (envL e71) 27 nat_euclid_lh (loopAt 3 (bodyOf Tryd.f71) .skip) nat_euclid_i3 nat_euclid_o3 g v = nat_euclid_s3 g v := by kernel_rfl

theorem nat_euclid_eq (a_0 : List Int) (b_1 : List Int) : fnF tb (envL e71) Tryd.f71 nat_euclid_lh c71.ps c71.rs (T := (List Int)) (fun y => (y.2.1)) (a_0, b_1, ()) = nat_euclid a_0 b_1 := by kernel_rfl

abbrev e72 : List (Nat × Ctr) := [(84, c84)]

def nat_zeros_lh : LH
  | 6 => some ⟨nat_zeros_i3, nat_zeros_o3, lp nat_zeros_s3 K0⟩
  | _ => none

theorem nat_zeros_l3 (g : nat_zeros_i3.V → Option (OT nat_zeros_o3)) (v : nat_zeros_i3.V) : loopStep tb (envL e72) 24 nat_zeros_lh (loopAt 3 (bodyOf Tryd.f72) .skip) nat_zeros_i3 nat_zeros_o3 g v = nat_zeros_s3 g v := by kernel_rfl

theorem nat_zeros_eq (a_0 : List Int) : fnF tb (envL e72) Tryd.f72 nat_zeros_lh c72.ps c72.rs (T := Int) (fun y => (y.2.1)) (a_0, ()) = nat_zeros a_0 := by kernel_rfl

abbrev e80 : List (Nat × Ctr) := []

def nat_limb_lh : LH
  | _ => none

theorem nat_limb_eq (a_0 : List Int) (i_1 : Int) : fnF tb (envL e80) Tryd.f80 nat_limb_lh c80.ps c80.rs (T := Int) (fun y => (y.2.1)) (a_0, i_1, ()) = nat_limb a_0 i_1 := by kernel_rfl

abbrev e73 : List (Nat × Ctr) := [(65, c65), (80, c80)]

def nat_shr_lh : LH
  | 12 => some ⟨nat_shr_i6, nat_shr_o6, lp nat_shr_s6 K0⟩
  | _ => none

theorem nat_shr_l6 (g : nat_shr_i6.V → Option (OT nat_shr_o6)) (v : nat_shr_i6.V) : loopStep tb (envL e73) 50 nat_shr_lh (loopAt 6 (bodyOf Tryd.f73) .skip) nat_shr_i6 nat_shr_o6 g v = nat_shr_s6 g v := by kernel_rfl

theorem nat_shr_eq (a_0 : List Int) (n_1 : Int) : fnF tb (envL e73) Tryd.f73 nat_shr_lh c73.ps c73.rs (T := (List Int)) (fun y => (y.2.1)) (a_0, n_1, ()) = nat_shr a_0 n_1 := by kernel_rfl

abbrev e74 : List (Nat × Ctr) := []

def nat_order_lh : LH
  | 12 => some ⟨nat_order_i6, nat_order_o6, lp nat_order_s6 K0⟩
  | _ => none

theorem nat_order_l6 (g : nat_order_i6.V → Option (OT nat_order_o6)) (v : nat_order_i6.V) : loopStep tb (envL e74) 45 nat_order_lh (loopAt 6 (bodyOf Tryd.f74) .skip) nat_order_i6 nat_order_o6 g v = nat_order_s6 g v := by kernel_rfl

theorem nat_order_eq (a_0 : List Int) (b_1 : List Int) : fnF tb (envL e74) Tryd.f74 nat_order_lh c74.ps c74.rs (T := Int) (fun y => (y.2.1)) (a_0, b_1, ()) = nat_order a_0 b_1 := by kernel_rfl

abbrev e75 : List (Nat × Ctr) := [(65, c65)]

def nat_shl_lh : LH
  | 8 => some ⟨nat_shl_i4, nat_shl_o4, lp nat_shl_s4 K0⟩
  | _ => none

theorem nat_shl_l4 (g : nat_shl_i4.V → Option (OT nat_shl_o4)) (v : nat_shl_i4.V) : loopStep tb (envL e75) 51 nat_shl_lh (loopAt 4 (bodyOf Tryd.f75) .skip) nat_shl_i4 nat_shl_o4 g v = nat_shl_s4 g v := by kernel_rfl

theorem nat_shl_eq (a_0 : List Int) (n_1 : Int) : fnF tb (envL e75) Tryd.f75 nat_shl_lh c75.ps c75.rs (T := (List Int)) (fun y => (y.2.1)) (a_0, n_1, ()) = nat_shl a_0 n_1 := by kernel_rfl

abbrev e78 : List (Nat × Ctr) := [(65, c65)]

def nat_small_lh : LH
  | 8 => some ⟨nat_small_i4, nat_small_o4, lp nat_small_s4 K0⟩
  | _ => none

theorem nat_small_l4 (g : nat_small_i4.V → Option (OT nat_small_o4)) (v : nat_small_i4.V) : loopStep tb (envL e78) 38 nat_small_lh (loopAt 4 (bodyOf Tryd.f78) .skip) nat_small_i4 nat_small_o4 g v = nat_small_s4 g v := by kernel_rfl

theorem nat_small_eq (a_0 : List Int) (d_1 : Int) : fnF tb (envL e78) Tryd.f78 nat_small_lh c78.ps c78.rs (T := (List Int) × Int) (fun y => (y.2.1, y.2.2.1)) (a_0, d_1, ()) = nat_small a_0 d_1 := by kernel_rfl

abbrev e85 : List (Nat × Ctr) := [(88, c88)]

def bits_LeadingZeros32_lh : LH
  | _ => none

theorem bits_LeadingZeros32_eq (x_0 : Int) : fnF tb (envL e85) Tryd.f85 bits_LeadingZeros32_lh c85.ps c85.rs (T := Int) (fun y => (y.2.1)) (x_0, ()) = bits_LeadingZeros32 x_0 := by kernel_rfl

abbrev e89 : List (Nat × Ctr) := [(80, c80)]

def nat_take_lh : LH
  | 6 => some ⟨nat_take_i3, nat_take_o3, lp nat_take_s3 K0⟩
  | _ => none

theorem nat_take_l3 (g : nat_take_i3.V → Option (OT nat_take_o3)) (v : nat_take_i3.V) : loopStep tb (envL e89) 46 nat_take_lh (loopAt 3 (bodyOf Tryd.f89) .skip) nat_take_i3 nat_take_o3 g v = nat_take_s3 g v := by kernel_rfl

theorem nat_take_eq (u_0 : List Int) (v_1 : List Int) (times_2 : Int) : fnF tb (envL e89) Tryd.f89 nat_take_lh c89.ps c89.rs (T := (List Int) × Bool) (fun y => (y.1.1, y.2.1)) (u_0, v_1, times_2, ()) = nat_take u_0 v_1 times_2 := by kernel_rfl

abbrev e90 : List (Nat × Ctr) := [(80, c80)]

def nat_give_lh : LH
  | 4 => some ⟨nat_give_i2, nat_give_o2, lp nat_give_s2 K0⟩
  | _ => none

theorem nat_give_l2 (g : nat_give_i2.V → Option (OT nat_give_o2)) (v : nat_give_i2.V) : loopStep tb (envL e90) 29 nat_give_lh (loopAt 2 (bodyOf Tryd.f90) .skip) nat_give_i2 nat_give_o2 g v = nat_give_s2 g v := by kernel_rfl

theorem nat_give_eq (u_0 : List Int) (v_1 : List Int) : fnF tb (envL e90) Tryd.f90 nat_give_lh c90.ps c90.rs (T := (List Int)) (fun y => (y.1.1)) (u_0, v_1, ()) = nat_give u_0 v_1 := by kernel_rfl

abbrev e86 : List (Nat × Ctr) := [(89, c89), (90, c90)]

def nat_digit_lh : LH
  | 8 => some ⟨nat_digit_i4, nat_digit_o4, lp nat_digit_s4 K0⟩
  | _ => none

theorem nat_digit_l4 (g : nat_digit_i4.V → Option (OT nat_digit_o4)) (v : nat_digit_i4.V) : loopStep tb (envL e86) 77 nat_digit_lh (loopAt 4 (bodyOf Tryd.f86) .skip) nat_digit_i4 nat_digit_o4 g v = nat_digit_s4 g v := by kernel_rfl

theorem nat_digit_eq (a_0 : List Int) (a_1 : List Int) : fnF tb (envL e86) Tryd.f86 nat_digit_lh c86.ps c86.rs (T := (List Int) × Int) (fun y => (y.1.1, y.2.1)) (a_0, a_1, ()) = nat_digit a_0 a_1 := by kernel_rfl

abbrev e79 : List (Nat × Ctr) := [(65, c65), (73, c73), (75, c75), (85, c85), (86, c86)]

def nat_long_lh : LH
  | 14 => some ⟨nat_long_i7, nat_long_o7, lp nat_long_s7 K0⟩
  | _ => none

theorem nat_long_l7 (g : nat_long_i7.V → Option (OT nat_long_o7)) (v : nat_long_i7.V) : loopStep tb (envL e79) 64 nat_long_lh (loopAt 7 (bodyOf Tryd.f79) .skip) nat_long_i7 nat_long_o7 g v = nat_long_s7 g v := by kernel_rfl

theorem nat_long_eq (a_0 : List Int) (b_1 : List Int) : fnF tb (envL e79) Tryd.f79 nat_long_lh c79.ps c79.rs (T := (List Int) × (List Int)) (fun y => (y.2.1, y.2.2.1)) (a_0, b_1, ()) = nat_long a_0 b_1 := by kernel_rfl

abbrev e60 : List (Nat × Ctr) := [(47, c47), (57, c57), (74, c74), (78, c78), (79, c79)]

def nat_DivMod_lh : LH
  | _ => none

theorem nat_DivMod_eq (a_0 : List Int) (b_1 : List Int) : fnF tb (envL e60) Tryd.f60 nat_DivMod_lh c60.ps c60.rs (T := (List Int) × (List Int) × Int) (fun y => (y.2.1, y.2.2.1, y.2.2.2.1)) (a_0, b_1, ()) = nat_DivMod a_0 b_1 := by kernel_rfl

abbrev e76 : List (Nat × Ctr) := [(60, c60)]

def nat_rest_lh : LH
  | _ => none

theorem nat_rest_eq (a_0 : List Int) (b_1 : List Int) : fnF tb (envL e76) Tryd.f76 nat_rest_lh c76.ps c76.rs (T := (List Int) × (List Int)) (fun y => (y.2.1, y.2.2.1)) (a_0, b_1, ()) = nat_rest a_0 b_1 := by kernel_rfl

abbrev e77 : List (Nat × Ctr) := [(65, c65), (80, c80)]

def nat_minus_lh : LH
  | 8 => some ⟨nat_minus_i4, nat_minus_o4, lp nat_minus_s4 K0⟩
  | _ => none

theorem nat_minus_l4 (g : nat_minus_i4.V → Option (OT nat_minus_o4)) (v : nat_minus_i4.V) : loopStep tb (envL e77) 39 nat_minus_lh (loopAt 4 (bodyOf Tryd.f77) .skip) nat_minus_i4 nat_minus_o4 g v = nat_minus_s4 g v := by kernel_rfl

theorem nat_minus_eq (a_0 : List Int) (b_1 : List Int) : fnF tb (envL e77) Tryd.f77 nat_minus_lh c77.ps c77.rs (T := (List Int)) (fun y => (y.2.1)) (a_0, b_1, ()) = nat_minus a_0 b_1 := by kernel_rfl

abbrev e59 : List (Nat × Ctr) := [(57, c57), (71, c71), (72, c72), (73, c73), (74, c74), (75, c75), (76, c76), (77, c77)]

def nat_Gcd_lh : LH
  | 20 => some ⟨nat_Gcd_i10, nat_Gcd_o10, lp nat_Gcd_s10 K0⟩
  | _ => none

theorem nat_Gcd_l10 (g : nat_Gcd_i10.V → Option (OT nat_Gcd_o10)) (v : nat_Gcd_i10.V) : loopStep tb (envL e59) 86 nat_Gcd_lh (loopAt 10 (bodyOf Tryd.f59) .skip) nat_Gcd_i10 nat_Gcd_o10 g v = nat_Gcd_s10 g v := by kernel_rfl

theorem nat_Gcd_eq (a_0 : List Int) (a_1 : List Int) : fnF tb (envL e59) Tryd.f59 nat_Gcd_lh c59.ps c59.rs (T := (List Int)) (fun y => (y.2.1)) (a_0, a_1, ()) = nat_Gcd a_0 a_1 := by kernel_rfl

abbrev e33 : List (Nat × Ctr) := [(47, c47), (59, c59), (60, c60)]

def ratio_form_lh : LH
  | _ => none

theorem ratio_form_eq (num_0 : WH) (den_1 : List Int) : fnF tb (envL e33) Tryd.f33 ratio_form_lh c33.ps c33.rs (T := RAT) (fun y => (y.2.1)) (num_0, den_1, ()) = ratio_form num_0 den_1 := by kernel_rfl

abbrev e38 : List (Nat × Ctr) := [(47, c47)]

def ratio_Zero_lh : LH
  | _ => none

theorem ratio_Zero_eq  : fnF tb (envL e38) Tryd.f38 ratio_Zero_lh c38.ps c38.rs (T := RAT) (fun y => (y.2.1)) () = ratio_Zero  := by kernel_rfl

abbrev e58 : List (Nat × Ctr) := [(57, c57), (61, c61)]

def whole_Clean_lh : LH
  | _ => none

theorem whole_Clean_eq (a_0 : WH) : fnF tb (envL e58) Tryd.f58 whole_Clean_lh c58.ps c58.rs (T := WH) (fun y => (y.2.1)) (a_0, ()) = whole_Clean a_0 := by kernel_rfl

abbrev e32 : List (Nat × Ctr) := [(33, c33), (38, c38), (57, c57), (58, c58)]

def ratio_Clean_lh : LH
  | _ => none

theorem ratio_Clean_eq (a_0 : RAT) : fnF tb (envL e32) Tryd.f32 ratio_Clean_lh c32.ps c32.rs (T := RAT) (fun y => (y.2.1)) (a_0, ()) = ratio_Clean a_0 := by kernel_rfl

abbrev e37 : List (Nat × Ctr) := [(57, c57), (65, c65)]

def nat_Mul_lh : LH
  | 16 => some ⟨nat_Mul_i8, nat_Mul_o8, lp nat_Mul_s8 K0⟩
  | 8 => some ⟨nat_Mul_i4, nat_Mul_o4, lp nat_Mul_s4 K0⟩
  | _ => none

theorem nat_Mul_l8 (g : nat_Mul_i8.V → Option (OT nat_Mul_o8)) (v : nat_Mul_i8.V) : loopStep tb (envL e37) 67 nat_Mul_lh (loopAt 8 (bodyOf Tryd.f37) .skip) nat_Mul_i8 nat_Mul_o8 g v = nat_Mul_s8 g v := by kernel_rfl

theorem nat_Mul_l4 (g : nat_Mul_i4.V → Option (OT nat_Mul_o4)) (v : nat_Mul_i4.V) : loopStep tb (envL e37) 67 nat_Mul_lh (loopAt 4 (bodyOf Tryd.f37) .skip) nat_Mul_i4 nat_Mul_o4 g v = nat_Mul_s4 g v := by kernel_rfl

theorem nat_Mul_eq (a_0 : List Int) (a_1 : List Int) : fnF tb (envL e37) Tryd.f37 nat_Mul_lh c37.ps c37.rs (T := (List Int)) (fun y => (y.2.1)) (a_0, a_1, ()) = nat_Mul a_0 a_1 := by kernel_rfl

abbrev e35 : List (Nat × Ctr) := [(37, c37), (58, c58), (61, c61)]

def whole_Mul_lh : LH
  | _ => none

theorem whole_Mul_eq (a_0 : WH) (b_1 : WH) : fnF tb (envL e35) Tryd.f35 whole_Mul_lh c35.ps c35.rs (T := WH) (fun y => (y.2.1)) (a_0, b_1, ()) = whole_Mul a_0 b_1 := by kernel_rfl

abbrev e36 : List (Nat × Ctr) := []

def ratio_den_lh : LH
  | _ => none

theorem ratio_den_eq (a_0 : RAT) : fnF tb (envL e36) Tryd.f36 ratio_den_lh c36.ps c36.rs (T := WH) (fun y => (y.2.1)) (a_0, ()) = ratio_den a_0 := by kernel_rfl

abbrev e63 : List (Nat × Ctr) := [(57, c57), (74, c74)]

def nat_Cmp_lh : LH
  | _ => none

theorem nat_Cmp_eq (a_0 : List Int) (b_1 : List Int) : fnF tb (envL e63) Tryd.f63 nat_Cmp_lh c63.ps c63.rs (T := Int) (fun y => (y.2.1)) (a_0, b_1, ()) = nat_Cmp a_0 b_1 := by kernel_rfl

abbrev e69 : List (Nat × Ctr) := [(58, c58), (63, c63)]

def whole_Cmp_lh : LH
  | _ => none

theorem whole_Cmp_eq (a_0 : WH) (b_1 : WH) : fnF tb (envL e69) Tryd.f69 whole_Cmp_lh c69.ps c69.rs (T := Int) (fun y => (y.2.1)) (a_0, b_1, ()) = whole_Cmp a_0 b_1 := by kernel_rfl

abbrev e40 : List (Nat × Ctr) := [(32, c32), (35, c35), (36, c36), (69, c69)]

def ratio_Cmp_lh : LH
  | _ => none

theorem ratio_Cmp_eq (a_0 : RAT) (b_1 : RAT) : fnF tb (envL e40) Tryd.f40 ratio_Cmp_lh c40.ps c40.rs (T := Int) (fun y => (y.2.1)) (a_0, b_1, ()) = ratio_Cmp a_0 b_1 := by kernel_rfl

abbrev e20 : List (Nat × Ctr) := [(40, c40)]

def ratio_Same_lh : LH
  | _ => none

theorem ratio_Same_eq (a_0 : RAT) (b_1 : RAT) : fnF tb (envL e20) Tryd.f20 ratio_Same_lh c20.ps c20.rs (T := Bool) (fun y => (y.2.1)) (a_0, b_1, ()) = ratio_Same a_0 b_1 := by kernel_rfl

abbrev e15 : List (Nat × Ctr) := [(32, c32)]

def model_Tidy_lh : LH
  | 14 => some ⟨model_Tidy_i7, model_Tidy_o7, lp model_Tidy_s7 K0⟩
  | 6 => some ⟨model_Tidy_i3, model_Tidy_o3, lp model_Tidy_s3 K0⟩
  | _ => none

theorem model_Tidy_l7 (g : model_Tidy_i7.V → Option (OT model_Tidy_o7)) (v : model_Tidy_i7.V) : loopStep tb (envL e15) 67 model_Tidy_lh (loopAt 7 (bodyOf Tryd.f15) .skip) model_Tidy_i7 model_Tidy_o7 g v = model_Tidy_s7 g v := by kernel_rfl

theorem model_Tidy_l3 (g : model_Tidy_i3.V → Option (OT model_Tidy_o3)) (v : model_Tidy_i3.V) : loopStep tb (envL e15) 67 model_Tidy_lh (loopAt 3 (bodyOf Tryd.f15) .skip) model_Tidy_i3 model_Tidy_o3 g v = model_Tidy_s3 g v := by kernel_rfl

theorem model_Tidy_eq (a_0 : MODEL) : fnF tb (envL e15) Tryd.f15 model_Tidy_lh c15.ps c15.rs (T := MODEL) (fun y => (y.2.1)) (a_0, ()) = model_Tidy a_0 := by kernel_rfl

abbrev e50 (n : Nat) : List (Nat × Ctr) := [(50, (c50 n))]

def trim_copyOf_lh (n : Nat) : LH
  | _ => none

theorem trim_copyOf_eq (n : Nat) (t_0 : List NODE) (at_1 : Int) (out_2 : List NODE) : fnF tb (envL (e50 n)) Tryd.f50 (trim_copyOf_lh n) (c50 n).ps (c50 n).rs (T := (List NODE) × Int) (fun y => (y.2.1, y.2.2.1)) (t_0, at_1, out_2, ()) = trim_copyOf (n + 1) t_0 at_1 out_2 := by kernel_rfl

abbrev e51 : List (Nat × Ctr) := []

def model_Fits_lh : LH
  | 18 => some ⟨model_Fits_i9, model_Fits_o9, lp model_Fits_s9 K0⟩
  | 8 => some ⟨model_Fits_i4, model_Fits_o4, lp model_Fits_s4 K0⟩
  | _ => none

theorem model_Fits_l9 (g : model_Fits_i9.V → Option (OT model_Fits_o9)) (v : model_Fits_i9.V) : loopStep tb (envL e51) 72 model_Fits_lh (loopAt 9 (bodyOf Tryd.f51) .skip) model_Fits_i9 model_Fits_o9 g v = model_Fits_s9 g v := by kernel_rfl

theorem model_Fits_l4 (g : model_Fits_i4.V → Option (OT model_Fits_o4)) (v : model_Fits_i4.V) : loopStep tb (envL e51) 72 model_Fits_lh (loopAt 4 (bodyOf Tryd.f51) .skip) model_Fits_i4 model_Fits_o4 g v = model_Fits_s4 g v := by kernel_rfl

theorem model_Fits_eq (a_0 : MODEL) : fnF tb (envL e51) Tryd.f51 model_Fits_lh c51.ps c51.rs (T := Bool) (fun y => (y.2.1)) (a_0, ()) = model_Fits a_0 := by kernel_rfl

abbrev e52 : List (Nat × Ctr) := []

def valid_ranges_lh : LH
  | 4 => some ⟨valid_ranges_i2, valid_ranges_o2, lp valid_ranges_s2 K0⟩
  | _ => none

theorem valid_ranges_l2 (g : valid_ranges_i2.V → Option (OT valid_ranges_o2)) (v : valid_ranges_i2.V) : loopStep tb (envL e52) 52 valid_ranges_lh (loopAt 2 (bodyOf Tryd.f52) .skip) valid_ranges_i2 valid_ranges_o2 g v = valid_ranges_s2 g v := by kernel_rfl

theorem valid_ranges_eq (t_0 : List NODE) (features_1 : Int) : fnF tb (envL e52) Tryd.f52 valid_ranges_lh c52.ps c52.rs (T := Int × Int) (fun y => (y.2.1, y.2.2.1)) (t_0, features_1, ()) = valid_ranges t_0 features_1 := by kernel_rfl

abbrev e53 : List (Nat × Ctr) := []

def valid_shape_lh : LH
  | 6 => some ⟨valid_shape_i3, valid_shape_o3, lp valid_shape_s3 K0⟩
  | 20 => some ⟨valid_shape_i10, valid_shape_o10, lp valid_shape_s10 K0⟩
  | 34 => some ⟨valid_shape_i17, valid_shape_o17, lp valid_shape_s17 K0⟩
  | 50 => some ⟨valid_shape_i25, valid_shape_o25, lp valid_shape_s25 K0⟩
  | _ => none

theorem valid_shape_l3 (g : valid_shape_i3.V → Option (OT valid_shape_o3)) (v : valid_shape_i3.V) : loopStep tb (envL e53) 103 valid_shape_lh (loopAt 3 (bodyOf Tryd.f53) .skip) valid_shape_i3 valid_shape_o3 g v = valid_shape_s3 g v := by kernel_rfl

theorem valid_shape_l10 (g : valid_shape_i10.V → Option (OT valid_shape_o10)) (v : valid_shape_i10.V) : loopStep tb (envL e53) 103 valid_shape_lh (loopAt 10 (bodyOf Tryd.f53) .skip) valid_shape_i10 valid_shape_o10 g v = valid_shape_s10 g v := by kernel_rfl

theorem valid_shape_l17 (g : valid_shape_i17.V → Option (OT valid_shape_o17)) (v : valid_shape_i17.V) : loopStep tb (envL e53) 103 valid_shape_lh (loopAt 17 (bodyOf Tryd.f53) .skip) valid_shape_i17 valid_shape_o17 g v = valid_shape_s17 g v := by kernel_rfl

theorem valid_shape_l25 (g : valid_shape_i25.V → Option (OT valid_shape_o25)) (v : valid_shape_i25.V) : loopStep tb (envL e53) 103 valid_shape_lh (loopAt 25 (bodyOf Tryd.f53) .skip) valid_shape_i25 valid_shape_o25 g v = valid_shape_s25 g v := by kernel_rfl

theorem valid_shape_eq (a_0 : List NODE) : fnF tb (envL e53) Tryd.f53 valid_shape_lh c53.ps c53.rs (T := Int × Int) (fun y => (y.2.1, y.2.2.1)) (a_0, ()) = valid_shape a_0 := by kernel_rfl

abbrev e45 : List (Nat × Ctr) := [(58, c58)]

def whole_Sign_lh : LH
  | _ => none

theorem whole_Sign_eq (a_0 : WH) : fnF tb (envL e45) Tryd.f45 whole_Sign_lh c45.ps c45.rs (T := Int) (fun y => (y.2.1)) (a_0, ()) = whole_Sign a_0 := by kernel_rfl

abbrev e24 : List (Nat × Ctr) := [(32, c32), (45, c45)]

def ratio_Sign_lh : LH
  | _ => none

theorem ratio_Sign_eq (a_0 : RAT) : fnF tb (envL e24) Tryd.f24 ratio_Sign_lh c24.ps c24.rs (T := Int) (fun y => (y.2.1)) (a_0, ()) = ratio_Sign a_0 := by kernel_rfl

abbrev e54 : List (Nat × Ctr) := [(24, c24)]

def valid_covers_lh : LH
  | 4 => some ⟨valid_covers_i2, valid_covers_o2, lp valid_covers_s2 K0⟩
  | _ => none

theorem valid_covers_l2 (g : valid_covers_i2.V → Option (OT valid_covers_o2)) (v : valid_covers_i2.V) : loopStep tb (envL e54) 19 valid_covers_lh (loopAt 2 (bodyOf Tryd.f54) .skip) valid_covers_i2 valid_covers_o2 g v = valid_covers_s2 g v := by kernel_rfl

theorem valid_covers_eq (t_0 : List NODE) : fnF tb (envL e54) Tryd.f54 valid_covers_lh c54.ps c54.rs (T := Int × Int) (fun y => (y.2.1, y.2.2.1)) (t_0, ()) = valid_covers t_0 := by kernel_rfl

abbrev e62 : List (Nat × Ctr) := [(57, c57), (65, c65), (80, c80)]

def nat_Add_lh : LH
  | 10 => some ⟨nat_Add_i5, nat_Add_o5, lp nat_Add_s5 K0⟩
  | _ => none

theorem nat_Add_l5 (g : nat_Add_i5.V → Option (OT nat_Add_o5)) (v : nat_Add_i5.V) : loopStep tb (envL e62) 43 nat_Add_lh (loopAt 5 (bodyOf Tryd.f62) .skip) nat_Add_i5 nat_Add_o5 g v = nat_Add_s5 g v := by kernel_rfl

theorem nat_Add_eq (a_0 : List Int) (b_1 : List Int) : fnF tb (envL e62) Tryd.f62 nat_Add_lh c62.ps c62.rs (T := (List Int)) (fun y => (y.2.1)) (a_0, b_1, ()) = nat_Add a_0 b_1 := by kernel_rfl

abbrev e64 : List (Nat × Ctr) := [(57, c57), (74, c74), (77, c77)]

def nat_Sub_lh : LH
  | _ => none

theorem nat_Sub_eq (a_0 : List Int) (b_1 : List Int) : fnF tb (envL e64) Tryd.f64 nat_Sub_lh c64.ps c64.rs (T := (List Int) × Int) (fun y => (y.2.1, y.2.2.1)) (a_0, b_1, ()) = nat_Sub a_0 b_1 := by kernel_rfl

abbrev e34 : List (Nat × Ctr) := [(58, c58), (61, c61), (62, c62), (63, c63), (64, c64)]

def whole_Add_lh : LH
  | _ => none

theorem whole_Add_eq (a_0 : WH) (b_1 : WH) : fnF tb (envL e34) Tryd.f34 whole_Add_lh c34.ps c34.rs (T := WH) (fun y => (y.2.1)) (a_0, b_1, ()) = whole_Add a_0 b_1 := by kernel_rfl

abbrev e18 : List (Nat × Ctr) := [(32, c32), (33, c33), (34, c34), (35, c35), (36, c36), (37, c37)]

def ratio_Add_lh : LH
  | _ => none

theorem ratio_Add_eq (a_0 : RAT) (b_1 : RAT) : fnF tb (envL e18) Tryd.f18 ratio_Add_lh c18.ps c18.rs (T := RAT) (fun y => (y.2.1)) (a_0, b_1, ()) = ratio_Add a_0 b_1 := by kernel_rfl

abbrev e55 : List (Nat × Ctr) := [(18, c18), (20, c20)]

def valid_sums_lh : LH
  | 4 => some ⟨valid_sums_i2, valid_sums_o2, lp valid_sums_s2 K0⟩
  | _ => none

theorem valid_sums_l2 (g : valid_sums_i2.V → Option (OT valid_sums_o2)) (v : valid_sums_i2.V) : loopStep tb (envL e55) 37 valid_sums_lh (loopAt 2 (bodyOf Tryd.f55) .skip) valid_sums_i2 valid_sums_o2 g v = valid_sums_s2 g v := by kernel_rfl

theorem valid_sums_eq (t_0 : List NODE) : fnF tb (envL e55) Tryd.f55 valid_sums_lh c55.ps c55.rs (T := Int × Int) (fun y => (y.2.1, y.2.2.1)) (t_0, ()) = valid_sums t_0 := by kernel_rfl

abbrev e56 : List (Nat × Ctr) := []

def valid_fault_lh : LH
  | _ => none

theorem valid_fault_eq (e_0 : Int) (tree_1 : Int) (node_2 : Int) : fnF tb (envL e56) Tryd.f56 valid_fault_lh c56.ps c56.rs (T := (Int × Int × Int × Int)) (fun y => (y.2.1)) (e_0, tree_1, node_2, ()) = valid_fault e_0 tree_1 node_2 := by kernel_rfl

abbrev e30 : List (Nat × Ctr) := [(51, c51), (52, c52), (53, c53), (54, c54), (55, c55), (56, c56)]

def valid_Check_lh : LH
  | 14 => some ⟨valid_Check_i7, valid_Check_o7, lp valid_Check_s7 K0⟩
  | 8 => some ⟨valid_Check_i4, valid_Check_o4, lp valid_Check_s4 K0⟩
  | _ => none

theorem valid_Check_l7 (g : valid_Check_i7.V → Option (OT valid_Check_o7)) (v : valid_Check_i7.V) : loopStep tb (envL e30) 63 valid_Check_lh (loopAt 7 (bodyOf Tryd.f30) .skip) valid_Check_i7 valid_Check_o7 g v = valid_Check_s7 g v := by kernel_rfl

theorem valid_Check_l4 (g : valid_Check_i4.V → Option (OT valid_Check_o4)) (v : valid_Check_i4.V) : loopStep tb (envL e30) 63 valid_Check_lh (loopAt 4 (bodyOf Tryd.f30) .skip) valid_Check_i4 valid_Check_o4 g v = valid_Check_s4 g v := by kernel_rfl

theorem valid_Check_eq (m_0 : MODEL) : fnF tb (envL e30) Tryd.f30 valid_Check_lh c30.ps c30.rs (T := (Int × Int × Int × Int)) (fun y => (y.2.1)) (m_0, ()) = valid_Check m_0 := by kernel_rfl

abbrev e13 : List (Nat × Ctr) := [(30, c30)]

def valid_Ok_lh : LH
  | _ => none

theorem valid_Ok_eq (m_0 : MODEL) : fnF tb (envL e13) Tryd.f13 valid_Ok_lh c13.ps c13.rs (T := Bool) (fun y => (y.2.1)) (m_0, ()) = valid_Ok m_0 := by kernel_rfl

abbrev e70 : List (Nat × Ctr) := [(13, c13)]

def valid_Tree_lh : LH
  | _ => none

theorem valid_Tree_eq (t_0 : List NODE) (features_1 : Int) : fnF tb (envL e70) Tryd.f70 valid_Tree_lh c70.ps c70.rs (T := Bool) (fun y => (y.2.1)) (t_0, features_1, ()) = valid_Tree t_0 features_1 := by kernel_rfl

abbrev e48 : List (Nat × Ctr) := [(15, c15), (50, (c50 R0)), (70, c70)]

def trim_Order_lh : LH
  | _ => none

theorem trim_Order_eq (t_0 : List NODE) (features_1 : Int) : fnF tb (envL e48) Tryd.f48 trim_Order_lh c48.ps c48.rs (T := (List NODE) × Int) (fun y => (y.2.1, y.2.2.1)) (t_0, features_1, ()) = trim_Order t_0 features_1 := by kernel_rfl

abbrev e49 (n : Nat) : List (Nat × Ctr) := [(20, c20), (49, (c49 n))]

def trim_shrink_lh (n : Nat) : LH
  | _ => none

theorem trim_shrink_eq (n : Nat) (t_0 : List NODE) (at_1 : Int) : fnF tb (envL (e49 n)) Tryd.f49 (trim_shrink_lh n) (c49 n).ps (c49 n).rs (T := (List NODE)) (fun y => (y.1.1)) (t_0, at_1, ()) = trim_shrink (n + 1) t_0 at_1 := by kernel_rfl

abbrev e27 : List (Nat × Ctr) := [(48, c48), (49, (c49 R0)), (50, (c50 R0))]

def trim_Shrink_lh : LH
  | _ => none

theorem trim_Shrink_eq (t_0 : List NODE) (features_1 : Int) : fnF tb (envL e27) Tryd.f27 trim_Shrink_lh c27.ps c27.rs (T := (List NODE) × Int) (fun y => (y.2.1, y.2.2.1)) (t_0, features_1, ()) = trim_Shrink t_0 features_1 := by kernel_rfl

abbrev e7 : List (Nat × Ctr) := [(8, c8), (20, c20), (26, c26), (27, c27)]

def dendronlaw25_awake_lh : LH
  | _ => none

theorem dendronlaw25_awake_eq  : fnF tb (envL e7) Tryd.f7 dendronlaw25_awake_lh c7.ps c7.rs (T := Bool) (fun y => (y.2.1)) () = dendronlaw25_awake  := by kernel_rfl

abbrev e28 : List (Nat × Ctr) := []

def trim_clone_of_LapiNode_lh : LH
  | _ => none

theorem trim_clone_of_LapiNode_eq (l_0 : List (List NODE)) : fnF tb (envL e28) Tryd.f28 trim_clone_of_LapiNode_lh c28.ps c28.rs (T := (List (List NODE))) (fun y => (y.2.1)) (l_0, ()) = trim_clone_of_LapiNode l_0 := by kernel_rfl

abbrev e9 : List (Nat × Ctr) := [(13, c13), (15, c15), (28, c28)]

def trim_Join_lh : LH
  | _ => none

theorem trim_Join_eq (a_0 : MODEL) (b_1 : MODEL) : fnF tb (envL e9) Tryd.f9 trim_Join_lh c9.ps c9.rs (T := MODEL × Int) (fun y => (y.2.1, y.2.2.1)) (a_0, b_1, ()) = trim_Join a_0 b_1 := by kernel_rfl

abbrev e3 : List (Nat × Ctr) := [(7, c7), (8, c8), (9, c9)]

def dendronlaw25_TrimMany_lh : LH
  | 12 => some ⟨dendronlaw25_TrimMany_i6, dendronlaw25_TrimMany_o6, lp dendronlaw25_TrimMany_s6 K0⟩
  | 20 => some ⟨dendronlaw25_TrimMany_i10, dendronlaw25_TrimMany_o10, lp dendronlaw25_TrimMany_s10 K0⟩
  | _ => none

theorem dendronlaw25_TrimMany_l6 (g : dendronlaw25_TrimMany_i6.V → Option (OT dendronlaw25_TrimMany_o6)) (v : dendronlaw25_TrimMany_i6.V) : loopStep tb (envL e3) 87 dendronlaw25_TrimMany_lh (loopAt 6 (bodyOf Tryd.f3) .skip) dendronlaw25_TrimMany_i6 dendronlaw25_TrimMany_o6 g v = dendronlaw25_TrimMany_s6 g v := by kernel_rfl

theorem dendronlaw25_TrimMany_l10 (g : dendronlaw25_TrimMany_i10.V → Option (OT dendronlaw25_TrimMany_o10)) (v : dendronlaw25_TrimMany_i10.V) : loopStep tb (envL e3) 87 dendronlaw25_TrimMany_lh (loopAt 10 (bodyOf Tryd.f3) .skip) dendronlaw25_TrimMany_i10 dendronlaw25_TrimMany_o10 g v = dendronlaw25_TrimMany_s10 g v := by kernel_rfl

theorem dendronlaw25_TrimMany_eq (a_0 : Int) (a_1 : Int) : fnF tb (envL e3) Tryd.f3 dendronlaw25_TrimMany_lh c3.ps c3.rs (T := Bool) (fun y => (y.2.1)) (a_0, a_1, ()) = dendronlaw25_TrimMany a_0 a_1 := by kernel_rfl

abbrev e29 : List (Nat × Ctr) := []

def dendronlaw07_number_lh : LH
  | _ => none

theorem dendronlaw07_number_eq (a_0 : RAT) : fnF tb (envL e29) Tryd.f29 dendronlaw07_number_lh c29.ps c29.rs (T := RAT) (fun y => (y.2.1)) (a_0, ()) = dendronlaw07_number a_0 := by kernel_rfl

abbrev e10 : List (Nat × Ctr) := [(29, c29)]

def dendronlaw07_Few_lh : LH
  | 14 => some ⟨dendronlaw07_Few_i7, dendronlaw07_Few_o7, lp dendronlaw07_Few_s7 K0⟩
  | 6 => some ⟨dendronlaw07_Few_i3, dendronlaw07_Few_o3, lp dendronlaw07_Few_s3 K0⟩
  | _ => none

theorem dendronlaw07_Few_l7 (g : dendronlaw07_Few_i7.V → Option (OT dendronlaw07_Few_o7)) (v : dendronlaw07_Few_i7.V) : loopStep tb (envL e10) 67 dendronlaw07_Few_lh (loopAt 7 (bodyOf Tryd.f10) .skip) dendronlaw07_Few_i7 dendronlaw07_Few_o7 g v = dendronlaw07_Few_s7 g v := by kernel_rfl

theorem dendronlaw07_Few_l3 (g : dendronlaw07_Few_i3.V → Option (OT dendronlaw07_Few_o3)) (v : dendronlaw07_Few_i3.V) : loopStep tb (envL e10) 67 dendronlaw07_Few_lh (loopAt 3 (bodyOf Tryd.f10) .skip) dendronlaw07_Few_i3 dendronlaw07_Few_o3 g v = dendronlaw07_Few_s3 g v := by kernel_rfl

theorem dendronlaw07_Few_eq (a_0 : MODEL) : fnF tb (envL e10) Tryd.f10 dendronlaw07_Few_lh c10.ps c10.rs (T := MODEL) (fun y => (y.2.1)) (a_0, ()) = dendronlaw07_Few a_0 := by kernel_rfl

abbrev e11 : List (Nat × Ctr) := [(13, c13), (15, c15), (28, c28)]

def trim_Head_lh : LH
  | _ => none

theorem trim_Head_eq (m_0 : MODEL) (n_1 : Int) : fnF tb (envL e11) Tryd.f11 trim_Head_lh c11.ps c11.rs (T := MODEL × Int) (fun y => (y.2.1, y.2.2.1)) (m_0, n_1, ()) = trim_Head m_0 n_1 := by kernel_rfl

abbrev e12 : List (Nat × Ctr) := [(13, c13), (15, c15)]

def trim_Wide_lh : LH
  | _ => none

theorem trim_Wide_eq (m_0 : MODEL) (features_1 : Int) : fnF tb (envL e12) Tryd.f12 trim_Wide_lh c12.ps c12.rs (T := MODEL × Int) (fun y => (y.2.1, y.2.2.1)) (m_0, features_1, ()) = trim_Wide m_0 features_1 := by kernel_rfl

abbrev e31 : List (Nat × Ctr) := []

def dendronref07_exact_lh : LH
  | 8 => some ⟨dendronref07_exact_i4, dendronref07_exact_o4, lp dendronref07_exact_s4 K0⟩
  | 18 => some ⟨dendronref07_exact_i9, dendronref07_exact_o9, lp dendronref07_exact_s9 K0⟩
  | _ => none

theorem dendronref07_exact_l4 (g : dendronref07_exact_i4.V → Option (OT dendronref07_exact_o4)) (v : dendronref07_exact_i4.V) : loopStep tb (envL e31) 73 dendronref07_exact_lh (loopAt 4 (bodyOf Tryd.f31) .skip) dendronref07_exact_i4 dendronref07_exact_o4 g v = dendronref07_exact_s4 g v := by kernel_rfl

theorem dendronref07_exact_l9 (g : dendronref07_exact_i9.V → Option (OT dendronref07_exact_o9)) (v : dendronref07_exact_i9.V) : loopStep tb (envL e31) 73 dendronref07_exact_lh (loopAt 9 (bodyOf Tryd.f31) .skip) dendronref07_exact_i9 dendronref07_exact_o9 g v = dendronref07_exact_s9 g v := by kernel_rfl

theorem dendronref07_exact_eq (a_0 : RAT) (a_1 : RAT) : fnF tb (envL e31) Tryd.f31 dendronref07_exact_lh c31.ps c31.rs (T := Bool) (fun y => (y.2.1)) (a_0, a_1, ()) = dendronref07_exact a_0 a_1 := by kernel_rfl

abbrev e14 : List (Nat × Ctr) := [(31, c31)]

def dendronref07_Same_lh : LH
  | 18 => some ⟨dendronref07_Same_i9, dendronref07_Same_o9, lp dendronref07_Same_s9 K0⟩
  | 8 => some ⟨dendronref07_Same_i4, dendronref07_Same_o4, lp dendronref07_Same_s4 K0⟩
  | _ => none

theorem dendronref07_Same_l9 (g : dendronref07_Same_i9.V → Option (OT dendronref07_Same_o9)) (v : dendronref07_Same_i9.V) : loopStep tb (envL e14) 126 dendronref07_Same_lh (loopAt 9 (bodyOf Tryd.f14) .skip) dendronref07_Same_i9 dendronref07_Same_o9 g v = dendronref07_Same_s9 g v := by kernel_rfl

theorem dendronref07_Same_l4 (g : dendronref07_Same_i4.V → Option (OT dendronref07_Same_o4)) (v : dendronref07_Same_i4.V) : loopStep tb (envL e14) 126 dendronref07_Same_lh (loopAt 4 (bodyOf Tryd.f14) .skip) dendronref07_Same_i4 dendronref07_Same_o4 g v = dendronref07_Same_s4 g v := by kernel_rfl

theorem dendronref07_Same_eq (a_0 : MODEL) (a_1 : MODEL) : fnF tb (envL e14) Tryd.f14 dendronref07_Same_lh c14.ps c14.rs (T := Bool) (fun y => (y.2.1)) (a_0, a_1, ()) = dendronref07_Same a_0 a_1 := by kernel_rfl

abbrev e4 : List (Nat × Ctr) := [(7, c7), (10, c10), (11, c11), (12, c12), (13, c13), (14, c14), (15, c15)]

def dendronlaw25_TrimHeads_lh : LH
  | _ => none

theorem dendronlaw25_TrimHeads_eq (a_0 : MODEL) (a_1 : Int) (a_2 : Int) : fnF tb (envL e4) Tryd.f4 dendronlaw25_TrimHeads_lh c4.ps c4.rs (T := Bool) (fun y => (y.2.1)) (a_0, a_1, a_2, ()) = dendronlaw25_TrimHeads a_0 a_1 a_2 := by kernel_rfl

abbrev e41 : List (Nat × Ctr) := []

def dendronlaw09_number_lh : LH
  | _ => none

theorem dendronlaw09_number_eq (a_0 : RAT) : fnF tb (envL e41) Tryd.f41 dendronlaw09_number_lh c41.ps c41.rs (T := RAT) (fun y => (y.2.1)) (a_0, ()) = dendronlaw09_number a_0 := by kernel_rfl

abbrev e21 : List (Nat × Ctr) := [(41, c41)]

def dendronlaw09_Few_lh : LH
  | 6 => some ⟨dendronlaw09_Few_i3, dendronlaw09_Few_o3, lp dendronlaw09_Few_s3 K0⟩
  | _ => none

theorem dendronlaw09_Few_l3 (g : dendronlaw09_Few_i3.V → Option (OT dendronlaw09_Few_o3)) (v : dendronlaw09_Few_i3.V) : loopStep tb (envL e21) 32 dendronlaw09_Few_lh (loopAt 3 (bodyOf Tryd.f21) .skip) dendronlaw09_Few_i3 dendronlaw09_Few_o3 g v = dendronlaw09_Few_s3 g v := by kernel_rfl

theorem dendronlaw09_Few_eq (l_0 : List CELL) (n_1 : Int) : fnF tb (envL e21) Tryd.f21 dendronlaw09_Few_lh c21.ps c21.rs (T := (List CELL)) (fun y => (y.2.1)) (l_0, n_1, ()) = dendronlaw09_Few l_0 n_1 := by kernel_rfl

abbrev e16 : List (Nat × Ctr) := [(10, c10), (21, c21)]

def dendronlaw11_Small_lh : LH
  | _ => none

theorem dendronlaw11_Small_eq (m_0 : MODEL) (row_1 : List CELL) : fnF tb (envL e16) Tryd.f16 dendronlaw11_Small_lh c16.ps c16.rs (T := MODEL × (List CELL)) (fun y => (y.2.1, y.2.2.1)) (m_0, row_1, ()) = dendronlaw11_Small m_0 row_1 := by kernel_rfl

abbrev e17 : List (Nat × Ctr) := []

def trim_Size_lh : LH
  | 6 => some ⟨trim_Size_i3, trim_Size_o3, lp trim_Size_s3 K0⟩
  | _ => none

theorem trim_Size_l3 (g : trim_Size_i3.V → Option (OT trim_Size_o3)) (v : trim_Size_i3.V) : loopStep tb (envL e17) 19 trim_Size_lh (loopAt 3 (bodyOf Tryd.f17) .skip) trim_Size_i3 trim_Size_o3 g v = trim_Size_s3 g v := by kernel_rfl

theorem trim_Size_eq (m_0 : MODEL) : fnF tb (envL e17) Tryd.f17 trim_Size_lh c17.ps c17.rs (T := Int) (fun y => (y.2.1)) (m_0, ()) = trim_Size m_0 := by kernel_rfl

abbrev e25 : List (Nat × Ctr) := [(32, c32), (33, c33), (35, c35), (37, c37)]

def ratio_Mul_lh : LH
  | _ => none

theorem ratio_Mul_eq (a_0 : RAT) (b_1 : RAT) : fnF tb (envL e25) Tryd.f25 ratio_Mul_lh c25.ps c25.rs (T := RAT) (fun y => (y.2.1)) (a_0, b_1, ()) = ratio_Mul a_0 b_1 := by kernel_rfl

abbrev e66 : List (Nat × Ctr) := []

def dendronlaw11_in_lh : LH
  | 4 => some ⟨dendronlaw11_in_i2, dendronlaw11_in_o2, lp dendronlaw11_in_s2 K0⟩
  | _ => none

theorem dendronlaw11_in_l2 (g : dendronlaw11_in_i2.V → Option (OT dendronlaw11_in_o2)) (v : dendronlaw11_in_i2.V) : loopStep tb (envL e66) 16 dendronlaw11_in_lh (loopAt 2 (bodyOf Tryd.f66) .skip) dendronlaw11_in_i2 dendronlaw11_in_o2 g v = dendronlaw11_in_s2 g v := by kernel_rfl

theorem dendronlaw11_in_eq (set_0 : Int) (feature_1 : Int) : fnF tb (envL e66) Tryd.f66 dendronlaw11_in_lh c66.ps c66.rs (T := Bool) (fun y => (y.2.1)) (set_0, feature_1, ()) = dendronlaw11_in set_0 feature_1 := by kernel_rfl

abbrev e81 : List (Nat × Ctr) := [(40, c40)]

def route_goes_lh : LH
  | _ => none

theorem route_goes_eq (n_0 : NODE) (c_1 : CELL) : fnF tb (envL e81) Tryd.f81 route_goes_lh c81.ps c81.rs (T := Bool) (fun y => (y.2.1)) (n_0, c_1, ()) = route_goes n_0 c_1 := by kernel_rfl

abbrev e67 : List (Nat × Ctr) := [(81, c81)]

def route_Left_lh : LH
  | _ => none

theorem route_Left_eq (n_0 : NODE) (c_1 : CELL) : fnF tb (envL e67) Tryd.f67 route_Left_lh c67.ps c67.rs (T := Bool) (fun y => (y.2.1)) (n_0, c_1, ()) = route_Left n_0 c_1 := by kernel_rfl

abbrev e91 : List (Nat × Ctr) := [(58, c58), (61, c61)]

def whole_Neg_lh : LH
  | _ => none

theorem whole_Neg_eq (a_0 : WH) : fnF tb (envL e91) Tryd.f91 whole_Neg_lh c91.ps c91.rs (T := WH) (fun y => (y.2.1)) (a_0, ()) = whole_Neg a_0 := by kernel_rfl

abbrev e87 : List (Nat × Ctr) := [(33, c33), (45, c45), (58, c58), (91, c91)]

def ratio_Make_lh : LH
  | _ => none

theorem ratio_Make_eq (num_0 : WH) (den_1 : WH) : fnF tb (envL e87) Tryd.f87 ratio_Make_lh c87.ps c87.rs (T := RAT × Int) (fun y => (y.2.1, y.2.2.1)) (num_0, den_1, ()) = ratio_Make num_0 den_1 := by kernel_rfl

abbrev e82 : List (Nat × Ctr) := [(32, c32), (36, c36), (87, c87)]

def ratio_Inv_lh : LH
  | _ => none

theorem ratio_Inv_eq (a_0 : RAT) : fnF tb (envL e82) Tryd.f82 ratio_Inv_lh c82.ps c82.rs (T := RAT × Int) (fun y => (y.2.1, y.2.2.1)) (a_0, ()) = ratio_Inv a_0 := by kernel_rfl

abbrev e68 : List (Nat × Ctr) := [(25, c25), (82, c82)]

def ratio_Div_lh : LH
  | _ => none

theorem ratio_Div_eq (a_0 : RAT) (b_1 : RAT) : fnF tb (envL e68) Tryd.f68 ratio_Div_lh c68.ps c68.rs (T := RAT × Int) (fun y => (y.2.1, y.2.2.1)) (a_0, b_1, ()) = ratio_Div a_0 b_1 := by kernel_rfl

abbrev e39 (n : Nat) : List (Nat × Ctr) := [(18, c18), (25, c25), (39, (c39 n)), (66, c66), (67, c67), (68, c68)]

def dendronlaw11_below_lh (n : Nat) : LH
  | _ => none

theorem dendronlaw11_below_eq (n : Nat) (a_0 : List NODE) (a_1 : Int) (a_2 : List CELL) (a_3 : Int) : fnF tb (envL (e39 n)) Tryd.f39 (dendronlaw11_below_lh n) (c39 n).ps (c39 n).rs (T := RAT) (fun y => (y.2.1)) (a_0, a_1, a_2, a_3, ()) = dendronlaw11_below (n + 1) a_0 a_1 a_2 a_3 := by kernel_rfl

abbrev e19 : List (Nat × Ctr) := [(18, c18), (38, c38), (39, (c39 R0))]

def dendronlaw11_Value_lh : LH
  | 6 => some ⟨dendronlaw11_Value_i3, dendronlaw11_Value_o3, lp dendronlaw11_Value_s3 K0⟩
  | _ => none

theorem dendronlaw11_Value_l3 (g : dendronlaw11_Value_i3.V → Option (OT dendronlaw11_Value_o3)) (v : dendronlaw11_Value_i3.V) : loopStep tb (envL e19) 28 dendronlaw11_Value_lh (loopAt 3 (bodyOf Tryd.f19) .skip) dendronlaw11_Value_i3 dendronlaw11_Value_o3 g v = dendronlaw11_Value_s3 g v := by kernel_rfl

theorem dendronlaw11_Value_eq (m_0 : MODEL) (row_1 : List CELL) (set_2 : Int) : fnF tb (envL e19) Tryd.f19 dendronlaw11_Value_lh c19.ps c19.rs (T := RAT) (fun y => (y.2.1)) (m_0, row_1, set_2, ()) = dendronlaw11_Value m_0 row_1 set_2 := by kernel_rfl

abbrev e5 : List (Nat × Ctr) := [(7, c7), (9, c9), (13, c13), (14, c14), (16, c16), (17, c17), (18, c18), (19, c19), (20, c20)]

def dendronlaw25_TrimJoins_lh : LH
  | _ => none

theorem dendronlaw25_TrimJoins_eq (a_0 : MODEL) (a_1 : MODEL) (a_2 : List CELL) (a_3 : Int) : fnF tb (envL e5) Tryd.f5 dendronlaw25_TrimJoins_lh c5.ps c5.rs (T := Bool) (fun y => (y.2.1)) (a_0, a_1, a_2, a_3, ()) = dendronlaw25_TrimJoins a_0 a_1 a_2 a_3 := by kernel_rfl
end Go.Proofs.YtpjgaieoijpagaaDoor.X

