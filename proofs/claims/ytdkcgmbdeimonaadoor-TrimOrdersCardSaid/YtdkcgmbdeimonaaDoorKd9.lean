/- Each function answers so. Printed by a program of our own. -/
import Derived.Test.YtdkcgmbdeimonaaDoorKd5

namespace Go.Proofs.YtdkcgmbdeimonaaDoor.X
open Go
set_option linter.unusedVariables false
set_option maxRecDepth 100000

abbrev e44 : List (Nat × Ctr) := []

def dendronlaw19_number_lh : LH
  | _ => none

theorem dendronlaw19_number_eq (a_0 : RAT) : fnF tb (envL e44) Tryd.f44 dendronlaw19_number_lh c44.ps c44.rs (T := RAT) (fun y => (y.2.1)) (a_0, ()) = dendronlaw19_number a_0 := by kernel_rfl

abbrev e10 : List (Nat × Ctr) := [(44, c44)]

def dendronlaw19_Few_lh : LH
  | 6 => some ⟨dendronlaw19_Few_i3, dendronlaw19_Few_o3, lp dendronlaw19_Few_s3 K0⟩
  | _ => none

theorem dendronlaw19_Few_l3 (g : dendronlaw19_Few_i3.V → Option (OT dendronlaw19_Few_o3)) (v : dendronlaw19_Few_i3.V) : loopStep tb (envL e10) 24 dendronlaw19_Few_lh (loopAt 3 (bodyOf Tryd.f10) .skip) dendronlaw19_Few_i3 dendronlaw19_Few_o3 g v = dendronlaw19_Few_s3 g v := by kernel_rfl

theorem dendronlaw19_Few_eq (l_0 : List RAT) : fnF tb (envL e10) Tryd.f10 dendronlaw19_Few_lh c10.ps c10.rs (T := (List RAT)) (fun y => (y.2.1)) (l_0, ()) = dendronlaw19_Few l_0 := by kernel_rfl

abbrev e83 : List (Nat × Ctr) := []

def nat_trim_lh : LH
  | 4 => some ⟨nat_trim_i2, nat_trim_o2, lp nat_trim_s2 K0⟩
  | _ => none

theorem nat_trim_l2 (g : nat_trim_i2.V → Option (OT nat_trim_o2)) (v : nat_trim_i2.V) : loopStep tb (envL e83) 23 nat_trim_lh (loopAt 2 (bodyOf Tryd.f83) .skip) nat_trim_i2 nat_trim_o2 g v = nat_trim_s2 g v := by kernel_rfl

theorem nat_trim_eq (a_0 : List Int) : fnF tb (envL e83) Tryd.f83 nat_trim_lh c83.ps c83.rs (T := (List Int)) (fun y => (y.2.1)) (a_0, ()) = nat_trim a_0 := by kernel_rfl

abbrev e61 : List (Nat × Ctr) := [(83, c83)]

def nat_Of_lh : LH
  | _ => none

theorem nat_Of_eq (n_0 : Int) : fnF tb (envL e61) Tryd.f61 nat_Of_lh c61.ps c61.rs (T := (List Int)) (fun y => (y.2.1)) (n_0, ()) = nat_Of n_0 := by kernel_rfl

abbrev e32 : List (Nat × Ctr) := [(61, c61)]

def ratio_Zero_lh : LH
  | _ => none

theorem ratio_Zero_eq  : fnF tb (envL e32) Tryd.f32 ratio_Zero_lh c32.ps c32.rs (T := RAT) (fun y => (y.2.1)) () = ratio_Zero  := by kernel_rfl

abbrev e72 : List (Nat × Ctr) := [(83, c83)]

def nat_Clean_lh : LH
  | 6 => some ⟨nat_Clean_i3, nat_Clean_o3, lp nat_Clean_s3 K0⟩
  | _ => none

theorem nat_Clean_l3 (g : nat_Clean_i3.V → Option (OT nat_Clean_o3)) (v : nat_Clean_i3.V) : loopStep tb (envL e72) 24 nat_Clean_lh (loopAt 3 (bodyOf Tryd.f72) .skip) nat_Clean_i3 nat_Clean_o3 g v = nat_Clean_s3 g v := by kernel_rfl

theorem nat_Clean_eq (a_0 : List Int) : fnF tb (envL e72) Tryd.f72 nat_Clean_lh c72.ps c72.rs (T := (List Int)) (fun y => (y.2.1)) (a_0, ()) = nat_Clean a_0 := by kernel_rfl

abbrev e91 : List (Nat × Ctr) := []

def nat_order_lh : LH
  | 12 => some ⟨nat_order_i6, nat_order_o6, lp nat_order_s6 K0⟩
  | _ => none

theorem nat_order_l6 (g : nat_order_i6.V → Option (OT nat_order_o6)) (v : nat_order_i6.V) : loopStep tb (envL e91) 45 nat_order_lh (loopAt 6 (bodyOf Tryd.f91) .skip) nat_order_i6 nat_order_o6 g v = nat_order_s6 g v := by kernel_rfl

theorem nat_order_eq (a_0 : List Int) (b_1 : List Int) : fnF tb (envL e91) Tryd.f91 nat_order_lh c91.ps c91.rs (T := Int) (fun y => (y.2.1)) (a_0, b_1, ()) = nat_order a_0 b_1 := by kernel_rfl

abbrev e121 : List (Nat × Ctr) := [(72, c72)]

def nat_To_lh : LH
  | _ => none

theorem nat_To_eq (a_0 : List Int) : fnF tb (envL e121) Tryd.f121 nat_To_lh c121.ps c121.rs (T := Int × Bool) (fun y => (y.2.1, y.2.2.1)) (a_0, ()) = nat_To a_0 := by kernel_rfl

abbrev e103 : List (Nat × Ctr) := [(61, c61), (121, c121)]

def nat_euclid_lh : LH
  | 6 => some ⟨nat_euclid_i3, nat_euclid_o3, lp nat_euclid_s3 K0⟩
  | _ => none

theorem nat_euclid_l3 (g : nat_euclid_i3.V → Option (OT nat_euclid_o3)) (v : nat_euclid_i3.V) : loopStep tb (envL e103) 27 nat_euclid_lh (loopAt 3 (bodyOf Tryd.f103) .skip) nat_euclid_i3 nat_euclid_o3 g v = nat_euclid_s3 g v := by kernel_rfl

theorem nat_euclid_eq (a_0 : List Int) (b_1 : List Int) : fnF tb (envL e103) Tryd.f103 nat_euclid_lh c103.ps c103.rs (T := (List Int)) (fun y => (y.2.1)) (a_0, b_1, ()) = nat_euclid a_0 b_1 := by kernel_rfl

abbrev e104 : List (Nat × Ctr) := [(122, c122)]

def nat_zeros_lh : LH
  | 6 => some ⟨nat_zeros_i3, nat_zeros_o3, lp nat_zeros_s3 K0⟩
  | _ => none

theorem nat_zeros_l3 (g : nat_zeros_i3.V → Option (OT nat_zeros_o3)) (v : nat_zeros_i3.V) : loopStep tb (envL e104) 24 nat_zeros_lh (loopAt 3 (bodyOf Tryd.f104) .skip) nat_zeros_i3 nat_zeros_o3 g v = nat_zeros_s3 g v := by kernel_rfl

theorem nat_zeros_eq (a_0 : List Int) : fnF tb (envL e104) Tryd.f104 nat_zeros_lh c104.ps c104.rs (T := Int) (fun y => (y.2.1)) (a_0, ()) = nat_zeros a_0 := by kernel_rfl

abbrev e111 : List (Nat × Ctr) := []

def nat_limb_lh : LH
  | _ => none

theorem nat_limb_eq (a_0 : List Int) (i_1 : Int) : fnF tb (envL e111) Tryd.f111 nat_limb_lh c111.ps c111.rs (T := Int) (fun y => (y.2.1)) (a_0, i_1, ()) = nat_limb a_0 i_1 := by kernel_rfl

abbrev e105 : List (Nat × Ctr) := [(83, c83), (111, c111)]

def nat_shr_lh : LH
  | 12 => some ⟨nat_shr_i6, nat_shr_o6, lp nat_shr_s6 K0⟩
  | _ => none

theorem nat_shr_l6 (g : nat_shr_i6.V → Option (OT nat_shr_o6)) (v : nat_shr_i6.V) : loopStep tb (envL e105) 50 nat_shr_lh (loopAt 6 (bodyOf Tryd.f105) .skip) nat_shr_i6 nat_shr_o6 g v = nat_shr_s6 g v := by kernel_rfl

theorem nat_shr_eq (a_0 : List Int) (n_1 : Int) : fnF tb (envL e105) Tryd.f105 nat_shr_lh c105.ps c105.rs (T := (List Int)) (fun y => (y.2.1)) (a_0, n_1, ()) = nat_shr a_0 n_1 := by kernel_rfl

abbrev e106 : List (Nat × Ctr) := [(83, c83)]

def nat_shl_lh : LH
  | 8 => some ⟨nat_shl_i4, nat_shl_o4, lp nat_shl_s4 K0⟩
  | _ => none

theorem nat_shl_l4 (g : nat_shl_i4.V → Option (OT nat_shl_o4)) (v : nat_shl_i4.V) : loopStep tb (envL e106) 51 nat_shl_lh (loopAt 4 (bodyOf Tryd.f106) .skip) nat_shl_i4 nat_shl_o4 g v = nat_shl_s4 g v := by kernel_rfl

theorem nat_shl_eq (a_0 : List Int) (n_1 : Int) : fnF tb (envL e106) Tryd.f106 nat_shl_lh c106.ps c106.rs (T := (List Int)) (fun y => (y.2.1)) (a_0, n_1, ()) = nat_shl a_0 n_1 := by kernel_rfl

abbrev e109 : List (Nat × Ctr) := [(83, c83)]

def nat_small_lh : LH
  | 8 => some ⟨nat_small_i4, nat_small_o4, lp nat_small_s4 K0⟩
  | _ => none

theorem nat_small_l4 (g : nat_small_i4.V → Option (OT nat_small_o4)) (v : nat_small_i4.V) : loopStep tb (envL e109) 38 nat_small_lh (loopAt 4 (bodyOf Tryd.f109) .skip) nat_small_i4 nat_small_o4 g v = nat_small_s4 g v := by kernel_rfl

theorem nat_small_eq (a_0 : List Int) (d_1 : Int) : fnF tb (envL e109) Tryd.f109 nat_small_lh c109.ps c109.rs (T := (List Int) × Int) (fun y => (y.2.1, y.2.2.1)) (a_0, d_1, ()) = nat_small a_0 d_1 := by kernel_rfl

abbrev e123 : List (Nat × Ctr) := [(126, c126)]

def bits_LeadingZeros32_lh : LH
  | _ => none

theorem bits_LeadingZeros32_eq (x_0 : Int) : fnF tb (envL e123) Tryd.f123 bits_LeadingZeros32_lh c123.ps c123.rs (T := Int) (fun y => (y.2.1)) (x_0, ()) = bits_LeadingZeros32 x_0 := by kernel_rfl

abbrev e127 : List (Nat × Ctr) := [(111, c111)]

def nat_take_lh : LH
  | 6 => some ⟨nat_take_i3, nat_take_o3, lp nat_take_s3 K0⟩
  | _ => none

theorem nat_take_l3 (g : nat_take_i3.V → Option (OT nat_take_o3)) (v : nat_take_i3.V) : loopStep tb (envL e127) 46 nat_take_lh (loopAt 3 (bodyOf Tryd.f127) .skip) nat_take_i3 nat_take_o3 g v = nat_take_s3 g v := by kernel_rfl

theorem nat_take_eq (u_0 : List Int) (v_1 : List Int) (times_2 : Int) : fnF tb (envL e127) Tryd.f127 nat_take_lh c127.ps c127.rs (T := (List Int) × Bool) (fun y => (y.1.1, y.2.1)) (u_0, v_1, times_2, ()) = nat_take u_0 v_1 times_2 := by kernel_rfl

abbrev e128 : List (Nat × Ctr) := [(111, c111)]

def nat_give_lh : LH
  | 4 => some ⟨nat_give_i2, nat_give_o2, lp nat_give_s2 K0⟩
  | _ => none

theorem nat_give_l2 (g : nat_give_i2.V → Option (OT nat_give_o2)) (v : nat_give_i2.V) : loopStep tb (envL e128) 29 nat_give_lh (loopAt 2 (bodyOf Tryd.f128) .skip) nat_give_i2 nat_give_o2 g v = nat_give_s2 g v := by kernel_rfl

theorem nat_give_eq (u_0 : List Int) (v_1 : List Int) : fnF tb (envL e128) Tryd.f128 nat_give_lh c128.ps c128.rs (T := (List Int)) (fun y => (y.1.1)) (u_0, v_1, ()) = nat_give u_0 v_1 := by kernel_rfl

abbrev e124 : List (Nat × Ctr) := [(127, c127), (128, c128)]

def nat_digit_lh : LH
  | 8 => some ⟨nat_digit_i4, nat_digit_o4, lp nat_digit_s4 K0⟩
  | _ => none

theorem nat_digit_l4 (g : nat_digit_i4.V → Option (OT nat_digit_o4)) (v : nat_digit_i4.V) : loopStep tb (envL e124) 77 nat_digit_lh (loopAt 4 (bodyOf Tryd.f124) .skip) nat_digit_i4 nat_digit_o4 g v = nat_digit_s4 g v := by kernel_rfl

theorem nat_digit_eq (a_0 : List Int) (a_1 : List Int) : fnF tb (envL e124) Tryd.f124 nat_digit_lh c124.ps c124.rs (T := (List Int) × Int) (fun y => (y.1.1, y.2.1)) (a_0, a_1, ()) = nat_digit a_0 a_1 := by kernel_rfl

abbrev e110 : List (Nat × Ctr) := [(83, c83), (105, c105), (106, c106), (123, c123), (124, c124)]

def nat_long_lh : LH
  | 14 => some ⟨nat_long_i7, nat_long_o7, lp nat_long_s7 K0⟩
  | _ => none

theorem nat_long_l7 (g : nat_long_i7.V → Option (OT nat_long_o7)) (v : nat_long_i7.V) : loopStep tb (envL e110) 64 nat_long_lh (loopAt 7 (bodyOf Tryd.f110) .skip) nat_long_i7 nat_long_o7 g v = nat_long_s7 g v := by kernel_rfl

theorem nat_long_eq (a_0 : List Int) (b_1 : List Int) : fnF tb (envL e110) Tryd.f110 nat_long_lh c110.ps c110.rs (T := (List Int) × (List Int)) (fun y => (y.2.1, y.2.2.1)) (a_0, b_1, ()) = nat_long a_0 b_1 := by kernel_rfl

abbrev e82 : List (Nat × Ctr) := [(61, c61), (72, c72), (91, c91), (109, c109), (110, c110)]

def nat_DivMod_lh : LH
  | _ => none

theorem nat_DivMod_eq (a_0 : List Int) (b_1 : List Int) : fnF tb (envL e82) Tryd.f82 nat_DivMod_lh c82.ps c82.rs (T := (List Int) × (List Int) × Int) (fun y => (y.2.1, y.2.2.1, y.2.2.2.1)) (a_0, b_1, ()) = nat_DivMod a_0 b_1 := by kernel_rfl

abbrev e107 : List (Nat × Ctr) := [(82, c82)]

def nat_rest_lh : LH
  | _ => none

theorem nat_rest_eq (a_0 : List Int) (b_1 : List Int) : fnF tb (envL e107) Tryd.f107 nat_rest_lh c107.ps c107.rs (T := (List Int) × (List Int)) (fun y => (y.2.1, y.2.2.1)) (a_0, b_1, ()) = nat_rest a_0 b_1 := by kernel_rfl

abbrev e108 : List (Nat × Ctr) := [(83, c83), (111, c111)]

def nat_minus_lh : LH
  | 8 => some ⟨nat_minus_i4, nat_minus_o4, lp nat_minus_s4 K0⟩
  | _ => none

theorem nat_minus_l4 (g : nat_minus_i4.V → Option (OT nat_minus_o4)) (v : nat_minus_i4.V) : loopStep tb (envL e108) 39 nat_minus_lh (loopAt 4 (bodyOf Tryd.f108) .skip) nat_minus_i4 nat_minus_o4 g v = nat_minus_s4 g v := by kernel_rfl

theorem nat_minus_eq (a_0 : List Int) (b_1 : List Int) : fnF tb (envL e108) Tryd.f108 nat_minus_lh c108.ps c108.rs (T := (List Int)) (fun y => (y.2.1)) (a_0, b_1, ()) = nat_minus a_0 b_1 := by kernel_rfl

abbrev e81 : List (Nat × Ctr) := [(72, c72), (91, c91), (103, c103), (104, c104), (105, c105), (106, c106), (107, c107), (108, c108)]

def nat_Gcd_lh : LH
  | 20 => some ⟨nat_Gcd_i10, nat_Gcd_o10, lp nat_Gcd_s10 K0⟩
  | _ => none

theorem nat_Gcd_l10 (g : nat_Gcd_i10.V → Option (OT nat_Gcd_o10)) (v : nat_Gcd_i10.V) : loopStep tb (envL e81) 86 nat_Gcd_lh (loopAt 10 (bodyOf Tryd.f81) .skip) nat_Gcd_i10 nat_Gcd_o10 g v = nat_Gcd_s10 g v := by kernel_rfl

theorem nat_Gcd_eq (a_0 : List Int) (a_1 : List Int) : fnF tb (envL e81) Tryd.f81 nat_Gcd_lh c81.ps c81.rs (T := (List Int)) (fun y => (y.2.1)) (a_0, a_1, ()) = nat_Gcd a_0 a_1 := by kernel_rfl

abbrev e53 : List (Nat × Ctr) := [(61, c61), (81, c81), (82, c82)]

def ratio_form_lh : LH
  | _ => none

theorem ratio_form_eq (num_0 : WH) (den_1 : List Int) : fnF tb (envL e53) Tryd.f53 ratio_form_lh c53.ps c53.rs (T := RAT) (fun y => (y.2.1)) (num_0, den_1, ()) = ratio_form num_0 den_1 := by kernel_rfl

abbrev e75 : List (Nat × Ctr) := []

def whole_sign_lh : LH
  | _ => none

theorem whole_sign_eq (neg_0 : Bool) (abs_1 : List Int) : fnF tb (envL e75) Tryd.f75 whole_sign_lh c75.ps c75.rs (T := WH) (fun y => (y.2.1)) (neg_0, abs_1, ()) = whole_sign neg_0 abs_1 := by kernel_rfl

abbrev e73 : List (Nat × Ctr) := [(72, c72), (75, c75)]

def whole_Clean_lh : LH
  | _ => none

theorem whole_Clean_eq (a_0 : WH) : fnF tb (envL e73) Tryd.f73 whole_Clean_lh c73.ps c73.rs (T := WH) (fun y => (y.2.1)) (a_0, ()) = whole_Clean a_0 := by kernel_rfl

abbrev e47 : List (Nat × Ctr) := [(32, c32), (53, c53), (72, c72), (73, c73)]

def ratio_Clean_lh : LH
  | _ => none

theorem ratio_Clean_eq (a_0 : RAT) : fnF tb (envL e47) Tryd.f47 ratio_Clean_lh c47.ps c47.rs (T := RAT) (fun y => (y.2.1)) (a_0, ()) = ratio_Clean a_0 := by kernel_rfl

abbrev e74 : List (Nat × Ctr) := [(72, c72), (91, c91)]

def nat_Cmp_lh : LH
  | _ => none

theorem nat_Cmp_eq (a_0 : List Int) (b_1 : List Int) : fnF tb (envL e74) Tryd.f74 nat_Cmp_lh c74.ps c74.rs (T := Int) (fun y => (y.2.1)) (a_0, b_1, ()) = nat_Cmp a_0 b_1 := by kernel_rfl

abbrev e48 : List (Nat × Ctr) := [(73, c73), (74, c74)]

def whole_Cmp_lh : LH
  | _ => none

theorem whole_Cmp_eq (a_0 : WH) (b_1 : WH) : fnF tb (envL e48) Tryd.f48 whole_Cmp_lh c48.ps c48.rs (T := Int) (fun y => (y.2.1)) (a_0, b_1, ()) = whole_Cmp a_0 b_1 := by kernel_rfl

abbrev e54 : List (Nat × Ctr) := [(72, c72), (83, c83)]

def nat_Mul_lh : LH
  | 16 => some ⟨nat_Mul_i8, nat_Mul_o8, lp nat_Mul_s8 K0⟩
  | 8 => some ⟨nat_Mul_i4, nat_Mul_o4, lp nat_Mul_s4 K0⟩
  | _ => none

theorem nat_Mul_l8 (g : nat_Mul_i8.V → Option (OT nat_Mul_o8)) (v : nat_Mul_i8.V) : loopStep tb (envL e54) 67 nat_Mul_lh (loopAt 8 (bodyOf Tryd.f54) .skip) nat_Mul_i8 nat_Mul_o8 g v = nat_Mul_s8 g v := by kernel_rfl

theorem nat_Mul_l4 (g : nat_Mul_i4.V → Option (OT nat_Mul_o4)) (v : nat_Mul_i4.V) : loopStep tb (envL e54) 67 nat_Mul_lh (loopAt 4 (bodyOf Tryd.f54) .skip) nat_Mul_i4 nat_Mul_o4 g v = nat_Mul_s4 g v := by kernel_rfl

theorem nat_Mul_eq (a_0 : List Int) (a_1 : List Int) : fnF tb (envL e54) Tryd.f54 nat_Mul_lh c54.ps c54.rs (T := (List Int)) (fun y => (y.2.1)) (a_0, a_1, ()) = nat_Mul a_0 a_1 := by kernel_rfl

abbrev e49 : List (Nat × Ctr) := [(54, c54), (73, c73), (75, c75)]

def whole_Mul_lh : LH
  | _ => none

theorem whole_Mul_eq (a_0 : WH) (b_1 : WH) : fnF tb (envL e49) Tryd.f49 whole_Mul_lh c49.ps c49.rs (T := WH) (fun y => (y.2.1)) (a_0, b_1, ()) = whole_Mul a_0 b_1 := by kernel_rfl

abbrev e50 : List (Nat × Ctr) := []

def ratio_den_lh : LH
  | _ => none

theorem ratio_den_eq (a_0 : RAT) : fnF tb (envL e50) Tryd.f50 ratio_den_lh c50.ps c50.rs (T := WH) (fun y => (y.2.1)) (a_0, ()) = ratio_den a_0 := by kernel_rfl

abbrev e17 : List (Nat × Ctr) := [(47, c47), (48, c48), (49, c49), (50, c50)]

def ratio_Cmp_lh : LH
  | _ => none

theorem ratio_Cmp_eq (a_0 : RAT) (b_1 : RAT) : fnF tb (envL e17) Tryd.f17 ratio_Cmp_lh c17.ps c17.rs (T := Int) (fun y => (y.2.1)) (a_0, b_1, ()) = ratio_Cmp a_0 b_1 := by kernel_rfl

abbrev e11 : List (Nat × Ctr) := [(17, c17)]

def dendronlaw27_order_lh : LH
  | 16 => some ⟨dendronlaw27_order_i8, dendronlaw27_order_o8, lp dendronlaw27_order_s8 K0⟩
  | 8 => some ⟨dendronlaw27_order_i4, dendronlaw27_order_o4, lp dendronlaw27_order_s4 K0⟩
  | _ => none

theorem dendronlaw27_order_l8 (g : dendronlaw27_order_i8.V → Option (OT dendronlaw27_order_o8)) (v : dendronlaw27_order_i8.V) : loopStep tb (envL e11) 53 dendronlaw27_order_lh (loopAt 8 (bodyOf Tryd.f11) .skip) dendronlaw27_order_i8 dendronlaw27_order_o8 g v = dendronlaw27_order_s8 g v := by kernel_rfl

theorem dendronlaw27_order_l4 (g : dendronlaw27_order_i4.V → Option (OT dendronlaw27_order_o4)) (v : dendronlaw27_order_i4.V) : loopStep tb (envL e11) 53 dendronlaw27_order_lh (loopAt 4 (bodyOf Tryd.f11) .skip) dendronlaw27_order_i4 dendronlaw27_order_o4 g v = dendronlaw27_order_s4 g v := by kernel_rfl

theorem dendronlaw27_order_eq (l_0 : List RAT) : fnF tb (envL e11) Tryd.f11 dendronlaw27_order_lh c11.ps c11.rs (T := (List Int)) (fun y => (y.2.1)) (l_0, ()) = dendronlaw27_order l_0 := by kernel_rfl

abbrev e12 : List (Nat × Ctr) := []

def dendronlaw27_ints_lh : LH
  | 8 => some ⟨dendronlaw27_ints_i4, dendronlaw27_ints_o4, lp dendronlaw27_ints_s4 K0⟩
  | _ => none

theorem dendronlaw27_ints_l4 (g : dendronlaw27_ints_i4.V → Option (OT dendronlaw27_ints_o4)) (v : dendronlaw27_ints_i4.V) : loopStep tb (envL e12) 26 dendronlaw27_ints_lh (loopAt 4 (bodyOf Tryd.f12) .skip) dendronlaw27_ints_i4 dendronlaw27_ints_o4 g v = dendronlaw27_ints_s4 g v := by kernel_rfl

theorem dendronlaw27_ints_eq (a_0 : List Int) (b_1 : List Int) : fnF tb (envL e12) Tryd.f12 dendronlaw27_ints_lh c12.ps c12.rs (T := Bool) (fun y => (y.2.1)) (a_0, b_1, ()) = dendronlaw27_ints a_0 b_1 := by kernel_rfl

abbrev e13 : List (Nat × Ctr) := [(17, c17)]

def rank_Order_lh : LH
  | 12 => some ⟨rank_Order_i6, rank_Order_o6, lp rank_Order_s6 K0⟩
  | 6 => some ⟨rank_Order_i3, rank_Order_o3, lp rank_Order_s3 K0⟩
  | _ => none

theorem rank_Order_l6 (g : rank_Order_i6.V → Option (OT rank_Order_o6)) (v : rank_Order_i6.V) : loopStep tb (envL e13) 50 rank_Order_lh (loopAt 6 (bodyOf Tryd.f13) .skip) rank_Order_i6 rank_Order_o6 g v = rank_Order_s6 g v := by kernel_rfl

theorem rank_Order_l3 (g : rank_Order_i3.V → Option (OT rank_Order_o3)) (v : rank_Order_i3.V) : loopStep tb (envL e13) 50 rank_Order_lh (loopAt 3 (bodyOf Tryd.f13) .skip) rank_Order_i3 rank_Order_o3 g v = rank_Order_s3 g v := by kernel_rfl

theorem rank_Order_eq (l_0 : List RAT) : fnF tb (envL e13) Tryd.f13 rank_Order_lh c13.ps c13.rs (T := (List Int)) (fun y => (y.2.1)) (l_0, ()) = rank_Order l_0 := by kernel_rfl

abbrev e14 : List (Nat × Ctr) := [(13, c13)]

def rank_Top_lh : LH
  | _ => none

theorem rank_Top_eq (l_0 : List RAT) (n_1 : Int) : fnF tb (envL e14) Tryd.f14 rank_Top_lh c14.ps c14.rs (T := (List Int)) (fun y => (y.2.1)) (l_0, n_1, ()) = rank_Top l_0 n_1 := by kernel_rfl

abbrev e57 : List (Nat × Ctr) := [(61, c61), (75, c75)]

def whole_Of_lh : LH
  | _ => none

theorem whole_Of_eq (n_0 : Int) : fnF tb (envL e57) Tryd.f57 whole_Of_lh c57.ps c57.rs (T := WH) (fun y => (y.2.1)) (n_0, ()) = whole_Of n_0 := by kernel_rfl

abbrev e45 : List (Nat × Ctr) := [(57, c57), (61, c61)]

def ratio_Of_lh : LH
  | _ => none

theorem ratio_Of_eq (n_0 : Int) : fnF tb (envL e45) Tryd.f45 ratio_Of_lh c45.ps c45.rs (T := RAT) (fun y => (y.2.1)) (n_0, ()) = ratio_Of n_0 := by kernel_rfl

abbrev e15 : List (Nat × Ctr) := [(13, c13), (45, c45)]

def dendronlaw27_awake_lh : LH
  | _ => none

theorem dendronlaw27_awake_eq  : fnF tb (envL e15) Tryd.f15 dendronlaw27_awake_lh c15.ps c15.rs (T := Bool) (fun y => (y.2.1)) () = dendronlaw27_awake  := by kernel_rfl

abbrev e3 : List (Nat × Ctr) := [(10, c10), (11, c11), (12, c12), (13, c13), (14, c14), (15, c15)]

def dendronlaw27_RankOrders_lh : LH
  | _ => none

theorem dendronlaw27_RankOrders_eq (l_0 : List RAT) (n_1 : Int) : fnF tb (envL e3) Tryd.f3 dendronlaw27_RankOrders_lh c3.ps c3.rs (T := Bool) (fun y => (y.2.1)) (l_0, n_1, ()) = dendronlaw27_RankOrders l_0 n_1 := by kernel_rfl

abbrev e46 : List (Nat × Ctr) := []

def dendronlaw09_number_lh : LH
  | _ => none

theorem dendronlaw09_number_eq (a_0 : RAT) : fnF tb (envL e46) Tryd.f46 dendronlaw09_number_lh c46.ps c46.rs (T := RAT) (fun y => (y.2.1)) (a_0, ()) = dendronlaw09_number a_0 := by kernel_rfl

abbrev e16 : List (Nat × Ctr) := [(46, c46)]

def dendronlaw09_Few_lh : LH
  | 6 => some ⟨dendronlaw09_Few_i3, dendronlaw09_Few_o3, lp dendronlaw09_Few_s3 K0⟩
  | _ => none

theorem dendronlaw09_Few_l3 (g : dendronlaw09_Few_i3.V → Option (OT dendronlaw09_Few_o3)) (v : dendronlaw09_Few_i3.V) : loopStep tb (envL e16) 32 dendronlaw09_Few_lh (loopAt 3 (bodyOf Tryd.f16) .skip) dendronlaw09_Few_i3 dendronlaw09_Few_o3 g v = dendronlaw09_Few_s3 g v := by kernel_rfl

theorem dendronlaw09_Few_eq (l_0 : List CELL) (n_1 : Int) : fnF tb (envL e16) Tryd.f16 dendronlaw09_Few_lh c16.ps c16.rs (T := (List CELL)) (fun y => (y.2.1)) (l_0, n_1, ()) = dendronlaw09_Few l_0 n_1 := by kernel_rfl

abbrev e18 : List (Nat × Ctr) := [(17, c17)]

def depend_At_lh : LH
  | 6 => some ⟨depend_At_i3, depend_At_o3, lp depend_At_s3 K0⟩
  | _ => none

theorem depend_At_l3 (g : depend_At_i3.V → Option (OT depend_At_o3)) (v : depend_At_i3.V) : loopStep tb (envL e18) 22 depend_At_lh (loopAt 3 (bodyOf Tryd.f18) .skip) depend_At_i3 depend_At_o3 g v = depend_At_s3 g v := by kernel_rfl

theorem depend_At_eq (steps_0 : List RAT) (z_1 : RAT) : fnF tb (envL e18) Tryd.f18 depend_At_lh c18.ps c18.rs (T := Int) (fun y => (y.2.1)) (steps_0, z_1, ()) = depend_At steps_0 z_1 := by kernel_rfl

abbrev e60 : List (Nat × Ctr) := [(73, c73)]

def whole_Sign_lh : LH
  | _ => none

theorem whole_Sign_eq (a_0 : WH) : fnF tb (envL e60) Tryd.f60 whole_Sign_lh c60.ps c60.rs (T := Int) (fun y => (y.2.1)) (a_0, ()) = whole_Sign a_0 := by kernel_rfl

abbrev e86 : List (Nat × Ctr) := [(73, c73), (75, c75)]

def whole_Neg_lh : LH
  | _ => none

theorem whole_Neg_eq (a_0 : WH) : fnF tb (envL e86) Tryd.f86 whole_Neg_lh c86.ps c86.rs (T := WH) (fun y => (y.2.1)) (a_0, ()) = whole_Neg a_0 := by kernel_rfl

abbrev e56 : List (Nat × Ctr) := [(53, c53), (60, c60), (73, c73), (86, c86)]

def ratio_Make_lh : LH
  | _ => none

theorem ratio_Make_eq (num_0 : WH) (den_1 : WH) : fnF tb (envL e56) Tryd.f56 ratio_Make_lh c56.ps c56.rs (T := RAT × Int) (fun y => (y.2.1, y.2.2.1)) (num_0, den_1, ()) = ratio_Make num_0 den_1 := by kernel_rfl

abbrev e24 : List (Nat × Ctr) := [(47, c47), (56, c56), (57, c57)]

def ratio_Frac_lh : LH
  | _ => none

theorem ratio_Frac_eq (n_0 : Int) (d_1 : Int) : fnF tb (envL e24) Tryd.f24 ratio_Frac_lh c24.ps c24.rs (T := RAT) (fun y => (y.2.1)) (n_0, d_1, ()) = ratio_Frac n_0 d_1 := by kernel_rfl

abbrev e19 : List (Nat × Ctr) := [(18, c18), (24, c24), (45, c45)]

def dendronlaw13_awake_lh : LH
  | _ => none

theorem dendronlaw13_awake_eq  : fnF tb (envL e19) Tryd.f19 dendronlaw13_awake_lh c19.ps c19.rs (T := Bool) (fun y => (y.2.1)) () = dendronlaw13_awake  := by kernel_rfl

abbrev e4 : List (Nat × Ctr) := [(16, c16), (17, c17), (18, c18), (19, c19)]

def dendronlaw13_DependPlaces_lh : LH
  | 6 => some ⟨dendronlaw13_DependPlaces_i3, dendronlaw13_DependPlaces_o3, lp dendronlaw13_DependPlaces_s3 K0⟩
  | 18 => some ⟨dendronlaw13_DependPlaces_i9, dendronlaw13_DependPlaces_o9, lp dendronlaw13_DependPlaces_s9 K0⟩
  | _ => none

theorem dendronlaw13_DependPlaces_l3 (g : dendronlaw13_DependPlaces_i3.V → Option (OT dendronlaw13_DependPlaces_o3)) (v : dendronlaw13_DependPlaces_i3.V) : loopStep tb (envL e4) 61 dendronlaw13_DependPlaces_lh (loopAt 3 (bodyOf Tryd.f4) .skip) dendronlaw13_DependPlaces_i3 dendronlaw13_DependPlaces_o3 g v = dendronlaw13_DependPlaces_s3 g v := by kernel_rfl

theorem dendronlaw13_DependPlaces_l9 (g : dendronlaw13_DependPlaces_i9.V → Option (OT dendronlaw13_DependPlaces_o9)) (v : dendronlaw13_DependPlaces_i9.V) : loopStep tb (envL e4) 61 dendronlaw13_DependPlaces_lh (loopAt 9 (bodyOf Tryd.f4) .skip) dendronlaw13_DependPlaces_i9 dendronlaw13_DependPlaces_o9 g v = dendronlaw13_DependPlaces_s9 g v := by kernel_rfl

theorem dendronlaw13_DependPlaces_eq (steps_0 : List RAT) (z_1 : RAT) : fnF tb (envL e4) Tryd.f4 dendronlaw13_DependPlaces_lh c4.ps c4.rs (T := Bool) (fun y => (y.2.1)) (steps_0, z_1, ()) = dendronlaw13_DependPlaces steps_0 z_1 := by kernel_rfl

abbrev e22 : List (Nat × Ctr) := [(47, c47), (49, c49), (53, c53), (54, c54)]

def ratio_Mul_lh : LH
  | _ => none

theorem ratio_Mul_eq (a_0 : RAT) (b_1 : RAT) : fnF tb (envL e22) Tryd.f22 ratio_Mul_lh c22.ps c22.rs (T := RAT) (fun y => (y.2.1)) (a_0, b_1, ()) = ratio_Mul a_0 b_1 := by kernel_rfl

abbrev e84 : List (Nat × Ctr) := [(72, c72), (83, c83), (111, c111)]

def nat_Add_lh : LH
  | 10 => some ⟨nat_Add_i5, nat_Add_o5, lp nat_Add_s5 K0⟩
  | _ => none

theorem nat_Add_l5 (g : nat_Add_i5.V → Option (OT nat_Add_o5)) (v : nat_Add_i5.V) : loopStep tb (envL e84) 43 nat_Add_lh (loopAt 5 (bodyOf Tryd.f84) .skip) nat_Add_i5 nat_Add_o5 g v = nat_Add_s5 g v := by kernel_rfl

theorem nat_Add_eq (a_0 : List Int) (b_1 : List Int) : fnF tb (envL e84) Tryd.f84 nat_Add_lh c84.ps c84.rs (T := (List Int)) (fun y => (y.2.1)) (a_0, b_1, ()) = nat_Add a_0 b_1 := by kernel_rfl

abbrev e85 : List (Nat × Ctr) := [(72, c72), (91, c91), (108, c108)]

def nat_Sub_lh : LH
  | _ => none

theorem nat_Sub_eq (a_0 : List Int) (b_1 : List Int) : fnF tb (envL e85) Tryd.f85 nat_Sub_lh c85.ps c85.rs (T := (List Int) × Int) (fun y => (y.2.1, y.2.2.1)) (a_0, b_1, ()) = nat_Sub a_0 b_1 := by kernel_rfl

abbrev e55 : List (Nat × Ctr) := [(73, c73), (74, c74), (75, c75), (84, c84), (85, c85)]

def whole_Add_lh : LH
  | _ => none

theorem whole_Add_eq (a_0 : WH) (b_1 : WH) : fnF tb (envL e55) Tryd.f55 whole_Add_lh c55.ps c55.rs (T := WH) (fun y => (y.2.1)) (a_0, b_1, ()) = whole_Add a_0 b_1 := by kernel_rfl

abbrev e23 : List (Nat × Ctr) := [(47, c47), (49, c49), (50, c50), (53, c53), (54, c54), (55, c55)]

def ratio_Add_lh : LH
  | _ => none

theorem ratio_Add_eq (a_0 : RAT) (b_1 : RAT) : fnF tb (envL e23) Tryd.f23 ratio_Add_lh c23.ps c23.rs (T := RAT) (fun y => (y.2.1)) (a_0, b_1, ()) = ratio_Add a_0 b_1 := by kernel_rfl

abbrev e20 : List (Nat × Ctr) := [(13, c13), (22, c22), (23, c23), (24, c24)]

def rank_Median_lh : LH
  | _ => none

theorem rank_Median_eq (l_0 : List RAT) : fnF tb (envL e20) Tryd.f20 rank_Median_lh c20.ps c20.rs (T := RAT × Int) (fun y => (y.2.1, y.2.2.1)) (l_0, ()) = rank_Median l_0 := by kernel_rfl

abbrev e95 : List (Nat × Ctr) := []

def dendronref01_Small_lh : LH
  | 4 => some ⟨dendronref01_Small_i2, dendronref01_Small_o2, lp dendronref01_Small_s2 K0⟩
  | _ => none

theorem dendronref01_Small_l2 (g : dendronref01_Small_i2.V → Option (OT dendronref01_Small_o2)) (v : dendronref01_Small_i2.V) : loopStep tb (envL e95) 14 dendronref01_Small_lh (loopAt 2 (bodyOf Tryd.f95) .skip) dendronref01_Small_i2 dendronref01_Small_o2 g v = dendronref01_Small_s2 g v := by kernel_rfl

theorem dendronref01_Small_eq (n_0 : Int) : fnF tb (envL e95) Tryd.f95 dendronref01_Small_lh c95.ps c95.rs (T := (List Int)) (fun y => (y.2.1)) (n_0, ()) = dendronref01_Small n_0 := by kernel_rfl

abbrev e119 : List (Nat × Ctr) := []

def dendronref01_digit_lh : LH
  | _ => none

theorem dendronref01_digit_eq (a_0 : List Int) (i_1 : Int) : fnF tb (envL e119) Tryd.f119 dendronref01_digit_lh c119.ps c119.rs (T := Int) (fun y => (y.2.1)) (a_0, i_1, ()) = dendronref01_digit a_0 i_1 := by kernel_rfl

abbrev e99 : List (Nat × Ctr) := [(119, c119)]

def dendronref01_Plus_lh : LH
  | 8 => some ⟨dendronref01_Plus_i4, dendronref01_Plus_o4, lp dendronref01_Plus_s4 K0⟩
  | _ => none

theorem dendronref01_Plus_l4 (g : dendronref01_Plus_i4.V → Option (OT dendronref01_Plus_o4)) (v : dendronref01_Plus_i4.V) : loopStep tb (envL e99) 41 dendronref01_Plus_lh (loopAt 4 (bodyOf Tryd.f99) .skip) dendronref01_Plus_i4 dendronref01_Plus_o4 g v = dendronref01_Plus_s4 g v := by kernel_rfl

theorem dendronref01_Plus_eq (a_0 : List Int) (b_1 : List Int) : fnF tb (envL e99) Tryd.f99 dendronref01_Plus_lh c99.ps c99.rs (T := (List Int)) (fun y => (y.2.1)) (a_0, b_1, ()) = dendronref01_Plus a_0 b_1 := by kernel_rfl

abbrev e120 : List (Nat × Ctr) := []

def dendronref01_Trim_lh : LH
  | 4 => some ⟨dendronref01_Trim_i2, dendronref01_Trim_o2, lp dendronref01_Trim_s2 K0⟩
  | _ => none

theorem dendronref01_Trim_l2 (g : dendronref01_Trim_i2.V → Option (OT dendronref01_Trim_o2)) (v : dendronref01_Trim_i2.V) : loopStep tb (envL e120) 21 dendronref01_Trim_lh (loopAt 2 (bodyOf Tryd.f120) .skip) dendronref01_Trim_i2 dendronref01_Trim_o2 g v = dendronref01_Trim_s2 g v := by kernel_rfl

theorem dendronref01_Trim_eq (a_0 : List Int) : fnF tb (envL e120) Tryd.f120 dendronref01_Trim_lh c120.ps c120.rs (T := (List Int)) (fun y => (y.2.1)) (a_0, ()) = dendronref01_Trim a_0 := by kernel_rfl

abbrev e100 : List (Nat × Ctr) := [(120, c120)]

def dendronref01_Times_lh : LH
  | 14 => some ⟨dendronref01_Times_i7, dendronref01_Times_o7, lp dendronref01_Times_s7 K0⟩
  | 6 => some ⟨dendronref01_Times_i3, dendronref01_Times_o3, lp dendronref01_Times_s3 K0⟩
  | _ => none

theorem dendronref01_Times_l7 (g : dendronref01_Times_i7.V → Option (OT dendronref01_Times_o7)) (v : dendronref01_Times_i7.V) : loopStep tb (envL e100) 63 dendronref01_Times_lh (loopAt 7 (bodyOf Tryd.f100) .skip) dendronref01_Times_i7 dendronref01_Times_o7 g v = dendronref01_Times_s7 g v := by kernel_rfl

theorem dendronref01_Times_l3 (g : dendronref01_Times_i3.V → Option (OT dendronref01_Times_o3)) (v : dendronref01_Times_i3.V) : loopStep tb (envL e100) 63 dendronref01_Times_lh (loopAt 3 (bodyOf Tryd.f100) .skip) dendronref01_Times_i3 dendronref01_Times_o3 g v = dendronref01_Times_s3 g v := by kernel_rfl

theorem dendronref01_Times_eq (a_0 : List Int) (b_1 : List Int) : fnF tb (envL e100) Tryd.f100 dendronref01_Times_lh c100.ps c100.rs (T := (List Int)) (fun y => (y.2.1)) (a_0, b_1, ()) = dendronref01_Times a_0 b_1 := by kernel_rfl

abbrev e78 : List (Nat × Ctr) := [(95, c95), (99, c99), (100, c100)]

def dendronref01_From_lh : LH
  | 8 => some ⟨dendronref01_From_i4, dendronref01_From_o4, lp dendronref01_From_s4 K0⟩
  | _ => none

theorem dendronref01_From_l4 (g : dendronref01_From_i4.V → Option (OT dendronref01_From_o4)) (v : dendronref01_From_i4.V) : loopStep tb (envL e78) 26 dendronref01_From_lh (loopAt 4 (bodyOf Tryd.f78) .skip) dendronref01_From_i4 dendronref01_From_o4 g v = dendronref01_From_s4 g v := by kernel_rfl

theorem dendronref01_From_eq (a_0 : List Int) : fnF tb (envL e78) Tryd.f78 dendronref01_From_lh c78.ps c78.rs (T := (List Int)) (fun y => (y.2.1)) (a_0, ()) = dendronref01_From a_0 := by kernel_rfl

abbrev e102 : List (Nat × Ctr) := []

def dendronref02_Make_lh : LH
  | _ => none

theorem dendronref02_Make_eq (neg_0 : Bool) (n_1 : List Int) : fnF tb (envL e102) Tryd.f102 dendronref02_Make_lh c102.ps c102.rs (T := (Bool × List Int)) (fun y => (y.2.1)) (neg_0, n_1, ()) = dendronref02_Make neg_0 n_1 := by kernel_rfl

abbrev e101 : List (Nat × Ctr) := [(95, c95), (99, c99), (102, c102)]

def dendronref02_Small_lh : LH
  | _ => none

theorem dendronref02_Small_eq (n_0 : Int) : fnF tb (envL e101) Tryd.f101 dendronref02_Small_lh c101.ps c101.rs (T := (Bool × List Int)) (fun y => (y.2.1)) (n_0, ()) = dendronref02_Small n_0 := by kernel_rfl

abbrev e79 : List (Nat × Ctr) := [(95, c95), (101, c101)]

def dendronref03_Small_lh : LH
  | _ => none

theorem dendronref03_Small_eq (n_0 : Int) (d_1 : Int) : fnF tb (envL e79) Tryd.f79 dendronref03_Small_lh c79.ps c79.rs (T := ((Bool × List Int) × List Int)) (fun y => (y.2.1)) (n_0, d_1, ()) = dendronref03_Small n_0 d_1 := by kernel_rfl

abbrev e80 : List (Nat × Ctr) := [(78, c78), (102, c102)]

def dendronref02_From_lh : LH
  | _ => none

theorem dendronref02_From_eq (a_0 : WH) : fnF tb (envL e80) Tryd.f80 dendronref02_From_lh c80.ps c80.rs (T := (Bool × List Int)) (fun y => (y.2.1)) (a_0, ()) = dendronref02_From a_0 := by kernel_rfl

abbrev e52 : List (Nat × Ctr) := [(78, c78), (79, c79), (80, c80)]

def dendronref03_From_lh : LH
  | _ => none

theorem dendronref03_From_eq (a_0 : RAT) : fnF tb (envL e52) Tryd.f52 dendronref03_From_lh c52.ps c52.rs (T := ((Bool × List Int) × List Int)) (fun y => (y.2.1)) (a_0, ()) = dendronref03_From a_0 := by kernel_rfl

abbrev e92 : List (Nat × Ctr) := []

def dendronref01_Right_lh : LH
  | 4 => some ⟨dendronref01_Right_i2, dendronref01_Right_o2, lp dendronref01_Right_s2 K0⟩
  | _ => none

theorem dendronref01_Right_l2 (g : dendronref01_Right_i2.V → Option (OT dendronref01_Right_o2)) (v : dendronref01_Right_i2.V) : loopStep tb (envL e92) 27 dendronref01_Right_lh (loopAt 2 (bodyOf Tryd.f92) .skip) dendronref01_Right_i2 dendronref01_Right_o2 g v = dendronref01_Right_s2 g v := by kernel_rfl

theorem dendronref01_Right_eq (a_0 : List Int) : fnF tb (envL e92) Tryd.f92 dendronref01_Right_lh c92.ps c92.rs (T := Bool) (fun y => (y.2.1)) (a_0, ()) = dendronref01_Right a_0 := by kernel_rfl

abbrev e94 : List (Nat × Ctr) := []

def dendronref01_Order_lh : LH
  | 12 => some ⟨dendronref01_Order_i6, dendronref01_Order_o6, lp dendronref01_Order_s6 K0⟩
  | _ => none

theorem dendronref01_Order_l6 (g : dendronref01_Order_i6.V → Option (OT dendronref01_Order_o6)) (v : dendronref01_Order_i6.V) : loopStep tb (envL e94) 41 dendronref01_Order_lh (loopAt 6 (bodyOf Tryd.f94) .skip) dendronref01_Order_i6 dendronref01_Order_o6 g v = dendronref01_Order_s6 g v := by kernel_rfl

theorem dendronref01_Order_eq (a_0 : List Int) (b_1 : List Int) : fnF tb (envL e94) Tryd.f94 dendronref01_Order_lh c94.ps c94.rs (T := Int) (fun y => (y.2.1)) (a_0, b_1, ()) = dendronref01_Order a_0 b_1 := by kernel_rfl

abbrev e125 : List (Nat × Ctr) := [(119, c119), (120, c120)]

def dendronref01_Minus_lh : LH
  | 8 => some ⟨dendronref01_Minus_i4, dendronref01_Minus_o4, lp dendronref01_Minus_s4 K0⟩
  | _ => none

theorem dendronref01_Minus_l4 (g : dendronref01_Minus_i4.V → Option (OT dendronref01_Minus_o4)) (v : dendronref01_Minus_i4.V) : loopStep tb (envL e125) 35 dendronref01_Minus_lh (loopAt 4 (bodyOf Tryd.f125) .skip) dendronref01_Minus_i4 dendronref01_Minus_o4 g v = dendronref01_Minus_s4 g v := by kernel_rfl

theorem dendronref01_Minus_eq (a_0 : List Int) (b_1 : List Int) : fnF tb (envL e125) Tryd.f125 dendronref01_Minus_lh c125.ps c125.rs (T := (List Int)) (fun y => (y.2.1)) (a_0, b_1, ()) = dendronref01_Minus a_0 b_1 := by kernel_rfl

abbrev e118 : List (Nat × Ctr) := [(94, c94), (95, c95), (100, c100), (120, c120), (125, c125)]

def dendronref01_Over_lh : LH
  | 24 => some ⟨dendronref01_Over_i12, dendronref01_Over_o12, lp dendronref01_Over_s12 K0⟩
  | 8 => some ⟨dendronref01_Over_i4, dendronref01_Over_o4, lp dendronref01_Over_s4 K0⟩
  | _ => none

theorem dendronref01_Over_l12 (g : dendronref01_Over_i12.V → Option (OT dendronref01_Over_o12)) (v : dendronref01_Over_i12.V) : loopStep tb (envL e118) 65 dendronref01_Over_lh (loopAt 12 (bodyOf Tryd.f118) .skip) dendronref01_Over_i12 dendronref01_Over_o12 g v = dendronref01_Over_s12 g v := by kernel_rfl

theorem dendronref01_Over_l4 (g : dendronref01_Over_i4.V → Option (OT dendronref01_Over_o4)) (v : dendronref01_Over_i4.V) : loopStep tb (envL e118) 65 dendronref01_Over_lh (loopAt 4 (bodyOf Tryd.f118) .skip) dendronref01_Over_i4 dendronref01_Over_o4 g v = dendronref01_Over_s4 g v := by kernel_rfl

theorem dendronref01_Over_eq (a_0 : List Int) (a_1 : List Int) : fnF tb (envL e118) Tryd.f118 dendronref01_Over_lh c118.ps c118.rs (T := (List Int) × (List Int)) (fun y => (y.2.1, y.2.2.1)) (a_0, a_1, ()) = dendronref01_Over a_0 a_1 := by kernel_rfl

abbrev e93 : List (Nat × Ctr) := [(118, c118)]

def dendronref01_Gcd_lh : LH
  | 2 => some ⟨dendronref01_Gcd_i1, dendronref01_Gcd_o1, lp dendronref01_Gcd_s1 K0⟩
  | _ => none

theorem dendronref01_Gcd_l1 (g : dendronref01_Gcd_i1.V → Option (OT dendronref01_Gcd_o1)) (v : dendronref01_Gcd_i1.V) : loopStep tb (envL e93) 19 dendronref01_Gcd_lh (loopAt 1 (bodyOf Tryd.f93) .skip) dendronref01_Gcd_i1 dendronref01_Gcd_o1 g v = dendronref01_Gcd_s1 g v := by kernel_rfl

theorem dendronref01_Gcd_eq (a_0 : List Int) (b_1 : List Int) : fnF tb (envL e93) Tryd.f93 dendronref01_Gcd_lh c93.ps c93.rs (T := (List Int)) (fun y => (y.2.1)) (a_0, b_1, ()) = dendronref01_Gcd a_0 b_1 := by kernel_rfl

abbrev e76 : List (Nat × Ctr) := [(78, c78), (92, c92), (93, c93), (94, c94), (95, c95)]

def dendronref03_Right_lh : LH
  | _ => none

theorem dendronref03_Right_eq (a_0 : RAT) : fnF tb (envL e76) Tryd.f76 dendronref03_Right_lh c76.ps c76.rs (T := Bool) (fun y => (y.2.1)) (a_0, ()) = dendronref03_Right a_0 := by kernel_rfl

abbrev e96 : List (Nat × Ctr) := [(94, c94)]

def dendronref02_Order_lh : LH
  | _ => none

theorem dendronref02_Order_eq (a_0 : Bool × List Int) (b_1 : Bool × List Int) : fnF tb (envL e96) Tryd.f96 dendronref02_Order_lh c96.ps c96.rs (T := Int) (fun y => (y.2.1)) (a_0, b_1, ()) = dendronref02_Order a_0 b_1 := by kernel_rfl

abbrev e97 : List (Nat × Ctr) := [(100, c100), (102, c102)]

def dendronref02_Times_lh : LH
  | _ => none

theorem dendronref02_Times_eq (a_0 : Bool × List Int) (b_1 : Bool × List Int) : fnF tb (envL e97) Tryd.f97 dendronref02_Times_lh c97.ps c97.rs (T := (Bool × List Int)) (fun y => (y.2.1)) (a_0, b_1, ()) = dendronref02_Times a_0 b_1 := by kernel_rfl

abbrev e98 : List (Nat × Ctr) := [(102, c102)]

def dendronref03_den_lh : LH
  | _ => none

theorem dendronref03_den_eq (a_0 : (Bool × List Int) × List Int) : fnF tb (envL e98) Tryd.f98 dendronref03_den_lh c98.ps c98.rs (T := (Bool × List Int)) (fun y => (y.2.1)) (a_0, ()) = dendronref03_den a_0 := by kernel_rfl

abbrev e77 : List (Nat × Ctr) := [(96, c96), (97, c97), (98, c98)]

def dendronref03_Order_lh : LH
  | _ => none

theorem dendronref03_Order_eq (a_0 : (Bool × List Int) × List Int) (b_1 : (Bool × List Int) × List Int) : fnF tb (envL e77) Tryd.f77 dendronref03_Order_lh c77.ps c77.rs (T := Int) (fun y => (y.2.1)) (a_0, b_1, ()) = dendronref03_Order a_0 b_1 := by kernel_rfl

abbrev e51 : List (Nat × Ctr) := [(52, c52), (76, c76), (77, c77)]

def dendronref03_Is_lh : LH
  | _ => none

theorem dendronref03_Is_eq (a_0 : RAT) (x_1 : (Bool × List Int) × List Int) : fnF tb (envL e51) Tryd.f51 dendronref03_Is_lh c51.ps c51.rs (T := Bool) (fun y => (y.2.1)) (a_0, x_1, ()) = dendronref03_Is a_0 x_1 := by kernel_rfl

abbrev e21 : List (Nat × Ctr) := [(51, c51), (52, c52)]

def dendronref10_Is_lh : LH
  | _ => none

theorem dendronref10_Is_eq (a_0 : RAT) (b_1 : RAT) : fnF tb (envL e21) Tryd.f21 dendronref10_Is_lh c21.ps c21.rs (T := Bool) (fun y => (y.2.1)) (a_0, b_1, ()) = dendronref10_Is a_0 b_1 := by kernel_rfl

abbrev e5 : List (Nat × Ctr) := [(10, c10), (11, c11), (15, c15), (17, c17), (20, c20), (21, c21), (22, c22), (23, c23), (24, c24)]

def dendronlaw27_RankMedians_lh : LH
  | 22 => some ⟨dendronlaw27_RankMedians_i11, dendronlaw27_RankMedians_o11, lp dendronlaw27_RankMedians_s11 K0⟩
  | _ => none

theorem dendronlaw27_RankMedians_l11 (g : dendronlaw27_RankMedians_i11.V → Option (OT dendronlaw27_RankMedians_o11)) (v : dendronlaw27_RankMedians_i11.V) : loopStep tb (envL e5) 100 dendronlaw27_RankMedians_lh (loopAt 11 (bodyOf Tryd.f5) .skip) dendronlaw27_RankMedians_i11 dendronlaw27_RankMedians_o11 g v = dendronlaw27_RankMedians_s11 g v := by kernel_rfl

theorem dendronlaw27_RankMedians_eq (a_0 : List RAT) : fnF tb (envL e5) Tryd.f5 dendronlaw27_RankMedians_lh c5.ps c5.rs (T := Bool) (fun y => (y.2.1)) (a_0, ()) = dendronlaw27_RankMedians a_0 := by kernel_rfl

abbrev e26 : List (Nat × Ctr) := [(47, c47), (60, c60)]

def ratio_Sign_lh : LH
  | _ => none

theorem ratio_Sign_eq (a_0 : RAT) : fnF tb (envL e26) Tryd.f26 ratio_Sign_lh c26.ps c26.rs (T := Int) (fun y => (y.2.1)) (a_0, ()) = ratio_Sign a_0 := by kernel_rfl

abbrev e58 : List (Nat × Ctr) := [(47, c47)]

def ratio_Abs_lh : LH
  | _ => none

theorem ratio_Abs_eq (a_0 : RAT) : fnF tb (envL e58) Tryd.f58 ratio_Abs_lh c58.ps c58.rs (T := RAT) (fun y => (y.2.1)) (a_0, ()) = ratio_Abs a_0 := by kernel_rfl

abbrev e87 : List (Nat × Ctr) := [(47, c47), (50, c50), (56, c56)]

def ratio_Inv_lh : LH
  | _ => none

theorem ratio_Inv_eq (a_0 : RAT) : fnF tb (envL e87) Tryd.f87 ratio_Inv_lh c87.ps c87.rs (T := RAT × Int) (fun y => (y.2.1, y.2.2.1)) (a_0, ()) = ratio_Inv a_0 := by kernel_rfl

abbrev e59 : List (Nat × Ctr) := [(22, c22), (87, c87)]

def ratio_Div_lh : LH
  | _ => none

theorem ratio_Div_eq (a_0 : RAT) (b_1 : RAT) : fnF tb (envL e59) Tryd.f59 ratio_Div_lh c59.ps c59.rs (T := RAT × Int) (fun y => (y.2.1, y.2.2.1)) (a_0, b_1, ()) = ratio_Div a_0 b_1 := by kernel_rfl

abbrev e25 : List (Nat × Ctr) := [(23, c23), (26, c26), (32, c32), (58, c58), (59, c59)]

def rank_Share_lh : LH
  | 6 => some ⟨rank_Share_i3, rank_Share_o3, lp rank_Share_s3 K0⟩
  | 18 => some ⟨rank_Share_i9, rank_Share_o9, lp rank_Share_s9 K0⟩
  | _ => none

theorem rank_Share_l3 (g : rank_Share_i3.V → Option (OT rank_Share_o3)) (v : rank_Share_i3.V) : loopStep tb (envL e25) 49 rank_Share_lh (loopAt 3 (bodyOf Tryd.f25) .skip) rank_Share_i3 rank_Share_o3 g v = rank_Share_s3 g v := by kernel_rfl

theorem rank_Share_l9 (g : rank_Share_i9.V → Option (OT rank_Share_o9)) (v : rank_Share_i9.V) : loopStep tb (envL e25) 49 rank_Share_lh (loopAt 9 (bodyOf Tryd.f25) .skip) rank_Share_i9 rank_Share_o9 g v = rank_Share_s9 g v := by kernel_rfl

theorem rank_Share_eq (l_0 : List RAT) : fnF tb (envL e25) Tryd.f25 rank_Share_lh c25.ps c25.rs (T := (List RAT)) (fun y => (y.2.1)) (l_0, ()) = rank_Share l_0 := by kernel_rfl

abbrev e27 : List (Nat × Ctr) := [(21, c21)]

def dendronref10_All_lh : LH
  | 8 => some ⟨dendronref10_All_i4, dendronref10_All_o4, lp dendronref10_All_s4 K0⟩
  | _ => none

theorem dendronref10_All_l4 (g : dendronref10_All_i4.V → Option (OT dendronref10_All_o4)) (v : dendronref10_All_i4.V) : loopStep tb (envL e27) 27 dendronref10_All_lh (loopAt 4 (bodyOf Tryd.f27) .skip) dendronref10_All_i4 dendronref10_All_o4 g v = dendronref10_All_s4 g v := by kernel_rfl

theorem dendronref10_All_eq (a_0 : List RAT) (b_1 : List RAT) : fnF tb (envL e27) Tryd.f27 dendronref10_All_lh c27.ps c27.rs (T := Bool) (fun y => (y.2.1)) (a_0, b_1, ()) = dendronref10_All a_0 b_1 := by kernel_rfl

abbrev e28 : List (Nat × Ctr) := [(23, c23), (26, c26), (32, c32), (58, c58), (59, c59)]

def dendronlaw27_shares_lh : LH
  | 6 => some ⟨dendronlaw27_shares_i3, dendronlaw27_shares_o3, lp dendronlaw27_shares_s3 K0⟩
  | 16 => some ⟨dendronlaw27_shares_i8, dendronlaw27_shares_o8, lp dendronlaw27_shares_s8 K0⟩
  | _ => none

theorem dendronlaw27_shares_l3 (g : dendronlaw27_shares_i3.V → Option (OT dendronlaw27_shares_o3)) (v : dendronlaw27_shares_i3.V) : loopStep tb (envL e28) 47 dendronlaw27_shares_lh (loopAt 3 (bodyOf Tryd.f28) .skip) dendronlaw27_shares_i3 dendronlaw27_shares_o3 g v = dendronlaw27_shares_s3 g v := by kernel_rfl

theorem dendronlaw27_shares_l8 (g : dendronlaw27_shares_i8.V → Option (OT dendronlaw27_shares_o8)) (v : dendronlaw27_shares_i8.V) : loopStep tb (envL e28) 47 dendronlaw27_shares_lh (loopAt 8 (bodyOf Tryd.f28) .skip) dendronlaw27_shares_i8 dendronlaw27_shares_o8 g v = dendronlaw27_shares_s8 g v := by kernel_rfl

theorem dendronlaw27_shares_eq (l_0 : List RAT) : fnF tb (envL e28) Tryd.f28 dendronlaw27_shares_lh c28.ps c28.rs (T := (List RAT)) (fun y => (y.2.1)) (l_0, ()) = dendronlaw27_shares l_0 := by kernel_rfl

abbrev e29 : List (Nat × Ctr) := [(17, c17)]

def ratio_Same_lh : LH
  | _ => none

theorem ratio_Same_eq (a_0 : RAT) (b_1 : RAT) : fnF tb (envL e29) Tryd.f29 ratio_Same_lh c29.ps c29.rs (T := Bool) (fun y => (y.2.1)) (a_0, b_1, ()) = ratio_Same a_0 b_1 := by kernel_rfl

abbrev e30 : List (Nat × Ctr) := [(23, c23), (32, c32)]

def ratio_Sum_lh : LH
  | 6 => some ⟨ratio_Sum_i3, ratio_Sum_o3, lp ratio_Sum_s3 K0⟩
  | _ => none

theorem ratio_Sum_l3 (g : ratio_Sum_i3.V → Option (OT ratio_Sum_o3)) (v : ratio_Sum_i3.V) : loopStep tb (envL e30) 18 ratio_Sum_lh (loopAt 3 (bodyOf Tryd.f30) .skip) ratio_Sum_i3 ratio_Sum_o3 g v = ratio_Sum_s3 g v := by kernel_rfl

theorem ratio_Sum_eq (l_0 : List RAT) : fnF tb (envL e30) Tryd.f30 ratio_Sum_lh c30.ps c30.rs (T := RAT) (fun y => (y.2.1)) (l_0, ()) = ratio_Sum l_0 := by kernel_rfl

abbrev e31 : List (Nat × Ctr) := [(45, c45)]

def ratio_One_lh : LH
  | _ => none

theorem ratio_One_eq  : fnF tb (envL e31) Tryd.f31 ratio_One_lh c31.ps c31.rs (T := RAT) (fun y => (y.2.1)) () = ratio_One  := by kernel_rfl

abbrev e6 : List (Nat × Ctr) := [(10, c10), (15, c15), (25, c25), (26, c26), (27, c27), (28, c28), (29, c29), (30, c30), (31, c31)]

def dendronlaw27_RankShares_lh : LH
  | 10 => some ⟨dendronlaw27_RankShares_i5, dendronlaw27_RankShares_o5, lp dendronlaw27_RankShares_s5 K0⟩
  | _ => none

theorem dendronlaw27_RankShares_l5 (g : dendronlaw27_RankShares_i5.V → Option (OT dendronlaw27_RankShares_o5)) (v : dendronlaw27_RankShares_i5.V) : loopStep tb (envL e6) 42 dendronlaw27_RankShares_lh (loopAt 5 (bodyOf Tryd.f6) .skip) dendronlaw27_RankShares_i5 dendronlaw27_RankShares_o5 g v = dendronlaw27_RankShares_s5 g v := by kernel_rfl

theorem dendronlaw27_RankShares_eq (l_0 : List RAT) : fnF tb (envL e6) Tryd.f6 dendronlaw27_RankShares_lh c6.ps c6.rs (T := Bool) (fun y => (y.2.1)) (l_0, ()) = dendronlaw27_RankShares l_0 := by kernel_rfl

abbrev e33 : List (Nat × Ctr) := [(13, c13), (17, c17), (23, c23), (25, c25), (32, c32)]

def rank_Cover_lh : LH
  | 8 => some ⟨rank_Cover_i4, rank_Cover_o4, lp rank_Cover_s4 K0⟩
  | _ => none

theorem rank_Cover_l4 (g : rank_Cover_i4.V → Option (OT rank_Cover_o4)) (v : rank_Cover_i4.V) : loopStep tb (envL e33) 34 rank_Cover_lh (loopAt 4 (bodyOf Tryd.f33) .skip) rank_Cover_i4 rank_Cover_o4 g v = rank_Cover_s4 g v := by kernel_rfl

theorem rank_Cover_eq (l_0 : List RAT) (least_1 : RAT) : fnF tb (envL e33) Tryd.f33 rank_Cover_lh c33.ps c33.rs (T := Int) (fun y => (y.2.1)) (l_0, least_1, ()) = rank_Cover l_0 least_1 := by kernel_rfl

abbrev e7 : List (Nat × Ctr) := [(10, c10), (11, c11), (15, c15), (16, c16), (17, c17), (23, c23), (28, c28), (32, c32), (33, c33)]

def dendronlaw27_RankCovers_lh : LH
  | 22 => some ⟨dendronlaw27_RankCovers_i11, dendronlaw27_RankCovers_o11, lp dendronlaw27_RankCovers_s11 K0⟩
  | 14 => some ⟨dendronlaw27_RankCovers_i7, dendronlaw27_RankCovers_o7, lp dendronlaw27_RankCovers_s7 K0⟩
  | _ => none

theorem dendronlaw27_RankCovers_l11 (g : dendronlaw27_RankCovers_i11.V → Option (OT dendronlaw27_RankCovers_o11)) (v : dendronlaw27_RankCovers_i11.V) : loopStep tb (envL e7) 60 dendronlaw27_RankCovers_lh (loopAt 11 (bodyOf Tryd.f7) .skip) dendronlaw27_RankCovers_i11 dendronlaw27_RankCovers_o11 g v = dendronlaw27_RankCovers_s11 g v := by kernel_rfl

theorem dendronlaw27_RankCovers_l7 (g : dendronlaw27_RankCovers_i7.V → Option (OT dendronlaw27_RankCovers_o7)) (v : dendronlaw27_RankCovers_i7.V) : loopStep tb (envL e7) 60 dendronlaw27_RankCovers_lh (loopAt 7 (bodyOf Tryd.f7) .skip) dendronlaw27_RankCovers_i7 dendronlaw27_RankCovers_o7 g v = dendronlaw27_RankCovers_s7 g v := by kernel_rfl

theorem dendronlaw27_RankCovers_eq (l_0 : List RAT) (least_1 : RAT) : fnF tb (envL e7) Tryd.f7 dendronlaw27_RankCovers_lh c7.ps c7.rs (T := Bool) (fun y => (y.2.1)) (l_0, least_1, ()) = dendronlaw27_RankCovers l_0 least_1 := by kernel_rfl

abbrev e63 : List (Nat × Ctr) := [(47, c47), (86, c86)]

def ratio_Neg_lh : LH
  | _ => none

theorem ratio_Neg_eq (a_0 : RAT) : fnF tb (envL e63) Tryd.f63 ratio_Neg_lh c63.ps c63.rs (T := RAT) (fun y => (y.2.1)) (a_0, ()) = ratio_Neg a_0 := by kernel_rfl

abbrev e35 : List (Nat × Ctr) := [(23, c23), (63, c63)]

def ratio_Sub_lh : LH
  | _ => none

theorem ratio_Sub_eq (a_0 : RAT) (b_1 : RAT) : fnF tb (envL e35) Tryd.f35 ratio_Sub_lh c35.ps c35.rs (T := RAT) (fun y => (y.2.1)) (a_0, b_1, ()) = ratio_Sub a_0 b_1 := by kernel_rfl

abbrev e88 : List (Nat × Ctr) := [(59, c59)]

def ratio_over_lh : LH
  | _ => none

theorem ratio_over_eq (a_0 : RAT) (b_1 : RAT) : fnF tb (envL e88) Tryd.f88 ratio_over_lh c88.ps c88.rs (T := RAT) (fun y => (y.2.1)) (a_0, b_1, ()) = ratio_over a_0 b_1 := by kernel_rfl

abbrev e62 : List (Nat × Ctr) := [(30, c30), (45, c45), (88, c88)]

def ratio_Mean_lh : LH
  | _ => none

theorem ratio_Mean_eq (l_0 : List RAT) : fnF tb (envL e62) Tryd.f62 ratio_Mean_lh c62.ps c62.rs (T := RAT × Int) (fun y => (y.2.1, y.2.2.1)) (l_0, ()) = ratio_Mean l_0 := by kernel_rfl

abbrev e34 : List (Nat × Ctr) := [(22, c22), (35, c35), (62, c62)]

def rank_Spread_lh : LH
  | 12 => some ⟨rank_Spread_i6, rank_Spread_o6, lp rank_Spread_s6 K0⟩
  | _ => none

theorem rank_Spread_l6 (g : rank_Spread_i6.V → Option (OT rank_Spread_o6)) (v : rank_Spread_i6.V) : loopStep tb (envL e34) 46 rank_Spread_lh (loopAt 6 (bodyOf Tryd.f34) .skip) rank_Spread_i6 rank_Spread_o6 g v = rank_Spread_s6 g v := by kernel_rfl

theorem rank_Spread_eq (l_0 : List RAT) : fnF tb (envL e34) Tryd.f34 rank_Spread_lh c34.ps c34.rs (T := RAT × RAT × Int) (fun y => (y.2.1, y.2.2.1, y.2.2.2.1)) (l_0, ()) = rank_Spread l_0 := by kernel_rfl

abbrev e8 : List (Nat × Ctr) := [(10, c10), (15, c15), (21, c21), (22, c22), (23, c23), (24, c24), (32, c32), (34, c34), (35, c35)]

def dendronlaw27_RankSpreads_lh : LH
  | 16 => some ⟨dendronlaw27_RankSpreads_i8, dendronlaw27_RankSpreads_o8, lp dendronlaw27_RankSpreads_s8 K0⟩
  | 24 => some ⟨dendronlaw27_RankSpreads_i12, dendronlaw27_RankSpreads_o12, lp dendronlaw27_RankSpreads_s12 K0⟩
  | _ => none

theorem dendronlaw27_RankSpreads_l8 (g : dendronlaw27_RankSpreads_i8.V → Option (OT dendronlaw27_RankSpreads_o8)) (v : dendronlaw27_RankSpreads_i8.V) : loopStep tb (envL e8) 91 dendronlaw27_RankSpreads_lh (loopAt 8 (bodyOf Tryd.f8) .skip) dendronlaw27_RankSpreads_i8 dendronlaw27_RankSpreads_o8 g v = dendronlaw27_RankSpreads_s8 g v := by kernel_rfl

theorem dendronlaw27_RankSpreads_l12 (g : dendronlaw27_RankSpreads_i12.V → Option (OT dendronlaw27_RankSpreads_o12)) (v : dendronlaw27_RankSpreads_i12.V) : loopStep tb (envL e8) 91 dendronlaw27_RankSpreads_lh (loopAt 12 (bodyOf Tryd.f8) .skip) dendronlaw27_RankSpreads_i12 dendronlaw27_RankSpreads_o12 g v = dendronlaw27_RankSpreads_s12 g v := by kernel_rfl

theorem dendronlaw27_RankSpreads_eq (a_0 : List RAT) : fnF tb (envL e8) Tryd.f8 dendronlaw27_RankSpreads_lh c8.ps c8.rs (T := Bool) (fun y => (y.2.1)) (a_0, ()) = dendronlaw27_RankSpreads a_0 := by kernel_rfl

abbrev e64 : List (Nat × Ctr) := []

def dendronlaw07_number_lh : LH
  | _ => none

theorem dendronlaw07_number_eq (a_0 : RAT) : fnF tb (envL e64) Tryd.f64 dendronlaw07_number_lh c64.ps c64.rs (T := RAT) (fun y => (y.2.1)) (a_0, ()) = dendronlaw07_number a_0 := by kernel_rfl

abbrev e36 : List (Nat × Ctr) := [(64, c64)]

def dendronlaw07_Few_lh : LH
  | 14 => some ⟨dendronlaw07_Few_i7, dendronlaw07_Few_o7, lp dendronlaw07_Few_s7 K0⟩
  | 6 => some ⟨dendronlaw07_Few_i3, dendronlaw07_Few_o3, lp dendronlaw07_Few_s3 K0⟩
  | _ => none

theorem dendronlaw07_Few_l7 (g : dendronlaw07_Few_i7.V → Option (OT dendronlaw07_Few_o7)) (v : dendronlaw07_Few_i7.V) : loopStep tb (envL e36) 67 dendronlaw07_Few_lh (loopAt 7 (bodyOf Tryd.f36) .skip) dendronlaw07_Few_i7 dendronlaw07_Few_o7 g v = dendronlaw07_Few_s7 g v := by kernel_rfl

theorem dendronlaw07_Few_l3 (g : dendronlaw07_Few_i3.V → Option (OT dendronlaw07_Few_o3)) (v : dendronlaw07_Few_i3.V) : loopStep tb (envL e36) 67 dendronlaw07_Few_lh (loopAt 3 (bodyOf Tryd.f36) .skip) dendronlaw07_Few_i3 dendronlaw07_Few_o3 g v = dendronlaw07_Few_s3 g v := by kernel_rfl

theorem dendronlaw07_Few_eq (a_0 : MODEL) : fnF tb (envL e36) Tryd.f36 dendronlaw07_Few_lh c36.ps c36.rs (T := MODEL) (fun y => (y.2.1)) (a_0, ()) = dendronlaw07_Few a_0 := by kernel_rfl

abbrev e112 : List (Nat × Ctr) := []

def model_Fits_lh : LH
  | 18 => some ⟨model_Fits_i9, model_Fits_o9, lp model_Fits_s9 K0⟩
  | 8 => some ⟨model_Fits_i4, model_Fits_o4, lp model_Fits_s4 K0⟩
  | _ => none

theorem model_Fits_l9 (g : model_Fits_i9.V → Option (OT model_Fits_o9)) (v : model_Fits_i9.V) : loopStep tb (envL e112) 72 model_Fits_lh (loopAt 9 (bodyOf Tryd.f112) .skip) model_Fits_i9 model_Fits_o9 g v = model_Fits_s9 g v := by kernel_rfl

theorem model_Fits_l4 (g : model_Fits_i4.V → Option (OT model_Fits_o4)) (v : model_Fits_i4.V) : loopStep tb (envL e112) 72 model_Fits_lh (loopAt 4 (bodyOf Tryd.f112) .skip) model_Fits_i4 model_Fits_o4 g v = model_Fits_s4 g v := by kernel_rfl

theorem model_Fits_eq (a_0 : MODEL) : fnF tb (envL e112) Tryd.f112 model_Fits_lh c112.ps c112.rs (T := Bool) (fun y => (y.2.1)) (a_0, ()) = model_Fits a_0 := by kernel_rfl

abbrev e113 : List (Nat × Ctr) := []

def valid_ranges_lh : LH
  | 4 => some ⟨valid_ranges_i2, valid_ranges_o2, lp valid_ranges_s2 K0⟩
  | _ => none

theorem valid_ranges_l2 (g : valid_ranges_i2.V → Option (OT valid_ranges_o2)) (v : valid_ranges_i2.V) : loopStep tb (envL e113) 52 valid_ranges_lh (loopAt 2 (bodyOf Tryd.f113) .skip) valid_ranges_i2 valid_ranges_o2 g v = valid_ranges_s2 g v := by kernel_rfl

theorem valid_ranges_eq (t_0 : List NODE) (features_1 : Int) : fnF tb (envL e113) Tryd.f113 valid_ranges_lh c113.ps c113.rs (T := Int × Int) (fun y => (y.2.1, y.2.2.1)) (t_0, features_1, ()) = valid_ranges t_0 features_1 := by kernel_rfl

abbrev e114 : List (Nat × Ctr) := []

def valid_shape_lh : LH
  | 6 => some ⟨valid_shape_i3, valid_shape_o3, lp valid_shape_s3 K0⟩
  | 20 => some ⟨valid_shape_i10, valid_shape_o10, lp valid_shape_s10 K0⟩
  | 34 => some ⟨valid_shape_i17, valid_shape_o17, lp valid_shape_s17 K0⟩
  | 50 => some ⟨valid_shape_i25, valid_shape_o25, lp valid_shape_s25 K0⟩
  | _ => none

theorem valid_shape_l3 (g : valid_shape_i3.V → Option (OT valid_shape_o3)) (v : valid_shape_i3.V) : loopStep tb (envL e114) 103 valid_shape_lh (loopAt 3 (bodyOf Tryd.f114) .skip) valid_shape_i3 valid_shape_o3 g v = valid_shape_s3 g v := by kernel_rfl

theorem valid_shape_l10 (g : valid_shape_i10.V → Option (OT valid_shape_o10)) (v : valid_shape_i10.V) : loopStep tb (envL e114) 103 valid_shape_lh (loopAt 10 (bodyOf Tryd.f114) .skip) valid_shape_i10 valid_shape_o10 g v = valid_shape_s10 g v := by kernel_rfl

theorem valid_shape_l17 (g : valid_shape_i17.V → Option (OT valid_shape_o17)) (v : valid_shape_i17.V) : loopStep tb (envL e114) 103 valid_shape_lh (loopAt 17 (bodyOf Tryd.f114) .skip) valid_shape_i17 valid_shape_o17 g v = valid_shape_s17 g v := by kernel_rfl

theorem valid_shape_l25 (g : valid_shape_i25.V → Option (OT valid_shape_o25)) (v : valid_shape_i25.V) : loopStep tb (envL e114) 103 valid_shape_lh (loopAt 25 (bodyOf Tryd.f114) .skip) valid_shape_i25 valid_shape_o25 g v = valid_shape_s25 g v := by kernel_rfl

theorem valid_shape_eq (a_0 : List NODE) : fnF tb (envL e114) Tryd.f114 valid_shape_lh c114.ps c114.rs (T := Int × Int) (fun y => (y.2.1, y.2.2.1)) (a_0, ()) = valid_shape a_0 := by kernel_rfl

abbrev e115 : List (Nat × Ctr) := [(26, c26)]

def valid_covers_lh : LH
  | 4 => some ⟨valid_covers_i2, valid_covers_o2, lp valid_covers_s2 K0⟩
  | _ => none

theorem valid_covers_l2 (g : valid_covers_i2.V → Option (OT valid_covers_o2)) (v : valid_covers_i2.V) : loopStep tb (envL e115) 19 valid_covers_lh (loopAt 2 (bodyOf Tryd.f115) .skip) valid_covers_i2 valid_covers_o2 g v = valid_covers_s2 g v := by kernel_rfl

theorem valid_covers_eq (t_0 : List NODE) : fnF tb (envL e115) Tryd.f115 valid_covers_lh c115.ps c115.rs (T := Int × Int) (fun y => (y.2.1, y.2.2.1)) (t_0, ()) = valid_covers t_0 := by kernel_rfl

abbrev e116 : List (Nat × Ctr) := [(23, c23), (29, c29)]

def valid_sums_lh : LH
  | 4 => some ⟨valid_sums_i2, valid_sums_o2, lp valid_sums_s2 K0⟩
  | _ => none

theorem valid_sums_l2 (g : valid_sums_i2.V → Option (OT valid_sums_o2)) (v : valid_sums_i2.V) : loopStep tb (envL e116) 37 valid_sums_lh (loopAt 2 (bodyOf Tryd.f116) .skip) valid_sums_i2 valid_sums_o2 g v = valid_sums_s2 g v := by kernel_rfl

theorem valid_sums_eq (t_0 : List NODE) : fnF tb (envL e116) Tryd.f116 valid_sums_lh c116.ps c116.rs (T := Int × Int) (fun y => (y.2.1, y.2.2.1)) (t_0, ()) = valid_sums t_0 := by kernel_rfl

abbrev e117 : List (Nat × Ctr) := []

def valid_fault_lh : LH
  | _ => none

theorem valid_fault_eq (e_0 : Int) (tree_1 : Int) (node_2 : Int) : fnF tb (envL e117) Tryd.f117 valid_fault_lh c117.ps c117.rs (T := (Int × Int × Int × Int)) (fun y => (y.2.1)) (e_0, tree_1, node_2, ()) = valid_fault e_0 tree_1 node_2 := by kernel_rfl

abbrev e89 : List (Nat × Ctr) := [(112, c112), (113, c113), (114, c114), (115, c115), (116, c116), (117, c117)]

def valid_Check_lh : LH
  | 14 => some ⟨valid_Check_i7, valid_Check_o7, lp valid_Check_s7 K0⟩
  | 8 => some ⟨valid_Check_i4, valid_Check_o4, lp valid_Check_s4 K0⟩
  | _ => none

theorem valid_Check_l7 (g : valid_Check_i7.V → Option (OT valid_Check_o7)) (v : valid_Check_i7.V) : loopStep tb (envL e89) 63 valid_Check_lh (loopAt 7 (bodyOf Tryd.f89) .skip) valid_Check_i7 valid_Check_o7 g v = valid_Check_s7 g v := by kernel_rfl

theorem valid_Check_l4 (g : valid_Check_i4.V → Option (OT valid_Check_o4)) (v : valid_Check_i4.V) : loopStep tb (envL e89) 63 valid_Check_lh (loopAt 4 (bodyOf Tryd.f89) .skip) valid_Check_i4 valid_Check_o4 g v = valid_Check_s4 g v := by kernel_rfl

theorem valid_Check_eq (m_0 : MODEL) : fnF tb (envL e89) Tryd.f89 valid_Check_lh c89.ps c89.rs (T := (Int × Int × Int × Int)) (fun y => (y.2.1)) (m_0, ()) = valid_Check m_0 := by kernel_rfl

abbrev e68 : List (Nat × Ctr) := [(89, c89)]

def valid_Ok_lh : LH
  | _ => none

theorem valid_Ok_eq (m_0 : MODEL) : fnF tb (envL e68) Tryd.f68 valid_Ok_lh c68.ps c68.rs (T := Bool) (fun y => (y.2.1)) (m_0, ()) = valid_Ok m_0 := by kernel_rfl

abbrev e39 : List (Nat × Ctr) := [(68, c68)]

def valid_Tree_lh : LH
  | _ => none

theorem valid_Tree_eq (t_0 : List NODE) (features_1 : Int) : fnF tb (envL e39) Tryd.f39 valid_Tree_lh c39.ps c39.rs (T := Bool) (fun y => (y.2.1)) (t_0, features_1, ()) = valid_Tree t_0 features_1 := by kernel_rfl

abbrev e65 (n : Nat) : List (Nat × Ctr) := [(65, (c65 n))]

def trim_copyOf_lh (n : Nat) : LH
  | _ => none

theorem trim_copyOf_eq (n : Nat) (t_0 : List NODE) (at_1 : Int) (out_2 : List NODE) : fnF tb (envL (e65 n)) Tryd.f65 (trim_copyOf_lh n) (c65 n).ps (c65 n).rs (T := (List NODE) × Int) (fun y => (y.2.1, y.2.2.1)) (t_0, at_1, out_2, ()) = trim_copyOf (n + 1) t_0 at_1 out_2 := by kernel_rfl

abbrev e66 : List (Nat × Ctr) := [(47, c47)]

def model_Tidy_lh : LH
  | 14 => some ⟨model_Tidy_i7, model_Tidy_o7, lp model_Tidy_s7 K0⟩
  | 6 => some ⟨model_Tidy_i3, model_Tidy_o3, lp model_Tidy_s3 K0⟩
  | _ => none

theorem model_Tidy_l7 (g : model_Tidy_i7.V → Option (OT model_Tidy_o7)) (v : model_Tidy_i7.V) : loopStep tb (envL e66) 67 model_Tidy_lh (loopAt 7 (bodyOf Tryd.f66) .skip) model_Tidy_i7 model_Tidy_o7 g v = model_Tidy_s7 g v := by kernel_rfl

theorem model_Tidy_l3 (g : model_Tidy_i3.V → Option (OT model_Tidy_o3)) (v : model_Tidy_i3.V) : loopStep tb (envL e66) 67 model_Tidy_lh (loopAt 3 (bodyOf Tryd.f66) .skip) model_Tidy_i3 model_Tidy_o3 g v = model_Tidy_s3 g v := by kernel_rfl

theorem model_Tidy_eq (a_0 : MODEL) : fnF tb (envL e66) Tryd.f66 model_Tidy_lh c66.ps c66.rs (T := MODEL) (fun y => (y.2.1)) (a_0, ()) = model_Tidy a_0 := by kernel_rfl

abbrev e37 : List (Nat × Ctr) := [(39, c39), (65, (c65 R0)), (66, c66)]

def trim_Order_lh : LH
  | _ => none

theorem trim_Order_eq (t_0 : List NODE) (features_1 : Int) : fnF tb (envL e37) Tryd.f37 trim_Order_lh c37.ps c37.rs (T := (List NODE) × Int) (fun y => (y.2.1, y.2.2.1)) (t_0, features_1, ()) = trim_Order t_0 features_1 := by kernel_rfl

abbrev e67 (n : Nat) : List (Nat × Ctr) := [(29, c29), (67, (c67 n))]

def trim_shrink_lh (n : Nat) : LH
  | _ => none

theorem trim_shrink_eq (n : Nat) (t_0 : List NODE) (at_1 : Int) : fnF tb (envL (e67 n)) Tryd.f67 (trim_shrink_lh n) (c67 n).ps (c67 n).rs (T := (List NODE)) (fun y => (y.1.1)) (t_0, at_1, ()) = trim_shrink (n + 1) t_0 at_1 := by kernel_rfl

abbrev e38 : List (Nat × Ctr) := [(37, c37), (65, (c65 R0)), (67, (c67 R0))]

def trim_Shrink_lh : LH
  | _ => none

theorem trim_Shrink_eq (t_0 : List NODE) (features_1 : Int) : fnF tb (envL e38) Tryd.f38 trim_Shrink_lh c38.ps c38.rs (T := (List NODE) × Int) (fun y => (y.2.1, y.2.2.1)) (t_0, features_1, ()) = trim_Shrink t_0 features_1 := by kernel_rfl

abbrev e40 : List (Nat × Ctr) := [(29, c29), (31, c31), (38, c38), (45, c45)]

def dendronlaw25_awake_lh : LH
  | _ => none

theorem dendronlaw25_awake_eq  : fnF tb (envL e40) Tryd.f40 dendronlaw25_awake_lh c40.ps c40.rs (T := Bool) (fun y => (y.2.1)) () = dendronlaw25_awake  := by kernel_rfl

abbrev e90 : List (Nat × Ctr) := []

def dendronref07_exact_lh : LH
  | 8 => some ⟨dendronref07_exact_i4, dendronref07_exact_o4, lp dendronref07_exact_s4 K0⟩
  | 18 => some ⟨dendronref07_exact_i9, dendronref07_exact_o9, lp dendronref07_exact_s9 K0⟩
  | _ => none

theorem dendronref07_exact_l4 (g : dendronref07_exact_i4.V → Option (OT dendronref07_exact_o4)) (v : dendronref07_exact_i4.V) : loopStep tb (envL e90) 73 dendronref07_exact_lh (loopAt 4 (bodyOf Tryd.f90) .skip) dendronref07_exact_i4 dendronref07_exact_o4 g v = dendronref07_exact_s4 g v := by kernel_rfl

theorem dendronref07_exact_l9 (g : dendronref07_exact_i9.V → Option (OT dendronref07_exact_o9)) (v : dendronref07_exact_i9.V) : loopStep tb (envL e90) 73 dendronref07_exact_lh (loopAt 9 (bodyOf Tryd.f90) .skip) dendronref07_exact_i9 dendronref07_exact_o9 g v = dendronref07_exact_s9 g v := by kernel_rfl

theorem dendronref07_exact_eq (a_0 : RAT) (a_1 : RAT) : fnF tb (envL e90) Tryd.f90 dendronref07_exact_lh c90.ps c90.rs (T := Bool) (fun y => (y.2.1)) (a_0, a_1, ()) = dendronref07_exact a_0 a_1 := by kernel_rfl

abbrev e69 : List (Nat × Ctr) := [(90, c90)]

def dendronref07_Same_lh : LH
  | 18 => some ⟨dendronref07_Same_i9, dendronref07_Same_o9, lp dendronref07_Same_s9 K0⟩
  | 8 => some ⟨dendronref07_Same_i4, dendronref07_Same_o4, lp dendronref07_Same_s4 K0⟩
  | _ => none

theorem dendronref07_Same_l9 (g : dendronref07_Same_i9.V → Option (OT dendronref07_Same_o9)) (v : dendronref07_Same_i9.V) : loopStep tb (envL e69) 126 dendronref07_Same_lh (loopAt 9 (bodyOf Tryd.f69) .skip) dendronref07_Same_i9 dendronref07_Same_o9 g v = dendronref07_Same_s9 g v := by kernel_rfl

theorem dendronref07_Same_l4 (g : dendronref07_Same_i4.V → Option (OT dendronref07_Same_o4)) (v : dendronref07_Same_i4.V) : loopStep tb (envL e69) 126 dendronref07_Same_lh (loopAt 4 (bodyOf Tryd.f69) .skip) dendronref07_Same_i4 dendronref07_Same_o4 g v = dendronref07_Same_s4 g v := by kernel_rfl

theorem dendronref07_Same_eq (a_0 : MODEL) (a_1 : MODEL) : fnF tb (envL e69) Tryd.f69 dendronref07_Same_lh c69.ps c69.rs (T := Bool) (fun y => (y.2.1)) (a_0, a_1, ()) = dendronref07_Same a_0 a_1 := by kernel_rfl

abbrev e41 : List (Nat × Ctr) := [(66, c66), (69, c69)]

def dendronlaw25_same_lh : LH
  | _ => none

theorem dendronlaw25_same_eq (a_0 : List NODE) (b_1 : List NODE) : fnF tb (envL e41) Tryd.f41 dendronlaw25_same_lh c41.ps c41.rs (T := Bool) (fun y => (y.2.1)) (a_0, b_1, ()) = dendronlaw25_same a_0 b_1 := by kernel_rfl

abbrev e42 (n : Nat) : List (Nat × Ctr) := [(42, (c42 n))]

def dendronlaw25_ordered_lh (n : Nat) : LH
  | _ => none

theorem dendronlaw25_ordered_eq (n : Nat) (t_0 : List NODE) (at_1 : Int) (place_2 : Int) : fnF tb (envL (e42 n)) Tryd.f42 (dendronlaw25_ordered_lh n) (c42 n).ps (c42 n).rs (T := (List NODE)) (fun y => (y.2.1)) (t_0, at_1, place_2, ()) = dendronlaw25_ordered (n + 1) t_0 at_1 place_2 := by kernel_rfl

abbrev e70 : List (Nat × Ctr) := []

def dendronlaw25_first_lh : LH
  | 2 => some ⟨dendronlaw25_first_i1, dendronlaw25_first_o1, lp dendronlaw25_first_s1 K0⟩
  | _ => none

theorem dendronlaw25_first_l1 (g : dendronlaw25_first_i1.V → Option (OT dendronlaw25_first_o1)) (v : dendronlaw25_first_i1.V) : loopStep tb (envL e70) 21 dendronlaw25_first_lh (loopAt 1 (bodyOf Tryd.f70) .skip) dendronlaw25_first_i1 dendronlaw25_first_o1 g v = dendronlaw25_first_s1 g v := by kernel_rfl

theorem dendronlaw25_first_eq (t_0 : List NODE) (at_1 : Int) : fnF tb (envL e70) Tryd.f70 dendronlaw25_first_lh c70.ps c70.rs (T := RAT) (fun y => (y.2.1)) (t_0, at_1, ()) = dendronlaw25_first t_0 at_1 := by kernel_rfl

abbrev e71 (n : Nat) : List (Nat × Ctr) := [(29, c29), (71, (c71 n))]

def dendronlaw25_one_lh (n : Nat) : LH
  | _ => none

theorem dendronlaw25_one_eq (n : Nat) (t_0 : List NODE) (at_1 : Int) (value_2 : RAT) : fnF tb (envL (e71 n)) Tryd.f71 (dendronlaw25_one_lh n) (c71 n).ps (c71 n).rs (T := Bool) (fun y => (y.2.1)) (t_0, at_1, value_2, ()) = dendronlaw25_one (n + 1) t_0 at_1 value_2 := by kernel_rfl

abbrev e43 (n : Nat) : List (Nat × Ctr) := [(43, (c43 n)), (70, c70), (71, (c71 R0))]

def dendronlaw25_shrunk_lh (n : Nat) : LH
  | _ => none

theorem dendronlaw25_shrunk_eq (n : Nat) (t_0 : List NODE) (at_1 : Int) (place_2 : Int) : fnF tb (envL (e43 n)) Tryd.f43 (dendronlaw25_shrunk_lh n) (c43 n).ps (c43 n).rs (T := (List NODE)) (fun y => (y.2.1)) (t_0, at_1, place_2, ()) = dendronlaw25_shrunk (n + 1) t_0 at_1 place_2 := by kernel_rfl

abbrev e9 : List (Nat × Ctr) := [(36, c36), (37, c37), (38, c38), (39, c39), (40, c40), (41, c41), (42, (c42 R0)), (43, (c43 R0))]

def dendronlaw25_TrimOrders_lh : LH
  | _ => none

theorem dendronlaw25_TrimOrders_eq (a_0 : List NODE) (a_1 : Int) : fnF tb (envL e9) Tryd.f9 dendronlaw25_TrimOrders_lh c9.ps c9.rs (T := Bool) (fun y => (y.2.1)) (a_0, a_1, ()) = dendronlaw25_TrimOrders a_0 a_1 := by kernel_rfl
end Go.Proofs.YtdkcgmbdeimonaaDoor.X

