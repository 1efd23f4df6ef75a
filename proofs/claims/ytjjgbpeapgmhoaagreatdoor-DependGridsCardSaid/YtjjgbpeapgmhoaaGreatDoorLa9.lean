/- Own work: part of the proof; the first line of each part says what it tells. -/
import Derived.Test.YtjjgbpeapgmhoaaGreatDoorLa6


namespace Go.Proofs.YtjjgbpeapgmhoaaGreatDoor.X
open Go
set_option linter.unusedVariables false
set_option linter.unusedSimpArgs false
set_option maxRecDepth 100000
abbrev e16 : List (Nat × Ctr) := []
def dendronlaw09_number_lh : LH
 | _ => none
theorem dendronlaw09_number_eq (a_0 : RAT) : fnF tb (envL e16) Tryz.f16 dendronlaw09_number_lh c16.ps c16.rs (T := RAT) (fun y => (y.2.1)) (a_0, ()) = dendronlaw09_number a_0 := by kernel_rfl
abbrev e5 : List (Nat × Ctr) := [(16, c16)]
def dendronlaw09_Few_lh : LH
 | 6 => some ⟨dendronlaw09_Few_i3, dendronlaw09_Few_o3, lp dendronlaw09_Few_s3 K0⟩
 | _ => none
theorem dendronlaw09_Few_l3 (g : dendronlaw09_Few_i3.V → Option (OT dendronlaw09_Few_o3)) (v : dendronlaw09_Few_i3.V) : loopStep tb (envL e5) 32 dendronlaw09_Few_lh (loopAt 3 (bodyOf Tryz.f5) .skip) dendronlaw09_Few_i3 dendronlaw09_Few_o3 g v = dendronlaw09_Few_s3 g v := by kernel_rfl
theorem dendronlaw09_Few_eq (l_0 : List CELL) (n_1 : Int) : fnF tb (envL e5) Tryz.f5 dendronlaw09_Few_lh c5.ps c5.rs (T := (List CELL)) (fun y => (y.2.1)) (l_0, n_1, ()) = dendronlaw09_Few l_0 n_1 := by kernel_rfl
abbrev e34 : List (Nat × Ctr) := []
def dendronlaw07_number_lh : LH
 | _ => none
theorem dendronlaw07_number_eq (a_0 : RAT) : fnF tb (envL e34) Tryz.f34 dendronlaw07_number_lh c34.ps c34.rs (T := RAT) (fun y => (y.2.1)) (a_0, ()) = dendronlaw07_number a_0 := by kernel_rfl
abbrev e15 : List (Nat × Ctr) := [(34, c34)]
def dendronlaw07_Few_lh : LH
 | 14 => some ⟨dendronlaw07_Few_i7, dendronlaw07_Few_o7, lp dendronlaw07_Few_s7 K0⟩
 | 6 => some ⟨dendronlaw07_Few_i3, dendronlaw07_Few_o3, lp dendronlaw07_Few_s3 K0⟩
 | _ => none
theorem dendronlaw07_Few_l7 (g : dendronlaw07_Few_i7.V → Option (OT dendronlaw07_Few_o7)) (v : dendronlaw07_Few_i7.V) : loopStep tb (envL e15) 67 dendronlaw07_Few_lh (loopAt 7 (bodyOf Tryz.f15) .skip) dendronlaw07_Few_i7 dendronlaw07_Few_o7 g v = dendronlaw07_Few_s7 g v := by kernel_rfl
theorem dendronlaw07_Few_l3 (g : dendronlaw07_Few_i3.V → Option (OT dendronlaw07_Few_o3)) (v : dendronlaw07_Few_i3.V) : loopStep tb (envL e15) 67 dendronlaw07_Few_lh (loopAt 3 (bodyOf Tryz.f15) .skip) dendronlaw07_Few_i3 dendronlaw07_Few_o3 g v = dendronlaw07_Few_s3 g v := by kernel_rfl
theorem dendronlaw07_Few_eq (a_0 : MODEL) : fnF tb (envL e15) Tryz.f15 dendronlaw07_Few_lh c15.ps c15.rs (T := MODEL) (fun y => (y.2.1)) (a_0, ()) = dendronlaw07_Few a_0 := by kernel_rfl
abbrev e4 : List (Nat × Ctr) := [(5, c5), (15, c15)]
def dendronlaw11_Small_lh : LH
 | _ => none
theorem dendronlaw11_Small_eq (m_0 : MODEL) (row_1 : List CELL) : fnF tb (envL e4) Tryz.f4 dendronlaw11_Small_lh c4.ps c4.rs (T := MODEL × (List CELL)) (fun y => (y.2.1, y.2.2.1)) (m_0, row_1, ()) = dendronlaw11_Small m_0 row_1 := by kernel_rfl
abbrev e6 : List (Nat × Ctr) := [(5, c5)]
def dendronlaw09_All_lh : LH
 | 6 => some ⟨dendronlaw09_All_i3, dendronlaw09_All_o3, lp dendronlaw09_All_s3 K0⟩
 | _ => none
theorem dendronlaw09_All_l3 (g : dendronlaw09_All_i3.V → Option (OT dendronlaw09_All_o3)) (v : dendronlaw09_All_i3.V) : loopStep tb (envL e6) 30 dendronlaw09_All_lh (loopAt 3 (bodyOf Tryz.f6) .skip) dendronlaw09_All_i3 dendronlaw09_All_o3 g v = dendronlaw09_All_s3 g v := by kernel_rfl
theorem dendronlaw09_All_eq (l_0 : List (List CELL)) (n_1 : Int) (wide_2 : Int) : fnF tb (envL e6) Tryz.f6 dendronlaw09_All_lh c6.ps c6.rs (T := (List (List CELL))) (fun y => (y.2.1)) (l_0, n_1, wide_2, ()) = dendronlaw09_All l_0 n_1 wide_2 := by kernel_rfl
abbrev e59 : List (Nat × Ctr) := []
def model_Fits_lh : LH
 | 18 => some ⟨model_Fits_i9, model_Fits_o9, lp model_Fits_s9 K0⟩
 | 8 => some ⟨model_Fits_i4, model_Fits_o4, lp model_Fits_s4 K0⟩
 | _ => none
theorem model_Fits_l9 (g : model_Fits_i9.V → Option (OT model_Fits_o9)) (v : model_Fits_i9.V) : loopStep tb (envL e59) 72 model_Fits_lh (loopAt 9 (bodyOf Tryz.f59) .skip) model_Fits_i9 model_Fits_o9 g v = model_Fits_s9 g v := by kernel_rfl
theorem model_Fits_l4 (g : model_Fits_i4.V → Option (OT model_Fits_o4)) (v : model_Fits_i4.V) : loopStep tb (envL e59) 72 model_Fits_lh (loopAt 4 (bodyOf Tryz.f59) .skip) model_Fits_i4 model_Fits_o4 g v = model_Fits_s4 g v := by kernel_rfl
theorem model_Fits_eq (a_0 : MODEL) : fnF tb (envL e59) Tryz.f59 model_Fits_lh c59.ps c59.rs (T := Bool) (fun y => (y.2.1)) (a_0, ()) = model_Fits a_0 := by kernel_rfl
abbrev e60 : List (Nat × Ctr) := []
def valid_ranges_lh : LH
 | 4 => some ⟨valid_ranges_i2, valid_ranges_o2, lp valid_ranges_s2 K0⟩
 | _ => none
theorem valid_ranges_l2 (g : valid_ranges_i2.V → Option (OT valid_ranges_o2)) (v : valid_ranges_i2.V) : loopStep tb (envL e60) 52 valid_ranges_lh (loopAt 2 (bodyOf Tryz.f60) .skip) valid_ranges_i2 valid_ranges_o2 g v = valid_ranges_s2 g v := by kernel_rfl
theorem valid_ranges_eq (t_0 : List NODE) (features_1 : Int) : fnF tb (envL e60) Tryz.f60 valid_ranges_lh c60.ps c60.rs (T := Int × Int) (fun y => (y.2.1, y.2.2.1)) (t_0, features_1, ()) = valid_ranges t_0 features_1 := by kernel_rfl
abbrev e61 : List (Nat × Ctr) := []
def valid_shape_lh : LH
 | 6 => some ⟨valid_shape_i3, valid_shape_o3, lp valid_shape_s3 K0⟩
 | 20 => some ⟨valid_shape_i10, valid_shape_o10, lp valid_shape_s10 K0⟩
 | 34 => some ⟨valid_shape_i17, valid_shape_o17, lp valid_shape_s17 K0⟩
 | 50 => some ⟨valid_shape_i25, valid_shape_o25, lp valid_shape_s25 K0⟩
 | _ => none
theorem valid_shape_l3 (g : valid_shape_i3.V → Option (OT valid_shape_o3)) (v : valid_shape_i3.V) : loopStep tb (envL e61) 103 valid_shape_lh (loopAt 3 (bodyOf Tryz.f61) .skip) valid_shape_i3 valid_shape_o3 g v = valid_shape_s3 g v := by kernel_rfl
theorem valid_shape_l10 (g : valid_shape_i10.V → Option (OT valid_shape_o10)) (v : valid_shape_i10.V) : loopStep tb (envL e61) 103 valid_shape_lh (loopAt 10 (bodyOf Tryz.f61) .skip) valid_shape_i10 valid_shape_o10 g v = valid_shape_s10 g v := by kernel_rfl
theorem valid_shape_l17 (g : valid_shape_i17.V → Option (OT valid_shape_o17)) (v : valid_shape_i17.V) : loopStep tb (envL e61) 103 valid_shape_lh (loopAt 17 (bodyOf Tryz.f61) .skip) valid_shape_i17 valid_shape_o17 g v = valid_shape_s17 g v := by kernel_rfl
theorem valid_shape_l25 (g : valid_shape_i25.V → Option (OT valid_shape_o25)) (v : valid_shape_i25.V) : loopStep tb (envL e61) 103 valid_shape_lh (loopAt 25 (bodyOf Tryz.f61) .skip) valid_shape_i25 valid_shape_o25 g v = valid_shape_s25 g v := by kernel_rfl
theorem valid_shape_eq (a_0 : List NODE) : fnF tb (envL e61) Tryz.f61 valid_shape_lh c61.ps c61.rs (T := Int × Int) (fun y => (y.2.1, y.2.2.1)) (a_0, ()) = valid_shape a_0 := by kernel_rfl
abbrev e79 : List (Nat × Ctr) := []
def nat_trim_lh : LH
 | 4 => some ⟨nat_trim_i2, nat_trim_o2, lp nat_trim_s2 K0⟩
 | _ => none
theorem nat_trim_l2 (g : nat_trim_i2.V → Option (OT nat_trim_o2)) (v : nat_trim_i2.V) : loopStep tb (envL e79) 23 nat_trim_lh (loopAt 2 (bodyOf Tryz.f79) .skip) nat_trim_i2 nat_trim_o2 g v = nat_trim_s2 g v := by kernel_rfl
theorem nat_trim_eq (a_0 : List Int) : fnF tb (envL e79) Tryz.f79 nat_trim_lh c79.ps c79.rs (T := (List Int)) (fun y => (y.2.1)) (a_0, ()) = nat_trim a_0 := by kernel_rfl
abbrev e45 : List (Nat × Ctr) := [(79, c79)]
def nat_Of_lh : LH
 | _ => none
theorem nat_Of_eq (n_0 : Int) : fnF tb (envL e45) Tryz.f45 nat_Of_lh c45.ps c45.rs (T := (List Int)) (fun y => (y.2.1)) (n_0, ()) = nat_Of n_0 := by kernel_rfl
abbrev e27 : List (Nat × Ctr) := [(45, c45)]
def ratio_Zero_lh : LH
 | _ => none
theorem ratio_Zero_eq  : fnF tb (envL e27) Tryz.f27 ratio_Zero_lh c27.ps c27.rs (T := RAT) (fun y => (y.2.1)) () = ratio_Zero  := by kernel_rfl
abbrev e80 : List (Nat × Ctr) := [(79, c79)]
def nat_Clean_lh : LH
 | 6 => some ⟨nat_Clean_i3, nat_Clean_o3, lp nat_Clean_s3 K0⟩
 | _ => none
theorem nat_Clean_l3 (g : nat_Clean_i3.V → Option (OT nat_Clean_o3)) (v : nat_Clean_i3.V) : loopStep tb (envL e80) 24 nat_Clean_lh (loopAt 3 (bodyOf Tryz.f80) .skip) nat_Clean_i3 nat_Clean_o3 g v = nat_Clean_s3 g v := by kernel_rfl
theorem nat_Clean_eq (a_0 : List Int) : fnF tb (envL e80) Tryz.f80 nat_Clean_lh c80.ps c80.rs (T := (List Int)) (fun y => (y.2.1)) (a_0, ()) = nat_Clean a_0 := by kernel_rfl
abbrev e115 : List (Nat × Ctr) := [(80, c80)]
def nat_To_lh : LH
 | _ => none
theorem nat_To_eq (a_0 : List Int) : fnF tb (envL e115) Tryz.f115 nat_To_lh c115.ps c115.rs (T := Int × Bool) (fun y => (y.2.1, y.2.2.1)) (a_0, ()) = nat_To a_0 := by kernel_rfl
abbrev e102 : List (Nat × Ctr) := [(45, c45), (115, c115)]
def nat_euclid_lh : LH
 | 6 => some ⟨nat_euclid_i3, nat_euclid_o3, lp nat_euclid_s3 K0⟩
 | _ => none
theorem nat_euclid_l3 (g : nat_euclid_i3.V → Option (OT nat_euclid_o3)) (v : nat_euclid_i3.V) : loopStep tb (envL e102) 27 nat_euclid_lh (loopAt 3 (bodyOf Tryz.f102) .skip) nat_euclid_i3 nat_euclid_o3 g v = nat_euclid_s3 g v := by kernel_rfl
theorem nat_euclid_eq (a_0 : List Int) (b_1 : List Int) : fnF tb (envL e102) Tryz.f102 nat_euclid_lh c102.ps c102.rs (T := (List Int)) (fun y => (y.2.1)) (a_0, b_1, ()) = nat_euclid a_0 b_1 := by kernel_rfl
abbrev e103 : List (Nat × Ctr) := [(116, c116)]
def nat_zeros_lh : LH
 | 6 => some ⟨nat_zeros_i3, nat_zeros_o3, lp nat_zeros_s3 K0⟩
 | _ => none
theorem nat_zeros_l3 (g : nat_zeros_i3.V → Option (OT nat_zeros_o3)) (v : nat_zeros_i3.V) : loopStep tb (envL e103) 24 nat_zeros_lh (loopAt 3 (bodyOf Tryz.f103) .skip) nat_zeros_i3 nat_zeros_o3 g v = nat_zeros_s3 g v := by kernel_rfl
theorem nat_zeros_eq (a_0 : List Int) : fnF tb (envL e103) Tryz.f103 nat_zeros_lh c103.ps c103.rs (T := Int) (fun y => (y.2.1)) (a_0, ()) = nat_zeros a_0 := by kernel_rfl
abbrev e111 : List (Nat × Ctr) := []
def nat_limb_lh : LH
 | _ => none
theorem nat_limb_eq (a_0 : List Int) (i_1 : Int) : fnF tb (envL e111) Tryz.f111 nat_limb_lh c111.ps c111.rs (T := Int) (fun y => (y.2.1)) (a_0, i_1, ()) = nat_limb a_0 i_1 := by kernel_rfl
abbrev e104 : List (Nat × Ctr) := [(79, c79), (111, c111)]
def nat_shr_lh : LH
 | 12 => some ⟨nat_shr_i6, nat_shr_o6, lp nat_shr_s6 K0⟩
 | _ => none
theorem nat_shr_l6 (g : nat_shr_i6.V → Option (OT nat_shr_o6)) (v : nat_shr_i6.V) : loopStep tb (envL e104) 50 nat_shr_lh (loopAt 6 (bodyOf Tryz.f104) .skip) nat_shr_i6 nat_shr_o6 g v = nat_shr_s6 g v := by kernel_rfl
theorem nat_shr_eq (a_0 : List Int) (n_1 : Int) : fnF tb (envL e104) Tryz.f104 nat_shr_lh c104.ps c104.rs (T := (List Int)) (fun y => (y.2.1)) (a_0, n_1, ()) = nat_shr a_0 n_1 := by kernel_rfl
abbrev e105 : List (Nat × Ctr) := []
def nat_order_lh : LH
 | 12 => some ⟨nat_order_i6, nat_order_o6, lp nat_order_s6 K0⟩
 | _ => none
theorem nat_order_l6 (g : nat_order_i6.V → Option (OT nat_order_o6)) (v : nat_order_i6.V) : loopStep tb (envL e105) 45 nat_order_lh (loopAt 6 (bodyOf Tryz.f105) .skip) nat_order_i6 nat_order_o6 g v = nat_order_s6 g v := by kernel_rfl
theorem nat_order_eq (a_0 : List Int) (b_1 : List Int) : fnF tb (envL e105) Tryz.f105 nat_order_lh c105.ps c105.rs (T := Int) (fun y => (y.2.1)) (a_0, b_1, ()) = nat_order a_0 b_1 := by kernel_rfl
abbrev e106 : List (Nat × Ctr) := [(79, c79)]
def nat_shl_lh : LH
 | 8 => some ⟨nat_shl_i4, nat_shl_o4, lp nat_shl_s4 K0⟩
 | _ => none
theorem nat_shl_l4 (g : nat_shl_i4.V → Option (OT nat_shl_o4)) (v : nat_shl_i4.V) : loopStep tb (envL e106) 51 nat_shl_lh (loopAt 4 (bodyOf Tryz.f106) .skip) nat_shl_i4 nat_shl_o4 g v = nat_shl_s4 g v := by kernel_rfl
theorem nat_shl_eq (a_0 : List Int) (n_1 : Int) : fnF tb (envL e106) Tryz.f106 nat_shl_lh c106.ps c106.rs (T := (List Int)) (fun y => (y.2.1)) (a_0, n_1, ()) = nat_shl a_0 n_1 := by kernel_rfl
abbrev e109 : List (Nat × Ctr) := [(79, c79)]
def nat_small_lh : LH
 | 8 => some ⟨nat_small_i4, nat_small_o4, lp nat_small_s4 K0⟩
 | _ => none
theorem nat_small_l4 (g : nat_small_i4.V → Option (OT nat_small_o4)) (v : nat_small_i4.V) : loopStep tb (envL e109) 38 nat_small_lh (loopAt 4 (bodyOf Tryz.f109) .skip) nat_small_i4 nat_small_o4 g v = nat_small_s4 g v := by kernel_rfl
theorem nat_small_eq (a_0 : List Int) (d_1 : Int) : fnF tb (envL e109) Tryz.f109 nat_small_lh c109.ps c109.rs (T := (List Int) × Int) (fun y => (y.2.1, y.2.2.1)) (a_0, d_1, ()) = nat_small a_0 d_1 := by kernel_rfl
abbrev e117 : List (Nat × Ctr) := [(120, c120)]
def bits_LeadingZeros32_lh : LH
 | _ => none
theorem bits_LeadingZeros32_eq (x_0 : Int) : fnF tb (envL e117) Tryz.f117 bits_LeadingZeros32_lh c117.ps c117.rs (T := Int) (fun y => (y.2.1)) (x_0, ()) = bits_LeadingZeros32 x_0 := by kernel_rfl
abbrev e121 : List (Nat × Ctr) := [(111, c111)]
def nat_take_lh : LH
 | 6 => some ⟨nat_take_i3, nat_take_o3, lp nat_take_s3 K0⟩
 | _ => none
theorem nat_take_l3 (g : nat_take_i3.V → Option (OT nat_take_o3)) (v : nat_take_i3.V) : loopStep tb (envL e121) 46 nat_take_lh (loopAt 3 (bodyOf Tryz.f121) .skip) nat_take_i3 nat_take_o3 g v = nat_take_s3 g v := by kernel_rfl
theorem nat_take_eq (u_0 : List Int) (v_1 : List Int) (times_2 : Int) : fnF tb (envL e121) Tryz.f121 nat_take_lh c121.ps c121.rs (T := (List Int) × Bool) (fun y => (y.1.1, y.2.1)) (u_0, v_1, times_2, ()) = nat_take u_0 v_1 times_2 := by kernel_rfl
abbrev e122 : List (Nat × Ctr) := [(111, c111)]
def nat_give_lh : LH
 | 4 => some ⟨nat_give_i2, nat_give_o2, lp nat_give_s2 K0⟩
 | _ => none
theorem nat_give_l2 (g : nat_give_i2.V → Option (OT nat_give_o2)) (v : nat_give_i2.V) : loopStep tb (envL e122) 29 nat_give_lh (loopAt 2 (bodyOf Tryz.f122) .skip) nat_give_i2 nat_give_o2 g v = nat_give_s2 g v := by kernel_rfl
theorem nat_give_eq (u_0 : List Int) (v_1 : List Int) : fnF tb (envL e122) Tryz.f122 nat_give_lh c122.ps c122.rs (T := (List Int)) (fun y => (y.1.1)) (u_0, v_1, ()) = nat_give u_0 v_1 := by kernel_rfl
abbrev e118 : List (Nat × Ctr) := [(121, c121), (122, c122)]
def nat_digit_lh : LH
 | 8 => some ⟨nat_digit_i4, nat_digit_o4, lp nat_digit_s4 K0⟩
 | _ => none
theorem nat_digit_l4 (g : nat_digit_i4.V → Option (OT nat_digit_o4)) (v : nat_digit_i4.V) : loopStep tb (envL e118) 77 nat_digit_lh (loopAt 4 (bodyOf Tryz.f118) .skip) nat_digit_i4 nat_digit_o4 g v = nat_digit_s4 g v := by kernel_rfl
theorem nat_digit_eq (a_0 : List Int) (a_1 : List Int) : fnF tb (envL e118) Tryz.f118 nat_digit_lh c118.ps c118.rs (T := (List Int) × Int) (fun y => (y.1.1, y.2.1)) (a_0, a_1, ()) = nat_digit a_0 a_1 := by kernel_rfl
abbrev e110 : List (Nat × Ctr) := [(79, c79), (104, c104), (106, c106), (117, c117), (118, c118)]
def nat_long_lh : LH
 | 14 => some ⟨nat_long_i7, nat_long_o7, lp nat_long_s7 K0⟩
 | _ => none
theorem nat_long_l7 (g : nat_long_i7.V → Option (OT nat_long_o7)) (v : nat_long_i7.V) : loopStep tb (envL e110) 64 nat_long_lh (loopAt 7 (bodyOf Tryz.f110) .skip) nat_long_i7 nat_long_o7 g v = nat_long_s7 g v := by kernel_rfl
theorem nat_long_eq (a_0 : List Int) (b_1 : List Int) : fnF tb (envL e110) Tryz.f110 nat_long_lh c110.ps c110.rs (T := (List Int) × (List Int)) (fun y => (y.2.1, y.2.2.1)) (a_0, b_1, ()) = nat_long a_0 b_1 := by kernel_rfl
abbrev e83 : List (Nat × Ctr) := [(45, c45), (80, c80), (105, c105), (109, c109), (110, c110)]
def nat_DivMod_lh : LH
 | _ => none
theorem nat_DivMod_eq (a_0 : List Int) (b_1 : List Int) : fnF tb (envL e83) Tryz.f83 nat_DivMod_lh c83.ps c83.rs (T := (List Int) × (List Int) × Int) (fun y => (y.2.1, y.2.2.1, y.2.2.2.1)) (a_0, b_1, ()) = nat_DivMod a_0 b_1 := by kernel_rfl
abbrev e107 : List (Nat × Ctr) := [(83, c83)]
def nat_rest_lh : LH
 | _ => none
theorem nat_rest_eq (a_0 : List Int) (b_1 : List Int) : fnF tb (envL e107) Tryz.f107 nat_rest_lh c107.ps c107.rs (T := (List Int) × (List Int)) (fun y => (y.2.1, y.2.2.1)) (a_0, b_1, ()) = nat_rest a_0 b_1 := by kernel_rfl
abbrev e108 : List (Nat × Ctr) := [(79, c79), (111, c111)]
def nat_minus_lh : LH
 | 8 => some ⟨nat_minus_i4, nat_minus_o4, lp nat_minus_s4 K0⟩
 | _ => none
theorem nat_minus_l4 (g : nat_minus_i4.V → Option (OT nat_minus_o4)) (v : nat_minus_i4.V) : loopStep tb (envL e108) 39 nat_minus_lh (loopAt 4 (bodyOf Tryz.f108) .skip) nat_minus_i4 nat_minus_o4 g v = nat_minus_s4 g v := by kernel_rfl
theorem nat_minus_eq (a_0 : List Int) (b_1 : List Int) : fnF tb (envL e108) Tryz.f108 nat_minus_lh c108.ps c108.rs (T := (List Int)) (fun y => (y.2.1)) (a_0, b_1, ()) = nat_minus a_0 b_1 := by kernel_rfl
abbrev e82 : List (Nat × Ctr) := [(80, c80), (102, c102), (103, c103), (104, c104), (105, c105), (106, c106), (107, c107), (108, c108)]
def nat_Gcd_lh : LH
 | 20 => some ⟨nat_Gcd_i10, nat_Gcd_o10, lp nat_Gcd_s10 K0⟩
 | _ => none
theorem nat_Gcd_l10 (g : nat_Gcd_i10.V → Option (OT nat_Gcd_o10)) (v : nat_Gcd_i10.V) : loopStep tb (envL e82) 86 nat_Gcd_lh (loopAt 10 (bodyOf Tryz.f82) .skip) nat_Gcd_i10 nat_Gcd_o10 g v = nat_Gcd_s10 g v := by kernel_rfl
theorem nat_Gcd_eq (a_0 : List Int) (a_1 : List Int) : fnF tb (envL e82) Tryz.f82 nat_Gcd_lh c82.ps c82.rs (T := (List Int)) (fun y => (y.2.1)) (a_0, a_1, ()) = nat_Gcd a_0 a_1 := by kernel_rfl
abbrev e47 : List (Nat × Ctr) := [(45, c45), (82, c82), (83, c83)]
def ratio_form_lh : LH
 | _ => none
theorem ratio_form_eq (num_0 : WH) (den_1 : List Int) : fnF tb (envL e47) Tryz.f47 ratio_form_lh c47.ps c47.rs (T := RAT) (fun y => (y.2.1)) (num_0, den_1, ()) = ratio_form num_0 den_1 := by kernel_rfl
abbrev e84 : List (Nat × Ctr) := []
def whole_sign_lh : LH
 | _ => none
theorem whole_sign_eq (neg_0 : Bool) (abs_1 : List Int) : fnF tb (envL e84) Tryz.f84 whole_sign_lh c84.ps c84.rs (T := WH) (fun y => (y.2.1)) (neg_0, abs_1, ()) = whole_sign neg_0 abs_1 := by kernel_rfl
abbrev e81 : List (Nat × Ctr) := [(80, c80), (84, c84)]
def whole_Clean_lh : LH
 | _ => none
theorem whole_Clean_eq (a_0 : WH) : fnF tb (envL e81) Tryz.f81 whole_Clean_lh c81.ps c81.rs (T := WH) (fun y => (y.2.1)) (a_0, ()) = whole_Clean a_0 := by kernel_rfl
abbrev e46 : List (Nat × Ctr) := [(27, c27), (47, c47), (80, c80), (81, c81)]
def ratio_Clean_lh : LH
 | _ => none
theorem ratio_Clean_eq (a_0 : RAT) : fnF tb (envL e46) Tryz.f46 ratio_Clean_lh c46.ps c46.rs (T := RAT) (fun y => (y.2.1)) (a_0, ()) = ratio_Clean a_0 := by kernel_rfl
abbrev e89 : List (Nat × Ctr) := [(81, c81)]
def whole_Sign_lh : LH
 | _ => none
theorem whole_Sign_eq (a_0 : WH) : fnF tb (envL e89) Tryz.f89 whole_Sign_lh c89.ps c89.rs (T := Int) (fun y => (y.2.1)) (a_0, ()) = whole_Sign a_0 := by kernel_rfl
abbrev e95 : List (Nat × Ctr) := [(46, c46), (89, c89)]
def ratio_Sign_lh : LH
 | _ => none
theorem ratio_Sign_eq (a_0 : RAT) : fnF tb (envL e95) Tryz.f95 ratio_Sign_lh c95.ps c95.rs (T := Int) (fun y => (y.2.1)) (a_0, ()) = ratio_Sign a_0 := by kernel_rfl
abbrev e62 : List (Nat × Ctr) := [(95, c95)]
def valid_covers_lh : LH
 | 4 => some ⟨valid_covers_i2, valid_covers_o2, lp valid_covers_s2 K0⟩
 | _ => none
theorem valid_covers_l2 (g : valid_covers_i2.V → Option (OT valid_covers_o2)) (v : valid_covers_i2.V) : loopStep tb (envL e62) 19 valid_covers_lh (loopAt 2 (bodyOf Tryz.f62) .skip) valid_covers_i2 valid_covers_o2 g v = valid_covers_s2 g v := by kernel_rfl
theorem valid_covers_eq (t_0 : List NODE) : fnF tb (envL e62) Tryz.f62 valid_covers_lh c62.ps c62.rs (T := Int × Int) (fun y => (y.2.1, y.2.2.1)) (t_0, ()) = valid_covers t_0 := by kernel_rfl
abbrev e85 : List (Nat × Ctr) := [(79, c79), (80, c80), (111, c111)]
def nat_Add_lh : LH
 | 10 => some ⟨nat_Add_i5, nat_Add_o5, lp nat_Add_s5 K0⟩
 | _ => none
theorem nat_Add_l5 (g : nat_Add_i5.V → Option (OT nat_Add_o5)) (v : nat_Add_i5.V) : loopStep tb (envL e85) 43 nat_Add_lh (loopAt 5 (bodyOf Tryz.f85) .skip) nat_Add_i5 nat_Add_o5 g v = nat_Add_s5 g v := by kernel_rfl
theorem nat_Add_eq (a_0 : List Int) (b_1 : List Int) : fnF tb (envL e85) Tryz.f85 nat_Add_lh c85.ps c85.rs (T := (List Int)) (fun y => (y.2.1)) (a_0, b_1, ()) = nat_Add a_0 b_1 := by kernel_rfl
abbrev e86 : List (Nat × Ctr) := [(80, c80), (105, c105)]
def nat_Cmp_lh : LH
 | _ => none
theorem nat_Cmp_eq (a_0 : List Int) (b_1 : List Int) : fnF tb (envL e86) Tryz.f86 nat_Cmp_lh c86.ps c86.rs (T := Int) (fun y => (y.2.1)) (a_0, b_1, ()) = nat_Cmp a_0 b_1 := by kernel_rfl
abbrev e87 : List (Nat × Ctr) := [(80, c80), (105, c105), (108, c108)]
def nat_Sub_lh : LH
 | _ => none
theorem nat_Sub_eq (a_0 : List Int) (b_1 : List Int) : fnF tb (envL e87) Tryz.f87 nat_Sub_lh c87.ps c87.rs (T := (List Int) × Int) (fun y => (y.2.1, y.2.2.1)) (a_0, b_1, ()) = nat_Sub a_0 b_1 := by kernel_rfl
abbrev e48 : List (Nat × Ctr) := [(81, c81), (84, c84), (85, c85), (86, c86), (87, c87)]
def whole_Add_lh : LH
 | _ => none
theorem whole_Add_eq (a_0 : WH) (b_1 : WH) : fnF tb (envL e48) Tryz.f48 whole_Add_lh c48.ps c48.rs (T := WH) (fun y => (y.2.1)) (a_0, b_1, ()) = whole_Add a_0 b_1 := by kernel_rfl
abbrev e51 : List (Nat × Ctr) := [(79, c79), (80, c80)]
def nat_Mul_lh : LH
 | 16 => some ⟨nat_Mul_i8, nat_Mul_o8, lp nat_Mul_s8 K0⟩
 | 8 => some ⟨nat_Mul_i4, nat_Mul_o4, lp nat_Mul_s4 K0⟩
 | _ => none
theorem nat_Mul_l8 (g : nat_Mul_i8.V → Option (OT nat_Mul_o8)) (v : nat_Mul_i8.V) : loopStep tb (envL e51) 67 nat_Mul_lh (loopAt 8 (bodyOf Tryz.f51) .skip) nat_Mul_i8 nat_Mul_o8 g v = nat_Mul_s8 g v := by kernel_rfl
theorem nat_Mul_l4 (g : nat_Mul_i4.V → Option (OT nat_Mul_o4)) (v : nat_Mul_i4.V) : loopStep tb (envL e51) 67 nat_Mul_lh (loopAt 4 (bodyOf Tryz.f51) .skip) nat_Mul_i4 nat_Mul_o4 g v = nat_Mul_s4 g v := by kernel_rfl
theorem nat_Mul_eq (a_0 : List Int) (a_1 : List Int) : fnF tb (envL e51) Tryz.f51 nat_Mul_lh c51.ps c51.rs (T := (List Int)) (fun y => (y.2.1)) (a_0, a_1, ()) = nat_Mul a_0 a_1 := by kernel_rfl
abbrev e49 : List (Nat × Ctr) := [(51, c51), (81, c81), (84, c84)]
def whole_Mul_lh : LH
 | _ => none
theorem whole_Mul_eq (a_0 : WH) (b_1 : WH) : fnF tb (envL e49) Tryz.f49 whole_Mul_lh c49.ps c49.rs (T := WH) (fun y => (y.2.1)) (a_0, b_1, ()) = whole_Mul a_0 b_1 := by kernel_rfl
abbrev e50 : List (Nat × Ctr) := []
def ratio_den_lh : LH
 | _ => none
theorem ratio_den_eq (a_0 : RAT) : fnF tb (envL e50) Tryz.f50 ratio_den_lh c50.ps c50.rs (T := WH) (fun y => (y.2.1)) (a_0, ()) = ratio_den a_0 := by kernel_rfl
abbrev e28 : List (Nat × Ctr) := [(46, c46), (47, c47), (48, c48), (49, c49), (50, c50), (51, c51)]
def ratio_Add_lh : LH
 | _ => none
theorem ratio_Add_eq (a_0 : RAT) (b_1 : RAT) : fnF tb (envL e28) Tryz.f28 ratio_Add_lh c28.ps c28.rs (T := RAT) (fun y => (y.2.1)) (a_0, b_1, ()) = ratio_Add a_0 b_1 := by kernel_rfl
abbrev e91 : List (Nat × Ctr) := [(81, c81), (86, c86)]
def whole_Cmp_lh : LH
 | _ => none
theorem whole_Cmp_eq (a_0 : WH) (b_1 : WH) : fnF tb (envL e91) Tryz.f91 whole_Cmp_lh c91.ps c91.rs (T := Int) (fun y => (y.2.1)) (a_0, b_1, ()) = whole_Cmp a_0 b_1 := by kernel_rfl
abbrev e55 : List (Nat × Ctr) := [(46, c46), (49, c49), (50, c50), (91, c91)]
def ratio_Cmp_lh : LH
 | _ => none
theorem ratio_Cmp_eq (a_0 : RAT) (b_1 : RAT) : fnF tb (envL e55) Tryz.f55 ratio_Cmp_lh c55.ps c55.rs (T := Int) (fun y => (y.2.1)) (a_0, b_1, ()) = ratio_Cmp a_0 b_1 := by kernel_rfl
abbrev e96 : List (Nat × Ctr) := [(55, c55)]
def ratio_Same_lh : LH
 | _ => none
theorem ratio_Same_eq (a_0 : RAT) (b_1 : RAT) : fnF tb (envL e96) Tryz.f96 ratio_Same_lh c96.ps c96.rs (T := Bool) (fun y => (y.2.1)) (a_0, b_1, ()) = ratio_Same a_0 b_1 := by kernel_rfl
abbrev e63 : List (Nat × Ctr) := [(28, c28), (96, c96)]
def valid_sums_lh : LH
 | 4 => some ⟨valid_sums_i2, valid_sums_o2, lp valid_sums_s2 K0⟩
 | _ => none
theorem valid_sums_l2 (g : valid_sums_i2.V → Option (OT valid_sums_o2)) (v : valid_sums_i2.V) : loopStep tb (envL e63) 37 valid_sums_lh (loopAt 2 (bodyOf Tryz.f63) .skip) valid_sums_i2 valid_sums_o2 g v = valid_sums_s2 g v := by kernel_rfl
theorem valid_sums_eq (t_0 : List NODE) : fnF tb (envL e63) Tryz.f63 valid_sums_lh c63.ps c63.rs (T := Int × Int) (fun y => (y.2.1, y.2.2.1)) (t_0, ()) = valid_sums t_0 := by kernel_rfl
abbrev e64 : List (Nat × Ctr) := []
def valid_fault_lh : LH
 | _ => none
theorem valid_fault_eq (e_0 : Int) (tree_1 : Int) (node_2 : Int) : fnF tb (envL e64) Tryz.f64 valid_fault_lh c64.ps c64.rs (T := (Int × Int × Int × Int)) (fun y => (y.2.1)) (e_0, tree_1, node_2, ()) = valid_fault e_0 tree_1 node_2 := by kernel_rfl
abbrev e38 : List (Nat × Ctr) := [(59, c59), (60, c60), (61, c61), (62, c62), (63, c63), (64, c64)]
def valid_Check_lh : LH
 | 14 => some ⟨valid_Check_i7, valid_Check_o7, lp valid_Check_s7 K0⟩
 | 8 => some ⟨valid_Check_i4, valid_Check_o4, lp valid_Check_s4 K0⟩
 | _ => none
theorem valid_Check_l7 (g : valid_Check_i7.V → Option (OT valid_Check_o7)) (v : valid_Check_i7.V) : loopStep tb (envL e38) 63 valid_Check_lh (loopAt 7 (bodyOf Tryz.f38) .skip) valid_Check_i7 valid_Check_o7 g v = valid_Check_s7 g v := by kernel_rfl
theorem valid_Check_l4 (g : valid_Check_i4.V → Option (OT valid_Check_o4)) (v : valid_Check_i4.V) : loopStep tb (envL e38) 63 valid_Check_lh (loopAt 4 (bodyOf Tryz.f38) .skip) valid_Check_i4 valid_Check_o4 g v = valid_Check_s4 g v := by kernel_rfl
theorem valid_Check_eq (m_0 : MODEL) : fnF tb (envL e38) Tryz.f38 valid_Check_lh c38.ps c38.rs (T := (Int × Int × Int × Int)) (fun y => (y.2.1)) (m_0, ()) = valid_Check m_0 := by kernel_rfl
abbrev e23 : List (Nat × Ctr) := [(38, c38)]
def valid_Ok_lh : LH
 | _ => none
theorem valid_Ok_eq (m_0 : MODEL) : fnF tb (envL e23) Tryz.f23 valid_Ok_lh c23.ps c23.rs (T := Bool) (fun y => (y.2.1)) (m_0, ()) = valid_Ok m_0 := by kernel_rfl
abbrev e17 : List (Nat × Ctr) := [(23, c23)]
def depend_feature_lh : LH
 | _ => none
theorem depend_feature_eq (m_0 : MODEL) (i_1 : Int) : fnF tb (envL e17) Tryz.f17 depend_feature_lh c17.ps c17.rs (T := Int) (fun y => (y.2.1)) (m_0, i_1, ()) = depend_feature m_0 i_1 := by kernel_rfl
abbrev e56 : List (Nat × Ctr) := [(23, c23)]
def route_fits_lh : LH
 | _ => none
theorem route_fits_eq (m_0 : MODEL) (row_1 : List CELL) : fnF tb (envL e56) Tryz.f56 route_fits_lh c56.ps c56.rs (T := Int) (fun y => (y.2.1)) (m_0, row_1, ()) = route_fits m_0 row_1 := by kernel_rfl
abbrev e35 : List (Nat × Ctr) := [(56, c56)]
def route_Fits_lh : LH
 | _ => none
theorem route_Fits_eq (m_0 : MODEL) (row_1 : List CELL) : fnF tb (envL e35) Tryz.f35 route_Fits_lh c35.ps c35.rs (T := Int) (fun y => (y.2.1)) (m_0, row_1, ()) = route_Fits m_0 row_1 := by kernel_rfl
abbrev e65 : List (Nat × Ctr) := []
def expect_known_lh : LH
 | _ => none
theorem expect_known_eq (set_0 : Int) (feature_1 : Int) : fnF tb (envL e65) Tryz.f65 expect_known_lh c65.ps c65.rs (T := Bool) (fun y => (y.2.1)) (set_0, feature_1, ()) = expect_known set_0 feature_1 := by kernel_rfl
abbrev e30 : List (Nat × Ctr) := [(46, c46), (47, c47), (49, c49), (51, c51)]
def ratio_Mul_lh : LH
 | _ => none
theorem ratio_Mul_eq (a_0 : RAT) (b_1 : RAT) : fnF tb (envL e30) Tryz.f30 ratio_Mul_lh c30.ps c30.rs (T := RAT) (fun y => (y.2.1)) (a_0, b_1, ()) = ratio_Mul a_0 b_1 := by kernel_rfl
abbrev e90 : List (Nat × Ctr) := [(81, c81), (84, c84)]
def whole_Neg_lh : LH
 | _ => none
theorem whole_Neg_eq (a_0 : WH) : fnF tb (envL e90) Tryz.f90 whole_Neg_lh c90.ps c90.rs (T := WH) (fun y => (y.2.1)) (a_0, ()) = whole_Neg a_0 := by kernel_rfl
abbrev e53 : List (Nat × Ctr) := [(47, c47), (81, c81), (89, c89), (90, c90)]
def ratio_Make_lh : LH
 | _ => none
theorem ratio_Make_eq (num_0 : WH) (den_1 : WH) : fnF tb (envL e53) Tryz.f53 ratio_Make_lh c53.ps c53.rs (T := RAT × Int) (fun y => (y.2.1, y.2.2.1)) (num_0, den_1, ()) = ratio_Make num_0 den_1 := by kernel_rfl
abbrev e119 : List (Nat × Ctr) := [(46, c46), (50, c50), (53, c53)]
def ratio_Inv_lh : LH
 | _ => none
theorem ratio_Inv_eq (a_0 : RAT) : fnF tb (envL e119) Tryz.f119 ratio_Inv_lh c119.ps c119.rs (T := RAT × Int) (fun y => (y.2.1, y.2.2.1)) (a_0, ()) = ratio_Inv a_0 := by kernel_rfl
abbrev e113 : List (Nat × Ctr) := [(30, c30), (119, c119)]
def ratio_Div_lh : LH
 | _ => none
theorem ratio_Div_eq (a_0 : RAT) (b_1 : RAT) : fnF tb (envL e113) Tryz.f113 ratio_Div_lh c113.ps c113.rs (T := RAT × Int) (fun y => (y.2.1, y.2.2.1)) (a_0, b_1, ()) = ratio_Div a_0 b_1 := by kernel_rfl
abbrev e97 : List (Nat × Ctr) := [(113, c113)]
def expect_over_lh : LH
 | _ => none
theorem expect_over_eq (a_0 : RAT) (b_1 : RAT) : fnF tb (envL e97) Tryz.f97 expect_over_lh c97.ps c97.rs (T := RAT) (fun y => (y.2.1)) (a_0, b_1, ()) = expect_over a_0 b_1 := by kernel_rfl
abbrev e66 : List (Nat × Ctr) := [(28, c28), (30, c30), (97, c97)]
def expect_mean_lh : LH
 | _ => none
theorem expect_mean_eq (t_0 : List NODE) (n_1 : NODE) (a_2 : RAT) (b_3 : RAT) : fnF tb (envL e66) Tryz.f66 expect_mean_lh c66.ps c66.rs (T := RAT) (fun y => (y.2.1)) (t_0, n_1, a_2, b_3, ()) = expect_mean t_0 n_1 a_2 b_3 := by kernel_rfl
abbrev e98 : List (Nat × Ctr) := [(55, c55)]
def route_goes_lh : LH
 | _ => none
theorem route_goes_eq (n_0 : NODE) (c_1 : CELL) : fnF tb (envL e98) Tryz.f98 route_goes_lh c98.ps c98.rs (T := Bool) (fun y => (y.2.1)) (n_0, c_1, ()) = route_goes n_0 c_1 := by kernel_rfl
abbrev e67 : List (Nat × Ctr) := [(98, c98)]
def route_Left_lh : LH
 | _ => none
theorem route_Left_eq (n_0 : NODE) (c_1 : CELL) : fnF tb (envL e67) Tryz.f67 route_Left_lh c67.ps c67.rs (T := Bool) (fun y => (y.2.1)) (n_0, c_1, ()) = route_Left n_0 c_1 := by kernel_rfl
abbrev e39 (n : Nat) : List (Nat × Ctr) := [(39, (c39 n)), (46, c46), (65, c65), (66, c66), (67, c67)]
def expect_value_lh (n : Nat) : LH
 | _ => none
theorem expect_value_eq (n : Nat) (t_0 : List NODE) (at_1 : Int) (row_2 : List CELL) (set_3 : Int) : fnF tb (envL (e39 n)) Tryz.f39 (expect_value_lh n) (c39 n).ps (c39 n).rs (T := RAT) (fun y => (y.2.1)) (t_0, at_1, row_2, set_3, ()) = expect_value (n + 1) t_0 at_1 row_2 set_3 := by kernel_rfl
abbrev e24 : List (Nat × Ctr) := [(27, c27), (28, c28), (35, c35), (39, (c39 R0))]
def expect_Value_lh : LH
 | 12 => some ⟨expect_Value_i6, expect_Value_o6, lp expect_Value_s6 K0⟩
 | _ => none
theorem expect_Value_l6 (g : expect_Value_i6.V → Option (OT expect_Value_o6)) (v : expect_Value_i6.V) : loopStep tb (envL e24) 35 expect_Value_lh (loopAt 6 (bodyOf Tryz.f24) .skip) expect_Value_i6 expect_Value_o6 g v = expect_Value_s6 g v := by kernel_rfl
theorem expect_Value_eq (m_0 : MODEL) (row_1 : List CELL) (set_2 : Int) : fnF tb (envL e24) Tryz.f24 expect_Value_lh c24.ps c24.rs (T := RAT × Int) (fun y => (y.2.1, y.2.2.1)) (m_0, row_1, set_2, ()) = expect_Value m_0 row_1 set_2 := by kernel_rfl
abbrev e11 : List (Nat × Ctr) := [(17, c17), (24, c24)]
def depend_Cover_lh : LH
 | _ => none
theorem depend_Cover_eq (m_0 : MODEL) (i_1 : Int) (z_2 : CELL) : fnF tb (envL e11) Tryz.f11 depend_Cover_lh c11.ps c11.rs (T := RAT × Int) (fun y => (y.2.1, y.2.2.1)) (m_0, i_1, z_2, ()) = depend_Cover m_0 i_1 z_2 := by kernel_rfl
abbrev e19 : List (Nat × Ctr) := [(11, c11)]
def depend_CoverAll_c1_lh : LH
 | _ => none
theorem depend_CoverAll_c1_eq (z_0 : CELL) (b_1 : Int) (b_2 : List (List NODE)) (b_3 : Int) : fnFB tb (envL e19) Tryz.f19 depend_CoverAll_c1_lh w19 c19.ps c19.rs (T := RAT × Int × Int × (List (List NODE)) × Int) (fun y => (y.2.1, y.2.2.1, y.2.2.2.1, y.2.2.2.2.1, y.2.2.2.2.2.1)) (z_0, b_1, b_2, b_3, ()) = depend_CoverAll_c1 z_0 b_1 b_2 b_3 := by kernel_rfl
abbrev e18v19 : List (Nat × Ctr) := [(19, c19)]
def depend_each_v19_lh : LH
 | 6 => some ⟨depend_each_v19_i3, depend_each_v19_o3, lp depend_each_v19_s3 K0⟩
 | _ => none
theorem depend_each_v19_l3 (g : depend_each_v19_i3.V → Option (OT depend_each_v19_o3)) (v : depend_each_v19_i3.V) : loopStep tb (envL e18v19) 28 depend_each_v19_lh (loopAt 3 (bodyOf Tryz.f18) .skip) depend_each_v19_i3 depend_each_v19_o3 g v = depend_each_v19_s3 g v := by kernel_rfl
theorem depend_each_v19_eq (grid_0 : List CELL) (b_1 : Int) (b_2 : List (List NODE)) (b_3 : Int) : fnFB tb (envL e18v19) Tryz.f18 depend_each_v19_lh w18v19 c18v19.ps c18v19.rs (T := (List RAT) × Int × (List (List NODE)) × Int) (fun y => (y.2.1, y.2.2.1, y.2.2.2.1, y.2.2.2.2.1)) (grid_0, b_1, b_2, b_3, ()) = depend_each_v19 grid_0 b_1 b_2 b_3 := by kernel_rfl
abbrev e7 : List (Nat × Ctr) := [(17, c17), (18, c18v19)]
def depend_CoverAll_lh : LH
 | _ => none
theorem depend_CoverAll_eq (m_0 : MODEL) (i_1 : Int) (grid_2 : List CELL) : fnF tb (envL e7) Tryz.f7 depend_CoverAll_lh c7.ps c7.rs (T := (List RAT) × Int) (fun y => (y.2.1, y.2.2.1)) (m_0, i_1, grid_2, ()) = depend_CoverAll m_0 i_1 grid_2 := by kernel_rfl
abbrev e20 : List (Nat × Ctr) := [(35, c35)]
def depend_check_lh : LH
 | 4 => some ⟨depend_check_i2, depend_check_o2, lp depend_check_s2 K0⟩
 | _ => none
theorem depend_check_l2 (g : depend_check_i2.V → Option (OT depend_check_o2)) (v : depend_check_i2.V) : loopStep tb (envL e20) 24 depend_check_lh (loopAt 2 (bodyOf Tryz.f20) .skip) depend_check_i2 depend_check_o2 g v = depend_check_s2 g v := by kernel_rfl
theorem depend_check_eq (m_0 : MODEL) (l_1 : List (List CELL)) : fnF tb (envL e20) Tryz.f20 depend_check_lh c20.ps c20.rs (T := Int) (fun y => (y.2.1)) (m_0, l_1, ()) = depend_check m_0 l_1 := by kernel_rfl
abbrev e36 : List (Nat × Ctr) := []
def rows_With_lh : LH
 | _ => none
theorem rows_With_eq (l_0 : List CELL) (i_1 : Int) (c_2 : CELL) : fnF tb (envL e36) Tryz.f36 rows_With_lh c36.ps c36.rs (T := (List CELL) × Int) (fun y => (y.2.1, y.2.2.1)) (l_0, i_1, c_2, ()) = rows_With l_0 i_1 c_2 := by kernel_rfl
abbrev e112 : List (Nat × Ctr) := [(98, c98)]
def route_next_lh : LH
 | _ => none
theorem route_next_eq (n_0 : NODE) (row_1 : List CELL) : fnF tb (envL e112) Tryz.f112 route_next_lh c112.ps c112.rs (T := Int) (fun y => (y.2.1)) (n_0, row_1, ()) = route_next n_0 row_1 := by kernel_rfl
abbrev e92 : List (Nat × Ctr) := [(46, c46), (112, c112)]
def route_value_lh : LH
 | 4 => some ⟨route_value_i2, route_value_o2, lp route_value_s2 K0⟩
 | _ => none
theorem route_value_l2 (g : route_value_i2.V → Option (OT route_value_o2)) (v : route_value_i2.V) : loopStep tb (envL e92) 24 route_value_lh (loopAt 2 (bodyOf Tryz.f92) .skip) route_value_i2 route_value_o2 g v = route_value_s2 g v := by kernel_rfl
theorem route_value_eq (t_0 : List NODE) (row_1 : List CELL) : fnF tb (envL e92) Tryz.f92 route_value_lh c92.ps c92.rs (T := RAT) (fun y => (y.2.1)) (t_0, row_1, ()) = route_value t_0 row_1 := by kernel_rfl
abbrev e57 : List (Nat × Ctr) := [(27, c27), (28, c28), (56, c56), (92, c92)]
def route_Predict_lh : LH
 | 12 => some ⟨route_Predict_i6, route_Predict_o6, lp route_Predict_s6 K0⟩
 | _ => none
theorem route_Predict_l6 (g : route_Predict_i6.V → Option (OT route_Predict_o6)) (v : route_Predict_i6.V) : loopStep tb (envL e57) 32 route_Predict_lh (loopAt 6 (bodyOf Tryz.f57) .skip) route_Predict_i6 route_Predict_o6 g v = route_Predict_s6 g v := by kernel_rfl
theorem route_Predict_eq (m_0 : MODEL) (row_1 : List CELL) : fnF tb (envL e57) Tryz.f57 route_Predict_lh c57.ps c57.rs (T := RAT × Int) (fun y => (y.2.1, y.2.2.1)) (m_0, row_1, ()) = route_Predict m_0 row_1 := by kernel_rfl
abbrev e54 : List (Nat × Ctr) := [(45, c45), (84, c84)]
def whole_Of_lh : LH
 | _ => none
theorem whole_Of_eq (n_0 : Int) : fnF tb (envL e54) Tryz.f54 whole_Of_lh c54.ps c54.rs (T := WH) (fun y => (y.2.1)) (n_0, ()) = whole_Of n_0 := by kernel_rfl
abbrev e33 : List (Nat × Ctr) := [(45, c45), (54, c54)]
def ratio_Of_lh : LH
 | _ => none
theorem ratio_Of_eq (n_0 : Int) : fnF tb (envL e33) Tryz.f33 ratio_Of_lh c33.ps c33.rs (T := RAT) (fun y => (y.2.1)) (n_0, ()) = ratio_Of n_0 := by kernel_rfl
abbrev e93 : List (Nat × Ctr) := [(113, c113)]
def ratio_over_lh : LH
 | _ => none
theorem ratio_over_eq (a_0 : RAT) (b_1 : RAT) : fnF tb (envL e93) Tryz.f93 ratio_over_lh c93.ps c93.rs (T := RAT) (fun y => (y.2.1)) (a_0, b_1, ()) = ratio_over a_0 b_1 := by kernel_rfl
abbrev e94 : List (Nat × Ctr) := [(27, c27), (28, c28)]
def ratio_Sum_lh : LH
 | 6 => some ⟨ratio_Sum_i3, ratio_Sum_o3, lp ratio_Sum_s3 K0⟩
 | _ => none
theorem ratio_Sum_l3 (g : ratio_Sum_i3.V → Option (OT ratio_Sum_o3)) (v : ratio_Sum_i3.V) : loopStep tb (envL e94) 18 ratio_Sum_lh (loopAt 3 (bodyOf Tryz.f94) .skip) ratio_Sum_i3 ratio_Sum_o3 g v = ratio_Sum_s3 g v := by kernel_rfl
theorem ratio_Sum_eq (l_0 : List RAT) : fnF tb (envL e94) Tryz.f94 ratio_Sum_lh c94.ps c94.rs (T := RAT) (fun y => (y.2.1)) (l_0, ()) = ratio_Sum l_0 := by kernel_rfl
abbrev e58 : List (Nat × Ctr) := [(33, c33), (93, c93), (94, c94)]
def ratio_Mean_lh : LH
 | _ => none
theorem ratio_Mean_eq (l_0 : List RAT) : fnF tb (envL e58) Tryz.f58 ratio_Mean_lh c58.ps c58.rs (T := RAT × Int) (fun y => (y.2.1, y.2.2.1)) (l_0, ()) = ratio_Mean l_0 := by kernel_rfl
abbrev e37 : List (Nat × Ctr) := [(23, c23), (57, c57), (58, c58)]
def route_Mean_lh : LH
 | 6 => some ⟨route_Mean_i3, route_Mean_o3, lp route_Mean_s3 K0⟩
 | _ => none
theorem route_Mean_l3 (g : route_Mean_i3.V → Option (OT route_Mean_o3)) (v : route_Mean_i3.V) : loopStep tb (envL e37) 45 route_Mean_lh (loopAt 3 (bodyOf Tryz.f37) .skip) route_Mean_i3 route_Mean_o3 g v = route_Mean_s3 g v := by kernel_rfl
theorem route_Mean_eq (m_0 : MODEL) (l_1 : List (List CELL)) : fnF tb (envL e37) Tryz.f37 route_Mean_lh c37.ps c37.rs (T := RAT × Int) (fun y => (y.2.1, y.2.2.1)) (m_0, l_1, ()) = route_Mean m_0 l_1 := by kernel_rfl
abbrev e22 : List (Nat × Ctr) := [(17, c17), (20, c20), (36, c36), (37, c37)]
def depend_Average_lh : LH
 | 18 => some ⟨depend_Average_i9, depend_Average_o9, lp depend_Average_s9 K0⟩
 | _ => none
theorem depend_Average_l9 (g : depend_Average_i9.V → Option (OT depend_Average_o9)) (v : depend_Average_i9.V) : loopStep tb (envL e22) 54 depend_Average_lh (loopAt 9 (bodyOf Tryz.f22) .skip) depend_Average_i9 depend_Average_o9 g v = depend_Average_s9 g v := by kernel_rfl
theorem depend_Average_eq (m_0 : MODEL) (i_1 : Int) (z_2 : CELL) (l_3 : List (List CELL)) : fnF tb (envL e22) Tryz.f22 depend_Average_lh c22.ps c22.rs (T := RAT × Int) (fun y => (y.2.1, y.2.2.1)) (m_0, i_1, z_2, l_3, ()) = depend_Average m_0 i_1 z_2 l_3 := by kernel_rfl
abbrev e21 : List (Nat × Ctr) := [(22, c22)]
def depend_AverageAll_c1_lh : LH
 | _ => none
theorem depend_AverageAll_c1_eq (z_0 : CELL) (b_1 : Int) (b_2 : List (List NODE)) (b_3 : Int) (b_4 : List (List CELL)) : fnFB tb (envL e21) Tryz.f21 depend_AverageAll_c1_lh w21 c21.ps c21.rs (T := RAT × Int × Int × (List (List NODE)) × Int × (List (List CELL))) (fun y => (y.2.1, y.2.2.1, y.2.2.2.1, y.2.2.2.2.1, y.2.2.2.2.2.1, y.2.2.2.2.2.2.1)) (z_0, b_1, b_2, b_3, b_4, ()) = depend_AverageAll_c1 z_0 b_1 b_2 b_3 b_4 := by kernel_rfl
abbrev e18v21 : List (Nat × Ctr) := [(21, c21)]
def depend_each_v21_lh : LH
 | 6 => some ⟨depend_each_v21_i3, depend_each_v21_o3, lp depend_each_v21_s3 K0⟩
 | _ => none
theorem depend_each_v21_l3 (g : depend_each_v21_i3.V → Option (OT depend_each_v21_o3)) (v : depend_each_v21_i3.V) : loopStep tb (envL e18v21) 28 depend_each_v21_lh (loopAt 3 (bodyOf Tryz.f18) .skip) depend_each_v21_i3 depend_each_v21_o3 g v = depend_each_v21_s3 g v := by kernel_rfl
theorem depend_each_v21_eq (grid_0 : List CELL) (b_1 : Int) (b_2 : List (List NODE)) (b_3 : Int) (b_4 : List (List CELL)) : fnFB tb (envL e18v21) Tryz.f18 depend_each_v21_lh w18v21 c18v21.ps c18v21.rs (T := (List RAT) × Int × (List (List NODE)) × Int × (List (List CELL))) (fun y => (y.2.1, y.2.2.1, y.2.2.2.1, y.2.2.2.2.1, y.2.2.2.2.2.1)) (grid_0, b_1, b_2, b_3, b_4, ()) = depend_each_v21 grid_0 b_1 b_2 b_3 b_4 := by kernel_rfl
abbrev e8 : List (Nat × Ctr) := [(17, c17), (18, c18v21), (20, c20)]
def depend_AverageAll_lh : LH
 | _ => none
theorem depend_AverageAll_eq (m_0 : MODEL) (i_1 : Int) (grid_2 : List CELL) (l_3 : List (List CELL)) : fnF tb (envL e8) Tryz.f8 depend_AverageAll_lh c8.ps c8.rs (T := (List RAT) × Int) (fun y => (y.2.1, y.2.2.1)) (m_0, i_1, grid_2, l_3, ()) = depend_AverageAll m_0 i_1 grid_2 l_3 := by kernel_rfl
abbrev e9 : List (Nat × Ctr) := [(23, c23)]
def dendronlaw13_why_lh : LH
 | _ => none
theorem dendronlaw13_why_eq (m_0 : MODEL) (i_1 : Int) : fnF tb (envL e9) Tryz.f9 dendronlaw13_why_lh c9.ps c9.rs (T := Int) (fun y => (y.2.1)) (m_0, i_1, ()) = dendronlaw13_why m_0 i_1 := by kernel_rfl
abbrev e10 : List (Nat × Ctr) := [(9, c9)]
def dendronlaw13_whyRows_lh : LH
 | 8 => some ⟨dendronlaw13_whyRows_i4, dendronlaw13_whyRows_o4, lp dendronlaw13_whyRows_s4 K0⟩
 | _ => none
theorem dendronlaw13_whyRows_l4 (g : dendronlaw13_whyRows_i4.V → Option (OT dendronlaw13_whyRows_o4)) (v : dendronlaw13_whyRows_i4.V) : loopStep tb (envL e10) 32 dendronlaw13_whyRows_lh (loopAt 4 (bodyOf Tryz.f10) .skip) dendronlaw13_whyRows_i4 dendronlaw13_whyRows_o4 g v = dendronlaw13_whyRows_s4 g v := by kernel_rfl
theorem dendronlaw13_whyRows_eq (m_0 : MODEL) (i_1 : Int) (l_2 : List (List CELL)) : fnF tb (envL e10) Tryz.f10 dendronlaw13_whyRows_lh c10.ps c10.rs (T := Int) (fun y => (y.2.1)) (m_0, i_1, l_2, ()) = dendronlaw13_whyRows m_0 i_1 l_2 := by kernel_rfl
abbrev e71 : List (Nat × Ctr) := []
def dendronref01_Small_lh : LH
 | 4 => some ⟨dendronref01_Small_i2, dendronref01_Small_o2, lp dendronref01_Small_s2 K0⟩
 | _ => none
theorem dendronref01_Small_l2 (g : dendronref01_Small_i2.V → Option (OT dendronref01_Small_o2)) (v : dendronref01_Small_i2.V) : loopStep tb (envL e71) 14 dendronref01_Small_lh (loopAt 2 (bodyOf Tryz.f71) .skip) dendronref01_Small_i2 dendronref01_Small_o2 g v = dendronref01_Small_s2 g v := by kernel_rfl
theorem dendronref01_Small_eq (n_0 : Int) : fnF tb (envL e71) Tryz.f71 dendronref01_Small_lh c71.ps c71.rs (T := (List Int)) (fun y => (y.2.1)) (n_0, ()) = dendronref01_Small n_0 := by kernel_rfl
abbrev e100 : List (Nat × Ctr) := []
def dendronref01_digit_lh : LH
 | _ => none
theorem dendronref01_digit_eq (a_0 : List Int) (i_1 : Int) : fnF tb (envL e100) Tryz.f100 dendronref01_digit_lh c100.ps c100.rs (T := Int) (fun y => (y.2.1)) (a_0, i_1, ()) = dendronref01_digit a_0 i_1 := by kernel_rfl
abbrev e75 : List (Nat × Ctr) := [(100, c100)]
def dendronref01_Plus_lh : LH
 | 8 => some ⟨dendronref01_Plus_i4, dendronref01_Plus_o4, lp dendronref01_Plus_s4 K0⟩
 | _ => none
theorem dendronref01_Plus_l4 (g : dendronref01_Plus_i4.V → Option (OT dendronref01_Plus_o4)) (v : dendronref01_Plus_i4.V) : loopStep tb (envL e75) 41 dendronref01_Plus_lh (loopAt 4 (bodyOf Tryz.f75) .skip) dendronref01_Plus_i4 dendronref01_Plus_o4 g v = dendronref01_Plus_s4 g v := by kernel_rfl
theorem dendronref01_Plus_eq (a_0 : List Int) (b_1 : List Int) : fnF tb (envL e75) Tryz.f75 dendronref01_Plus_lh c75.ps c75.rs (T := (List Int)) (fun y => (y.2.1)) (a_0, b_1, ()) = dendronref01_Plus a_0 b_1 := by kernel_rfl
abbrev e101 : List (Nat × Ctr) := []
def dendronref01_Trim_lh : LH
 | 4 => some ⟨dendronref01_Trim_i2, dendronref01_Trim_o2, lp dendronref01_Trim_s2 K0⟩
 | _ => none
theorem dendronref01_Trim_l2 (g : dendronref01_Trim_i2.V → Option (OT dendronref01_Trim_o2)) (v : dendronref01_Trim_i2.V) : loopStep tb (envL e101) 21 dendronref01_Trim_lh (loopAt 2 (bodyOf Tryz.f101) .skip) dendronref01_Trim_i2 dendronref01_Trim_o2 g v = dendronref01_Trim_s2 g v := by kernel_rfl
theorem dendronref01_Trim_eq (a_0 : List Int) : fnF tb (envL e101) Tryz.f101 dendronref01_Trim_lh c101.ps c101.rs (T := (List Int)) (fun y => (y.2.1)) (a_0, ()) = dendronref01_Trim a_0 := by kernel_rfl
abbrev e76 : List (Nat × Ctr) := [(101, c101)]
def dendronref01_Times_lh : LH
 | 14 => some ⟨dendronref01_Times_i7, dendronref01_Times_o7, lp dendronref01_Times_s7 K0⟩
 | 6 => some ⟨dendronref01_Times_i3, dendronref01_Times_o3, lp dendronref01_Times_s3 K0⟩
 | _ => none
theorem dendronref01_Times_l7 (g : dendronref01_Times_i7.V → Option (OT dendronref01_Times_o7)) (v : dendronref01_Times_i7.V) : loopStep tb (envL e76) 63 dendronref01_Times_lh (loopAt 7 (bodyOf Tryz.f76) .skip) dendronref01_Times_i7 dendronref01_Times_o7 g v = dendronref01_Times_s7 g v := by kernel_rfl
theorem dendronref01_Times_l3 (g : dendronref01_Times_i3.V → Option (OT dendronref01_Times_o3)) (v : dendronref01_Times_i3.V) : loopStep tb (envL e76) 63 dendronref01_Times_lh (loopAt 3 (bodyOf Tryz.f76) .skip) dendronref01_Times_i3 dendronref01_Times_o3 g v = dendronref01_Times_s3 g v := by kernel_rfl
theorem dendronref01_Times_eq (a_0 : List Int) (b_1 : List Int) : fnF tb (envL e76) Tryz.f76 dendronref01_Times_lh c76.ps c76.rs (T := (List Int)) (fun y => (y.2.1)) (a_0, b_1, ()) = dendronref01_Times a_0 b_1 := by kernel_rfl
abbrev e42 : List (Nat × Ctr) := [(71, c71), (75, c75), (76, c76)]
def dendronref01_From_lh : LH
 | 8 => some ⟨dendronref01_From_i4, dendronref01_From_o4, lp dendronref01_From_s4 K0⟩
 | _ => none
theorem dendronref01_From_l4 (g : dendronref01_From_i4.V → Option (OT dendronref01_From_o4)) (v : dendronref01_From_i4.V) : loopStep tb (envL e42) 26 dendronref01_From_lh (loopAt 4 (bodyOf Tryz.f42) .skip) dendronref01_From_i4 dendronref01_From_o4 g v = dendronref01_From_s4 g v := by kernel_rfl
theorem dendronref01_From_eq (a_0 : List Int) : fnF tb (envL e42) Tryz.f42 dendronref01_From_lh c42.ps c42.rs (T := (List Int)) (fun y => (y.2.1)) (a_0, ()) = dendronref01_From a_0 := by kernel_rfl
abbrev e78 : List (Nat × Ctr) := []
def dendronref02_Make_lh : LH
 | _ => none
theorem dendronref02_Make_eq (neg_0 : Bool) (n_1 : List Int) : fnF tb (envL e78) Tryz.f78 dendronref02_Make_lh c78.ps c78.rs (T := (Bool × List Int)) (fun y => (y.2.1)) (neg_0, n_1, ()) = dendronref02_Make neg_0 n_1 := by kernel_rfl
abbrev e77 : List (Nat × Ctr) := [(71, c71), (75, c75), (78, c78)]
def dendronref02_Small_lh : LH
 | _ => none
theorem dendronref02_Small_eq (n_0 : Int) : fnF tb (envL e77) Tryz.f77 dendronref02_Small_lh c77.ps c77.rs (T := (Bool × List Int)) (fun y => (y.2.1)) (n_0, ()) = dendronref02_Small n_0 := by kernel_rfl
abbrev e43 : List (Nat × Ctr) := [(71, c71), (77, c77)]
def dendronref03_Small_lh : LH
 | _ => none
theorem dendronref03_Small_eq (n_0 : Int) (d_1 : Int) : fnF tb (envL e43) Tryz.f43 dendronref03_Small_lh c43.ps c43.rs (T := ((Bool × List Int) × List Int)) (fun y => (y.2.1)) (n_0, d_1, ()) = dendronref03_Small n_0 d_1 := by kernel_rfl
abbrev e44 : List (Nat × Ctr) := [(42, c42), (78, c78)]
def dendronref02_From_lh : LH
 | _ => none
theorem dendronref02_From_eq (a_0 : WH) : fnF tb (envL e44) Tryz.f44 dendronref02_From_lh c44.ps c44.rs (T := (Bool × List Int)) (fun y => (y.2.1)) (a_0, ()) = dendronref02_From a_0 := by kernel_rfl
abbrev e26 : List (Nat × Ctr) := [(42, c42), (43, c43), (44, c44)]
def dendronref03_From_lh : LH
 | _ => none
theorem dendronref03_From_eq (a_0 : RAT) : fnF tb (envL e26) Tryz.f26 dendronref03_From_lh c26.ps c26.rs (T := ((Bool × List Int) × List Int)) (fun y => (y.2.1)) (a_0, ()) = dendronref03_From a_0 := by kernel_rfl
abbrev e68 : List (Nat × Ctr) := []
def dendronref01_Right_lh : LH
 | 4 => some ⟨dendronref01_Right_i2, dendronref01_Right_o2, lp dendronref01_Right_s2 K0⟩
 | _ => none
theorem dendronref01_Right_l2 (g : dendronref01_Right_i2.V → Option (OT dendronref01_Right_o2)) (v : dendronref01_Right_i2.V) : loopStep tb (envL e68) 27 dendronref01_Right_lh (loopAt 2 (bodyOf Tryz.f68) .skip) dendronref01_Right_i2 dendronref01_Right_o2 g v = dendronref01_Right_s2 g v := by kernel_rfl
theorem dendronref01_Right_eq (a_0 : List Int) : fnF tb (envL e68) Tryz.f68 dendronref01_Right_lh c68.ps c68.rs (T := Bool) (fun y => (y.2.1)) (a_0, ()) = dendronref01_Right a_0 := by kernel_rfl
abbrev e70 : List (Nat × Ctr) := []
def dendronref01_Order_lh : LH
 | 12 => some ⟨dendronref01_Order_i6, dendronref01_Order_o6, lp dendronref01_Order_s6 K0⟩
 | _ => none
theorem dendronref01_Order_l6 (g : dendronref01_Order_i6.V → Option (OT dendronref01_Order_o6)) (v : dendronref01_Order_i6.V) : loopStep tb (envL e70) 41 dendronref01_Order_lh (loopAt 6 (bodyOf Tryz.f70) .skip) dendronref01_Order_i6 dendronref01_Order_o6 g v = dendronref01_Order_s6 g v := by kernel_rfl
theorem dendronref01_Order_eq (a_0 : List Int) (b_1 : List Int) : fnF tb (envL e70) Tryz.f70 dendronref01_Order_lh c70.ps c70.rs (T := Int) (fun y => (y.2.1)) (a_0, b_1, ()) = dendronref01_Order a_0 b_1 := by kernel_rfl
abbrev e114 : List (Nat × Ctr) := [(100, c100), (101, c101)]
def dendronref01_Minus_lh : LH
 | 8 => some ⟨dendronref01_Minus_i4, dendronref01_Minus_o4, lp dendronref01_Minus_s4 K0⟩
 | _ => none
theorem dendronref01_Minus_l4 (g : dendronref01_Minus_i4.V → Option (OT dendronref01_Minus_o4)) (v : dendronref01_Minus_i4.V) : loopStep tb (envL e114) 35 dendronref01_Minus_lh (loopAt 4 (bodyOf Tryz.f114) .skip) dendronref01_Minus_i4 dendronref01_Minus_o4 g v = dendronref01_Minus_s4 g v := by kernel_rfl
theorem dendronref01_Minus_eq (a_0 : List Int) (b_1 : List Int) : fnF tb (envL e114) Tryz.f114 dendronref01_Minus_lh c114.ps c114.rs (T := (List Int)) (fun y => (y.2.1)) (a_0, b_1, ()) = dendronref01_Minus a_0 b_1 := by kernel_rfl
abbrev e99 : List (Nat × Ctr) := [(70, c70), (71, c71), (76, c76), (101, c101), (114, c114)]
def dendronref01_Over_lh : LH
 | 24 => some ⟨dendronref01_Over_i12, dendronref01_Over_o12, lp dendronref01_Over_s12 K0⟩
 | 8 => some ⟨dendronref01_Over_i4, dendronref01_Over_o4, lp dendronref01_Over_s4 K0⟩
 | _ => none
theorem dendronref01_Over_l12 (g : dendronref01_Over_i12.V → Option (OT dendronref01_Over_o12)) (v : dendronref01_Over_i12.V) : loopStep tb (envL e99) 65 dendronref01_Over_lh (loopAt 12 (bodyOf Tryz.f99) .skip) dendronref01_Over_i12 dendronref01_Over_o12 g v = dendronref01_Over_s12 g v := by kernel_rfl
theorem dendronref01_Over_l4 (g : dendronref01_Over_i4.V → Option (OT dendronref01_Over_o4)) (v : dendronref01_Over_i4.V) : loopStep tb (envL e99) 65 dendronref01_Over_lh (loopAt 4 (bodyOf Tryz.f99) .skip) dendronref01_Over_i4 dendronref01_Over_o4 g v = dendronref01_Over_s4 g v := by kernel_rfl
theorem dendronref01_Over_eq (a_0 : List Int) (a_1 : List Int) : fnF tb (envL e99) Tryz.f99 dendronref01_Over_lh c99.ps c99.rs (T := (List Int) × (List Int)) (fun y => (y.2.1, y.2.2.1)) (a_0, a_1, ()) = dendronref01_Over a_0 a_1 := by kernel_rfl
abbrev e69 : List (Nat × Ctr) := [(99, c99)]
def dendronref01_Gcd_lh : LH
 | 2 => some ⟨dendronref01_Gcd_i1, dendronref01_Gcd_o1, lp dendronref01_Gcd_s1 K0⟩
 | _ => none
theorem dendronref01_Gcd_l1 (g : dendronref01_Gcd_i1.V → Option (OT dendronref01_Gcd_o1)) (v : dendronref01_Gcd_i1.V) : loopStep tb (envL e69) 19 dendronref01_Gcd_lh (loopAt 1 (bodyOf Tryz.f69) .skip) dendronref01_Gcd_i1 dendronref01_Gcd_o1 g v = dendronref01_Gcd_s1 g v := by kernel_rfl
theorem dendronref01_Gcd_eq (a_0 : List Int) (b_1 : List Int) : fnF tb (envL e69) Tryz.f69 dendronref01_Gcd_lh c69.ps c69.rs (T := (List Int)) (fun y => (y.2.1)) (a_0, b_1, ()) = dendronref01_Gcd a_0 b_1 := by kernel_rfl
abbrev e40 : List (Nat × Ctr) := [(42, c42), (68, c68), (69, c69), (70, c70), (71, c71)]
def dendronref03_Right_lh : LH
 | _ => none
theorem dendronref03_Right_eq (a_0 : RAT) : fnF tb (envL e40) Tryz.f40 dendronref03_Right_lh c40.ps c40.rs (T := Bool) (fun y => (y.2.1)) (a_0, ()) = dendronref03_Right a_0 := by kernel_rfl
abbrev e72 : List (Nat × Ctr) := [(70, c70)]
def dendronref02_Order_lh : LH
 | _ => none
theorem dendronref02_Order_eq (a_0 : Bool × List Int) (b_1 : Bool × List Int) : fnF tb (envL e72) Tryz.f72 dendronref02_Order_lh c72.ps c72.rs (T := Int) (fun y => (y.2.1)) (a_0, b_1, ()) = dendronref02_Order a_0 b_1 := by kernel_rfl
abbrev e73 : List (Nat × Ctr) := [(76, c76), (78, c78)]
def dendronref02_Times_lh : LH
 | _ => none
theorem dendronref02_Times_eq (a_0 : Bool × List Int) (b_1 : Bool × List Int) : fnF tb (envL e73) Tryz.f73 dendronref02_Times_lh c73.ps c73.rs (T := (Bool × List Int)) (fun y => (y.2.1)) (a_0, b_1, ()) = dendronref02_Times a_0 b_1 := by kernel_rfl
abbrev e74 : List (Nat × Ctr) := [(78, c78)]
def dendronref03_den_lh : LH
 | _ => none
theorem dendronref03_den_eq (a_0 : (Bool × List Int) × List Int) : fnF tb (envL e74) Tryz.f74 dendronref03_den_lh c74.ps c74.rs (T := (Bool × List Int)) (fun y => (y.2.1)) (a_0, ()) = dendronref03_den a_0 := by kernel_rfl
abbrev e41 : List (Nat × Ctr) := [(72, c72), (73, c73), (74, c74)]
def dendronref03_Order_lh : LH
 | _ => none
theorem dendronref03_Order_eq (a_0 : (Bool × List Int) × List Int) (b_1 : (Bool × List Int) × List Int) : fnF tb (envL e41) Tryz.f41 dendronref03_Order_lh c41.ps c41.rs (T := Int) (fun y => (y.2.1)) (a_0, b_1, ()) = dendronref03_Order a_0 b_1 := by kernel_rfl
abbrev e25 : List (Nat × Ctr) := [(26, c26), (40, c40), (41, c41)]
def dendronref03_Is_lh : LH
 | _ => none
theorem dendronref03_Is_eq (a_0 : RAT) (x_1 : (Bool × List Int) × List Int) : fnF tb (envL e25) Tryz.f25 dendronref03_Is_lh c25.ps c25.rs (T := Bool) (fun y => (y.2.1)) (a_0, x_1, ()) = dendronref03_Is a_0 x_1 := by kernel_rfl
abbrev e12 : List (Nat × Ctr) := [(25, c25), (26, c26)]
def dendronref10_Is_lh : LH
 | _ => none
theorem dendronref10_Is_eq (a_0 : RAT) (b_1 : RAT) : fnF tb (envL e12) Tryz.f12 dendronref10_Is_lh c12.ps c12.rs (T := Bool) (fun y => (y.2.1)) (a_0, b_1, ()) = dendronref10_Is a_0 b_1 := by kernel_rfl
abbrev e88 : List (Nat × Ctr) := [(55, c55)]
def dendronlaw10_left_lh : LH
 | _ => none
theorem dendronlaw10_left_eq (n_0 : NODE) (c_1 : CELL) : fnF tb (envL e88) Tryz.f88 dendronlaw10_left_lh c88.ps c88.rs (T := Bool) (fun y => (y.2.1)) (n_0, c_1, ()) = dendronlaw10_left n_0 c_1 := by kernel_rfl
abbrev e52 (n : Nat) : List (Nat × Ctr) := [(52, (c52 n)), (88, c88)]
def dendronlaw10_Way_lh (n : Nat) : LH
 | _ => none
theorem dendronlaw10_Way_eq (n : Nat) (t_0 : List NODE) (at_1 : Int) (row_2 : List CELL) : fnF tb (envL (e52 n)) Tryz.f52 (dendronlaw10_Way_lh n) (c52 n).ps (c52 n).rs (T := (List Int)) (fun y => (y.2.1)) (t_0, at_1, row_2, ()) = dendronlaw10_Way (n + 1) t_0 at_1 row_2 := by kernel_rfl
abbrev e29 : List (Nat × Ctr) := [(27, c27), (28, c28), (52, (c52 R0))]
def dendronlaw10_Predict_lh : LH
 | 6 => some ⟨dendronlaw10_Predict_i3, dendronlaw10_Predict_o3, lp dendronlaw10_Predict_s3 K0⟩
 | _ => none
theorem dendronlaw10_Predict_l3 (g : dendronlaw10_Predict_i3.V → Option (OT dendronlaw10_Predict_o3)) (v : dendronlaw10_Predict_i3.V) : loopStep tb (envL e29) 40 dendronlaw10_Predict_lh (loopAt 3 (bodyOf Tryz.f29) .skip) dendronlaw10_Predict_i3 dendronlaw10_Predict_o3 g v = dendronlaw10_Predict_s3 g v := by kernel_rfl
theorem dendronlaw10_Predict_eq (m_0 : MODEL) (row_1 : List CELL) : fnF tb (envL e29) Tryz.f29 dendronlaw10_Predict_lh c29.ps c29.rs (T := RAT) (fun y => (y.2.1)) (m_0, row_1, ()) = dendronlaw10_Predict m_0 row_1 := by kernel_rfl
abbrev e31 : List (Nat × Ctr) := [(46, c46), (53, c53), (54, c54)]
def ratio_Frac_lh : LH
 | _ => none
theorem ratio_Frac_eq (n_0 : Int) (d_1 : Int) : fnF tb (envL e31) Tryz.f31 ratio_Frac_lh c31.ps c31.rs (T := RAT) (fun y => (y.2.1)) (n_0, d_1, ()) = ratio_Frac n_0 d_1 := by kernel_rfl
abbrev e13 : List (Nat × Ctr) := [(27, c27), (28, c28), (29, c29), (30, c30), (31, c31)]
def dendronlaw13_average_lh : LH
 | 6 => some ⟨dendronlaw13_average_i3, dendronlaw13_average_o3, lp dendronlaw13_average_s3 K0⟩
 | _ => none
theorem dendronlaw13_average_l3 (g : dendronlaw13_average_i3.V → Option (OT dendronlaw13_average_o3)) (v : dendronlaw13_average_i3.V) : loopStep tb (envL e13) 39 dendronlaw13_average_lh (loopAt 3 (bodyOf Tryz.f13) .skip) dendronlaw13_average_i3 dendronlaw13_average_o3 g v = dendronlaw13_average_s3 g v := by kernel_rfl
theorem dendronlaw13_average_eq (m_0 : MODEL) (i_1 : Int) (z_2 : CELL) (l_3 : List (List CELL)) : fnF tb (envL e13) Tryz.f13 dendronlaw13_average_lh c13.ps c13.rs (T := RAT) (fun y => (y.2.1)) (m_0, i_1, z_2, l_3, ()) = dendronlaw13_average m_0 i_1 z_2 l_3 := by kernel_rfl
abbrev e32 : List (Nat × Ctr) := [(55, c55)]
def depend_At_lh : LH
 | 6 => some ⟨depend_At_i3, depend_At_o3, lp depend_At_s3 K0⟩
 | _ => none
theorem depend_At_l3 (g : depend_At_i3.V → Option (OT depend_At_o3)) (v : depend_At_i3.V) : loopStep tb (envL e32) 22 depend_At_lh (loopAt 3 (bodyOf Tryz.f32) .skip) depend_At_i3 depend_At_o3 g v = depend_At_s3 g v := by kernel_rfl
theorem depend_At_eq (steps_0 : List RAT) (z_1 : RAT) : fnF tb (envL e32) Tryz.f32 depend_At_lh c32.ps c32.rs (T := Int) (fun y => (y.2.1)) (steps_0, z_1, ()) = depend_At steps_0 z_1 := by kernel_rfl
abbrev e14 : List (Nat × Ctr) := [(31, c31), (32, c32), (33, c33)]
def dendronlaw13_awake_lh : LH
 | _ => none
theorem dendronlaw13_awake_eq  : fnF tb (envL e14) Tryz.f14 dendronlaw13_awake_lh c14.ps c14.rs (T := Bool) (fun y => (y.2.1)) () = dendronlaw13_awake  := by kernel_rfl
abbrev e3 : List (Nat × Ctr) := [(4, c4), (5, c5), (6, c6), (7, c7), (8, c8), (9, c9), (10, c10), (11, c11), (12, c12), (13, c13), (14, c14)]
def dendronlaw13_DependGrids_lh : LH
 | 22 => some ⟨dendronlaw13_DependGrids_i11, dendronlaw13_DependGrids_o11, lp dendronlaw13_DependGrids_s11 K0⟩
 | _ => none
theorem dendronlaw13_DependGrids_l11 (g : dendronlaw13_DependGrids_i11.V → Option (OT dendronlaw13_DependGrids_o11)) (v : dendronlaw13_DependGrids_i11.V) : loopStep tb (envL e3) 139 dendronlaw13_DependGrids_lh (loopAt 11 (bodyOf Tryz.f3) .skip) dendronlaw13_DependGrids_i11 dendronlaw13_DependGrids_o11 g v = dendronlaw13_DependGrids_s11 g v := by kernel_rfl
theorem dendronlaw13_DependGrids_eq (a_0 : MODEL) (a_1 : Int) (a_2 : List CELL) (a_3 : List (List CELL)) : fnF tb (envL e3) Tryz.f3 dendronlaw13_DependGrids_lh c3.ps c3.rs (T := Bool) (fun y => (y.2.1)) (a_0, a_1, a_2, a_3, ()) = dendronlaw13_DependGrids a_0 a_1 a_2 a_3 := by kernel_rfl
end Go.Proofs.YtjjgbpeapgmhoaaGreatDoor.X
