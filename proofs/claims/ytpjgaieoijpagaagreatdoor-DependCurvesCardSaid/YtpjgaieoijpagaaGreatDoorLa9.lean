/- Each function answers so. Printed by a program of our own. -/
import Derived.Test.YtpjgaieoijpagaaGreatDoorLa6

namespace Go.Proofs.YtpjgaieoijpagaaGreatDoor.X
open Go
set_option linter.unusedSimpArgs false
set_option linter.unusedVariables false
set_option maxRecDepth 100000

abbrev e56 : List (Nat × Ctr) := []

def dendronlaw09_number_lh : LH
  | _ => none

theorem dendronlaw09_number_eq (a_0 : RAT) : fnF tb (envL e56) Tryz.f56 dendronlaw09_number_lh c56.ps c56.rs (T := RAT) (fun y => (y.2.1)) (a_0, ()) = dendronlaw09_number a_0 := by kernel_rfl

abbrev e20 : List (Nat × Ctr) := [(56, c56)]

def dendronlaw09_Few_lh : LH
  | 6 => some ⟨dendronlaw09_Few_i3, dendronlaw09_Few_o3, lp dendronlaw09_Few_s3 K0⟩
  | _ => none

theorem dendronlaw09_Few_l3 (g : dendronlaw09_Few_i3.V → Option (OT dendronlaw09_Few_o3)) (v : dendronlaw09_Few_i3.V) : loopStep tb (envL e20) 32 dendronlaw09_Few_lh (loopAt 3 (bodyOf Tryz.f20) .skip) dendronlaw09_Few_i3 dendronlaw09_Few_o3 g v = dendronlaw09_Few_s3 g v := by kernel_rfl

theorem dendronlaw09_Few_eq (l_0 : List CELL) (n_1 : Int) : fnF tb (envL e20) Tryz.f20 dendronlaw09_Few_lh c20.ps c20.rs (T := (List CELL)) (fun y => (y.2.1)) (l_0, n_1, ()) = dendronlaw09_Few l_0 n_1 := by kernel_rfl

abbrev e78 : List (Nat × Ctr) := []

def dendronlaw07_number_lh : LH
  | _ => none

theorem dendronlaw07_number_eq (a_0 : RAT) : fnF tb (envL e78) Tryz.f78 dendronlaw07_number_lh c78.ps c78.rs (T := RAT) (fun y => (y.2.1)) (a_0, ()) = dendronlaw07_number a_0 := by kernel_rfl

abbrev e42 : List (Nat × Ctr) := [(78, c78)]

def dendronlaw07_Few_lh : LH
  | 14 => some ⟨dendronlaw07_Few_i7, dendronlaw07_Few_o7, lp dendronlaw07_Few_s7 K0⟩
  | 6 => some ⟨dendronlaw07_Few_i3, dendronlaw07_Few_o3, lp dendronlaw07_Few_s3 K0⟩
  | _ => none

theorem dendronlaw07_Few_l7 (g : dendronlaw07_Few_i7.V → Option (OT dendronlaw07_Few_o7)) (v : dendronlaw07_Few_i7.V) : loopStep tb (envL e42) 67 dendronlaw07_Few_lh (loopAt 7 (bodyOf Tryz.f42) .skip) dendronlaw07_Few_i7 dendronlaw07_Few_o7 g v = dendronlaw07_Few_s7 g v := by kernel_rfl

theorem dendronlaw07_Few_l3 (g : dendronlaw07_Few_i3.V → Option (OT dendronlaw07_Few_o3)) (v : dendronlaw07_Few_i3.V) : loopStep tb (envL e42) 67 dendronlaw07_Few_lh (loopAt 3 (bodyOf Tryz.f42) .skip) dendronlaw07_Few_i3 dendronlaw07_Few_o3 g v = dendronlaw07_Few_s3 g v := by kernel_rfl

theorem dendronlaw07_Few_eq (a_0 : MODEL) : fnF tb (envL e42) Tryz.f42 dendronlaw07_Few_lh c42.ps c42.rs (T := MODEL) (fun y => (y.2.1)) (a_0, ()) = dendronlaw07_Few a_0 := by kernel_rfl

abbrev e8 : List (Nat × Ctr) := [(20, c20), (42, c42)]

def dendronlaw11_Small_lh : LH
  | _ => none

theorem dendronlaw11_Small_eq (m_0 : MODEL) (row_1 : List CELL) : fnF tb (envL e8) Tryz.f8 dendronlaw11_Small_lh c8.ps c8.rs (T := MODEL × (List CELL)) (fun y => (y.2.1, y.2.2.1)) (m_0, row_1, ()) = dendronlaw11_Small m_0 row_1 := by kernel_rfl

abbrev e107 : List (Nat × Ctr) := []

def nat_trim_lh : LH
  | 4 => some ⟨nat_trim_i2, nat_trim_o2, lp nat_trim_s2 K0⟩
  | _ => none

theorem nat_trim_l2 (g : nat_trim_i2.V → Option (OT nat_trim_o2)) (v : nat_trim_i2.V) : loopStep tb (envL e107) 23 nat_trim_lh (loopAt 2 (bodyOf Tryz.f107) .skip) nat_trim_i2 nat_trim_o2 g v = nat_trim_s2 g v := by kernel_rfl

theorem nat_trim_eq (a_0 : List Int) : fnF tb (envL e107) Tryz.f107 nat_trim_lh c107.ps c107.rs (T := (List Int)) (fun y => (y.2.1)) (a_0, ()) = nat_trim a_0 := by kernel_rfl

abbrev e69 : List (Nat × Ctr) := [(107, c107)]

def nat_Of_lh : LH
  | _ => none

theorem nat_Of_eq (n_0 : Int) : fnF tb (envL e69) Tryz.f69 nat_Of_lh c69.ps c69.rs (T := (List Int)) (fun y => (y.2.1)) (n_0, ()) = nat_Of n_0 := by kernel_rfl

abbrev e36 : List (Nat × Ctr) := [(69, c69)]

def ratio_Zero_lh : LH
  | _ => none

theorem ratio_Zero_eq  : fnF tb (envL e36) Tryz.f36 ratio_Zero_lh c36.ps c36.rs (T := RAT) (fun y => (y.2.1)) () = ratio_Zero  := by kernel_rfl

abbrev e112 : List (Nat × Ctr) := []

def whole_sign_lh : LH
  | _ => none

theorem whole_sign_eq (neg_0 : Bool) (abs_1 : List Int) : fnF tb (envL e112) Tryz.f112 whole_sign_lh c112.ps c112.rs (T := WH) (fun y => (y.2.1)) (neg_0, abs_1, ()) = whole_sign neg_0 abs_1 := by kernel_rfl

abbrev e77 : List (Nat × Ctr) := [(69, c69), (112, c112)]

def whole_Of_lh : LH
  | _ => none

theorem whole_Of_eq (n_0 : Int) : fnF tb (envL e77) Tryz.f77 whole_Of_lh c77.ps c77.rs (T := WH) (fun y => (y.2.1)) (n_0, ()) = whole_Of n_0 := by kernel_rfl

abbrev e49 : List (Nat × Ctr) := [(69, c69), (77, c77)]

def ratio_Of_lh : LH
  | _ => none

theorem ratio_Of_eq (n_0 : Int) : fnF tb (envL e49) Tryz.f49 ratio_Of_lh c49.ps c49.rs (T := RAT) (fun y => (y.2.1)) (n_0, ()) = ratio_Of n_0 := by kernel_rfl

abbrev e48 : List (Nat × Ctr) := [(49, c49)]

def ratio_One_lh : LH
  | _ => none

theorem ratio_One_eq  : fnF tb (envL e48) Tryz.f48 ratio_One_lh c48.ps c48.rs (T := RAT) (fun y => (y.2.1)) () = ratio_One  := by kernel_rfl

abbrev e83 : List (Nat × Ctr) := []

def model_Fits_lh : LH
  | 18 => some ⟨model_Fits_i9, model_Fits_o9, lp model_Fits_s9 K0⟩
  | 8 => some ⟨model_Fits_i4, model_Fits_o4, lp model_Fits_s4 K0⟩
  | _ => none

theorem model_Fits_l9 (g : model_Fits_i9.V → Option (OT model_Fits_o9)) (v : model_Fits_i9.V) : loopStep tb (envL e83) 72 model_Fits_lh (loopAt 9 (bodyOf Tryz.f83) .skip) model_Fits_i9 model_Fits_o9 g v = model_Fits_s9 g v := by kernel_rfl

theorem model_Fits_l4 (g : model_Fits_i4.V → Option (OT model_Fits_o4)) (v : model_Fits_i4.V) : loopStep tb (envL e83) 72 model_Fits_lh (loopAt 4 (bodyOf Tryz.f83) .skip) model_Fits_i4 model_Fits_o4 g v = model_Fits_s4 g v := by kernel_rfl

theorem model_Fits_eq (a_0 : MODEL) : fnF tb (envL e83) Tryz.f83 model_Fits_lh c83.ps c83.rs (T := Bool) (fun y => (y.2.1)) (a_0, ()) = model_Fits a_0 := by kernel_rfl

abbrev e84 : List (Nat × Ctr) := []

def valid_ranges_lh : LH
  | 4 => some ⟨valid_ranges_i2, valid_ranges_o2, lp valid_ranges_s2 K0⟩
  | _ => none

theorem valid_ranges_l2 (g : valid_ranges_i2.V → Option (OT valid_ranges_o2)) (v : valid_ranges_i2.V) : loopStep tb (envL e84) 52 valid_ranges_lh (loopAt 2 (bodyOf Tryz.f84) .skip) valid_ranges_i2 valid_ranges_o2 g v = valid_ranges_s2 g v := by kernel_rfl

theorem valid_ranges_eq (t_0 : List NODE) (features_1 : Int) : fnF tb (envL e84) Tryz.f84 valid_ranges_lh c84.ps c84.rs (T := Int × Int) (fun y => (y.2.1, y.2.2.1)) (t_0, features_1, ()) = valid_ranges t_0 features_1 := by kernel_rfl

abbrev e85 : List (Nat × Ctr) := []

def valid_shape_lh : LH
  | 6 => some ⟨valid_shape_i3, valid_shape_o3, lp valid_shape_s3 K0⟩
  | 20 => some ⟨valid_shape_i10, valid_shape_o10, lp valid_shape_s10 K0⟩
  | 34 => some ⟨valid_shape_i17, valid_shape_o17, lp valid_shape_s17 K0⟩
  | 50 => some ⟨valid_shape_i25, valid_shape_o25, lp valid_shape_s25 K0⟩
  | _ => none

theorem valid_shape_l3 (g : valid_shape_i3.V → Option (OT valid_shape_o3)) (v : valid_shape_i3.V) : loopStep tb (envL e85) 103 valid_shape_lh (loopAt 3 (bodyOf Tryz.f85) .skip) valid_shape_i3 valid_shape_o3 g v = valid_shape_s3 g v := by kernel_rfl

theorem valid_shape_l10 (g : valid_shape_i10.V → Option (OT valid_shape_o10)) (v : valid_shape_i10.V) : loopStep tb (envL e85) 103 valid_shape_lh (loopAt 10 (bodyOf Tryz.f85) .skip) valid_shape_i10 valid_shape_o10 g v = valid_shape_s10 g v := by kernel_rfl

theorem valid_shape_l17 (g : valid_shape_i17.V → Option (OT valid_shape_o17)) (v : valid_shape_i17.V) : loopStep tb (envL e85) 103 valid_shape_lh (loopAt 17 (bodyOf Tryz.f85) .skip) valid_shape_i17 valid_shape_o17 g v = valid_shape_s17 g v := by kernel_rfl

theorem valid_shape_l25 (g : valid_shape_i25.V → Option (OT valid_shape_o25)) (v : valid_shape_i25.V) : loopStep tb (envL e85) 103 valid_shape_lh (loopAt 25 (bodyOf Tryz.f85) .skip) valid_shape_i25 valid_shape_o25 g v = valid_shape_s25 g v := by kernel_rfl

theorem valid_shape_eq (a_0 : List NODE) : fnF tb (envL e85) Tryz.f85 valid_shape_lh c85.ps c85.rs (T := Int × Int) (fun y => (y.2.1, y.2.2.1)) (a_0, ()) = valid_shape a_0 := by kernel_rfl

abbrev e108 : List (Nat × Ctr) := [(107, c107)]

def nat_Clean_lh : LH
  | 6 => some ⟨nat_Clean_i3, nat_Clean_o3, lp nat_Clean_s3 K0⟩
  | _ => none

theorem nat_Clean_l3 (g : nat_Clean_i3.V → Option (OT nat_Clean_o3)) (v : nat_Clean_i3.V) : loopStep tb (envL e108) 24 nat_Clean_lh (loopAt 3 (bodyOf Tryz.f108) .skip) nat_Clean_i3 nat_Clean_o3 g v = nat_Clean_s3 g v := by kernel_rfl

theorem nat_Clean_eq (a_0 : List Int) : fnF tb (envL e108) Tryz.f108 nat_Clean_lh c108.ps c108.rs (T := (List Int)) (fun y => (y.2.1)) (a_0, ()) = nat_Clean a_0 := by kernel_rfl

abbrev e164 : List (Nat × Ctr) := [(108, c108)]

def nat_To_lh : LH
  | _ => none

theorem nat_To_eq (a_0 : List Int) : fnF tb (envL e164) Tryz.f164 nat_To_lh c164.ps c164.rs (T := Int × Bool) (fun y => (y.2.1, y.2.2.1)) (a_0, ()) = nat_To a_0 := by kernel_rfl

abbrev e141 : List (Nat × Ctr) := [(69, c69), (164, c164)]

def nat_euclid_lh : LH
  | 6 => some ⟨nat_euclid_i3, nat_euclid_o3, lp nat_euclid_s3 K0⟩
  | _ => none

theorem nat_euclid_l3 (g : nat_euclid_i3.V → Option (OT nat_euclid_o3)) (v : nat_euclid_i3.V) : loopStep tb (envL e141) 27 nat_euclid_lh (loopAt 3 (bodyOf Tryz.f141) .skip) nat_euclid_i3 nat_euclid_o3 g v = nat_euclid_s3 g v := by kernel_rfl

theorem nat_euclid_eq (a_0 : List Int) (b_1 : List Int) : fnF tb (envL e141) Tryz.f141 nat_euclid_lh c141.ps c141.rs (T := (List Int)) (fun y => (y.2.1)) (a_0, b_1, ()) = nat_euclid a_0 b_1 := by kernel_rfl

abbrev e142 : List (Nat × Ctr) := [(165, c165)]

def nat_zeros_lh : LH
  | 6 => some ⟨nat_zeros_i3, nat_zeros_o3, lp nat_zeros_s3 K0⟩
  | _ => none

theorem nat_zeros_l3 (g : nat_zeros_i3.V → Option (OT nat_zeros_o3)) (v : nat_zeros_i3.V) : loopStep tb (envL e142) 24 nat_zeros_lh (loopAt 3 (bodyOf Tryz.f142) .skip) nat_zeros_i3 nat_zeros_o3 g v = nat_zeros_s3 g v := by kernel_rfl

theorem nat_zeros_eq (a_0 : List Int) : fnF tb (envL e142) Tryz.f142 nat_zeros_lh c142.ps c142.rs (T := Int) (fun y => (y.2.1)) (a_0, ()) = nat_zeros a_0 := by kernel_rfl

abbrev e150 : List (Nat × Ctr) := []

def nat_limb_lh : LH
  | _ => none

theorem nat_limb_eq (a_0 : List Int) (i_1 : Int) : fnF tb (envL e150) Tryz.f150 nat_limb_lh c150.ps c150.rs (T := Int) (fun y => (y.2.1)) (a_0, i_1, ()) = nat_limb a_0 i_1 := by kernel_rfl

abbrev e143 : List (Nat × Ctr) := [(107, c107), (150, c150)]

def nat_shr_lh : LH
  | 12 => some ⟨nat_shr_i6, nat_shr_o6, lp nat_shr_s6 K0⟩
  | _ => none

theorem nat_shr_l6 (g : nat_shr_i6.V → Option (OT nat_shr_o6)) (v : nat_shr_i6.V) : loopStep tb (envL e143) 50 nat_shr_lh (loopAt 6 (bodyOf Tryz.f143) .skip) nat_shr_i6 nat_shr_o6 g v = nat_shr_s6 g v := by kernel_rfl

theorem nat_shr_eq (a_0 : List Int) (n_1 : Int) : fnF tb (envL e143) Tryz.f143 nat_shr_lh c143.ps c143.rs (T := (List Int)) (fun y => (y.2.1)) (a_0, n_1, ()) = nat_shr a_0 n_1 := by kernel_rfl

abbrev e144 : List (Nat × Ctr) := []

def nat_order_lh : LH
  | 12 => some ⟨nat_order_i6, nat_order_o6, lp nat_order_s6 K0⟩
  | _ => none

theorem nat_order_l6 (g : nat_order_i6.V → Option (OT nat_order_o6)) (v : nat_order_i6.V) : loopStep tb (envL e144) 45 nat_order_lh (loopAt 6 (bodyOf Tryz.f144) .skip) nat_order_i6 nat_order_o6 g v = nat_order_s6 g v := by kernel_rfl

theorem nat_order_eq (a_0 : List Int) (b_1 : List Int) : fnF tb (envL e144) Tryz.f144 nat_order_lh c144.ps c144.rs (T := Int) (fun y => (y.2.1)) (a_0, b_1, ()) = nat_order a_0 b_1 := by kernel_rfl

abbrev e145 : List (Nat × Ctr) := [(107, c107)]

def nat_shl_lh : LH
  | 8 => some ⟨nat_shl_i4, nat_shl_o4, lp nat_shl_s4 K0⟩
  | _ => none

theorem nat_shl_l4 (g : nat_shl_i4.V → Option (OT nat_shl_o4)) (v : nat_shl_i4.V) : loopStep tb (envL e145) 51 nat_shl_lh (loopAt 4 (bodyOf Tryz.f145) .skip) nat_shl_i4 nat_shl_o4 g v = nat_shl_s4 g v := by kernel_rfl

theorem nat_shl_eq (a_0 : List Int) (n_1 : Int) : fnF tb (envL e145) Tryz.f145 nat_shl_lh c145.ps c145.rs (T := (List Int)) (fun y => (y.2.1)) (a_0, n_1, ()) = nat_shl a_0 n_1 := by kernel_rfl

abbrev e148 : List (Nat × Ctr) := [(107, c107)]

def nat_small_lh : LH
  | 8 => some ⟨nat_small_i4, nat_small_o4, lp nat_small_s4 K0⟩
  | _ => none

theorem nat_small_l4 (g : nat_small_i4.V → Option (OT nat_small_o4)) (v : nat_small_i4.V) : loopStep tb (envL e148) 38 nat_small_lh (loopAt 4 (bodyOf Tryz.f148) .skip) nat_small_i4 nat_small_o4 g v = nat_small_s4 g v := by kernel_rfl

theorem nat_small_eq (a_0 : List Int) (d_1 : Int) : fnF tb (envL e148) Tryz.f148 nat_small_lh c148.ps c148.rs (T := (List Int) × Int) (fun y => (y.2.1, y.2.2.1)) (a_0, d_1, ()) = nat_small a_0 d_1 := by kernel_rfl

abbrev e166 : List (Nat × Ctr) := [(171, c171)]

def bits_LeadingZeros32_lh : LH
  | _ => none

theorem bits_LeadingZeros32_eq (x_0 : Int) : fnF tb (envL e166) Tryz.f166 bits_LeadingZeros32_lh c166.ps c166.rs (T := Int) (fun y => (y.2.1)) (x_0, ()) = bits_LeadingZeros32 x_0 := by kernel_rfl

abbrev e172 : List (Nat × Ctr) := [(150, c150)]

def nat_take_lh : LH
  | 6 => some ⟨nat_take_i3, nat_take_o3, lp nat_take_s3 K0⟩
  | _ => none

theorem nat_take_l3 (g : nat_take_i3.V → Option (OT nat_take_o3)) (v : nat_take_i3.V) : loopStep tb (envL e172) 46 nat_take_lh (loopAt 3 (bodyOf Tryz.f172) .skip) nat_take_i3 nat_take_o3 g v = nat_take_s3 g v := by kernel_rfl

theorem nat_take_eq (u_0 : List Int) (v_1 : List Int) (times_2 : Int) : fnF tb (envL e172) Tryz.f172 nat_take_lh c172.ps c172.rs (T := (List Int) × Bool) (fun y => (y.1.1, y.2.1)) (u_0, v_1, times_2, ()) = nat_take u_0 v_1 times_2 := by kernel_rfl

abbrev e173 : List (Nat × Ctr) := [(150, c150)]

def nat_give_lh : LH
  | 4 => some ⟨nat_give_i2, nat_give_o2, lp nat_give_s2 K0⟩
  | _ => none

theorem nat_give_l2 (g : nat_give_i2.V → Option (OT nat_give_o2)) (v : nat_give_i2.V) : loopStep tb (envL e173) 29 nat_give_lh (loopAt 2 (bodyOf Tryz.f173) .skip) nat_give_i2 nat_give_o2 g v = nat_give_s2 g v := by kernel_rfl

theorem nat_give_eq (u_0 : List Int) (v_1 : List Int) : fnF tb (envL e173) Tryz.f173 nat_give_lh c173.ps c173.rs (T := (List Int)) (fun y => (y.1.1)) (u_0, v_1, ()) = nat_give u_0 v_1 := by kernel_rfl

abbrev e167 : List (Nat × Ctr) := [(172, c172), (173, c173)]

def nat_digit_lh : LH
  | 8 => some ⟨nat_digit_i4, nat_digit_o4, lp nat_digit_s4 K0⟩
  | _ => none

theorem nat_digit_l4 (g : nat_digit_i4.V → Option (OT nat_digit_o4)) (v : nat_digit_i4.V) : loopStep tb (envL e167) 77 nat_digit_lh (loopAt 4 (bodyOf Tryz.f167) .skip) nat_digit_i4 nat_digit_o4 g v = nat_digit_s4 g v := by kernel_rfl

theorem nat_digit_eq (a_0 : List Int) (a_1 : List Int) : fnF tb (envL e167) Tryz.f167 nat_digit_lh c167.ps c167.rs (T := (List Int) × Int) (fun y => (y.1.1, y.2.1)) (a_0, a_1, ()) = nat_digit a_0 a_1 := by kernel_rfl

abbrev e149 : List (Nat × Ctr) := [(107, c107), (143, c143), (145, c145), (166, c166), (167, c167)]

def nat_long_lh : LH
  | 14 => some ⟨nat_long_i7, nat_long_o7, lp nat_long_s7 K0⟩
  | _ => none

theorem nat_long_l7 (g : nat_long_i7.V → Option (OT nat_long_o7)) (v : nat_long_i7.V) : loopStep tb (envL e149) 64 nat_long_lh (loopAt 7 (bodyOf Tryz.f149) .skip) nat_long_i7 nat_long_o7 g v = nat_long_s7 g v := by kernel_rfl

theorem nat_long_eq (a_0 : List Int) (b_1 : List Int) : fnF tb (envL e149) Tryz.f149 nat_long_lh c149.ps c149.rs (T := (List Int) × (List Int)) (fun y => (y.2.1, y.2.2.1)) (a_0, b_1, ()) = nat_long a_0 b_1 := by kernel_rfl

abbrev e111 : List (Nat × Ctr) := [(69, c69), (108, c108), (144, c144), (148, c148), (149, c149)]

def nat_DivMod_lh : LH
  | _ => none

theorem nat_DivMod_eq (a_0 : List Int) (b_1 : List Int) : fnF tb (envL e111) Tryz.f111 nat_DivMod_lh c111.ps c111.rs (T := (List Int) × (List Int) × Int) (fun y => (y.2.1, y.2.2.1, y.2.2.2.1)) (a_0, b_1, ()) = nat_DivMod a_0 b_1 := by kernel_rfl

abbrev e146 : List (Nat × Ctr) := [(111, c111)]

def nat_rest_lh : LH
  | _ => none

theorem nat_rest_eq (a_0 : List Int) (b_1 : List Int) : fnF tb (envL e146) Tryz.f146 nat_rest_lh c146.ps c146.rs (T := (List Int) × (List Int)) (fun y => (y.2.1, y.2.2.1)) (a_0, b_1, ()) = nat_rest a_0 b_1 := by kernel_rfl

abbrev e147 : List (Nat × Ctr) := [(107, c107), (150, c150)]

def nat_minus_lh : LH
  | 8 => some ⟨nat_minus_i4, nat_minus_o4, lp nat_minus_s4 K0⟩
  | _ => none

theorem nat_minus_l4 (g : nat_minus_i4.V → Option (OT nat_minus_o4)) (v : nat_minus_i4.V) : loopStep tb (envL e147) 39 nat_minus_lh (loopAt 4 (bodyOf Tryz.f147) .skip) nat_minus_i4 nat_minus_o4 g v = nat_minus_s4 g v := by kernel_rfl

theorem nat_minus_eq (a_0 : List Int) (b_1 : List Int) : fnF tb (envL e147) Tryz.f147 nat_minus_lh c147.ps c147.rs (T := (List Int)) (fun y => (y.2.1)) (a_0, b_1, ()) = nat_minus a_0 b_1 := by kernel_rfl

abbrev e110 : List (Nat × Ctr) := [(108, c108), (141, c141), (142, c142), (143, c143), (144, c144), (145, c145), (146, c146), (147, c147)]

def nat_Gcd_lh : LH
  | 20 => some ⟨nat_Gcd_i10, nat_Gcd_o10, lp nat_Gcd_s10 K0⟩
  | _ => none

theorem nat_Gcd_l10 (g : nat_Gcd_i10.V → Option (OT nat_Gcd_o10)) (v : nat_Gcd_i10.V) : loopStep tb (envL e110) 86 nat_Gcd_lh (loopAt 10 (bodyOf Tryz.f110) .skip) nat_Gcd_i10 nat_Gcd_o10 g v = nat_Gcd_s10 g v := by kernel_rfl

theorem nat_Gcd_eq (a_0 : List Int) (a_1 : List Int) : fnF tb (envL e110) Tryz.f110 nat_Gcd_lh c110.ps c110.rs (T := (List Int)) (fun y => (y.2.1)) (a_0, a_1, ()) = nat_Gcd a_0 a_1 := by kernel_rfl

abbrev e71 : List (Nat × Ctr) := [(69, c69), (110, c110), (111, c111)]

def ratio_form_lh : LH
  | _ => none

theorem ratio_form_eq (num_0 : WH) (den_1 : List Int) : fnF tb (envL e71) Tryz.f71 ratio_form_lh c71.ps c71.rs (T := RAT) (fun y => (y.2.1)) (num_0, den_1, ()) = ratio_form num_0 den_1 := by kernel_rfl

abbrev e109 : List (Nat × Ctr) := [(108, c108), (112, c112)]

def whole_Clean_lh : LH
  | _ => none

theorem whole_Clean_eq (a_0 : WH) : fnF tb (envL e109) Tryz.f109 whole_Clean_lh c109.ps c109.rs (T := WH) (fun y => (y.2.1)) (a_0, ()) = whole_Clean a_0 := by kernel_rfl

abbrev e70 : List (Nat × Ctr) := [(36, c36), (71, c71), (108, c108), (109, c109)]

def ratio_Clean_lh : LH
  | _ => none

theorem ratio_Clean_eq (a_0 : RAT) : fnF tb (envL e70) Tryz.f70 ratio_Clean_lh c70.ps c70.rs (T := RAT) (fun y => (y.2.1)) (a_0, ()) = ratio_Clean a_0 := by kernel_rfl

abbrev e116 : List (Nat × Ctr) := [(109, c109)]

def whole_Sign_lh : LH
  | _ => none

theorem whole_Sign_eq (a_0 : WH) : fnF tb (envL e116) Tryz.f116 whole_Sign_lh c116.ps c116.rs (T := Int) (fun y => (y.2.1)) (a_0, ()) = whole_Sign a_0 := by kernel_rfl

abbrev e119 : List (Nat × Ctr) := [(70, c70), (116, c116)]

def ratio_Sign_lh : LH
  | _ => none

theorem ratio_Sign_eq (a_0 : RAT) : fnF tb (envL e119) Tryz.f119 ratio_Sign_lh c119.ps c119.rs (T := Int) (fun y => (y.2.1)) (a_0, ()) = ratio_Sign a_0 := by kernel_rfl

abbrev e86 : List (Nat × Ctr) := [(119, c119)]

def valid_covers_lh : LH
  | 4 => some ⟨valid_covers_i2, valid_covers_o2, lp valid_covers_s2 K0⟩
  | _ => none

theorem valid_covers_l2 (g : valid_covers_i2.V → Option (OT valid_covers_o2)) (v : valid_covers_i2.V) : loopStep tb (envL e86) 19 valid_covers_lh (loopAt 2 (bodyOf Tryz.f86) .skip) valid_covers_i2 valid_covers_o2 g v = valid_covers_s2 g v := by kernel_rfl

theorem valid_covers_eq (t_0 : List NODE) : fnF tb (envL e86) Tryz.f86 valid_covers_lh c86.ps c86.rs (T := Int × Int) (fun y => (y.2.1, y.2.2.1)) (t_0, ()) = valid_covers t_0 := by kernel_rfl

abbrev e75 : List (Nat × Ctr) := [(107, c107), (108, c108)]

def nat_Mul_lh : LH
  | 16 => some ⟨nat_Mul_i8, nat_Mul_o8, lp nat_Mul_s8 K0⟩
  | 8 => some ⟨nat_Mul_i4, nat_Mul_o4, lp nat_Mul_s4 K0⟩
  | _ => none

theorem nat_Mul_l8 (g : nat_Mul_i8.V → Option (OT nat_Mul_o8)) (v : nat_Mul_i8.V) : loopStep tb (envL e75) 67 nat_Mul_lh (loopAt 8 (bodyOf Tryz.f75) .skip) nat_Mul_i8 nat_Mul_o8 g v = nat_Mul_s8 g v := by kernel_rfl

theorem nat_Mul_l4 (g : nat_Mul_i4.V → Option (OT nat_Mul_o4)) (v : nat_Mul_i4.V) : loopStep tb (envL e75) 67 nat_Mul_lh (loopAt 4 (bodyOf Tryz.f75) .skip) nat_Mul_i4 nat_Mul_o4 g v = nat_Mul_s4 g v := by kernel_rfl

theorem nat_Mul_eq (a_0 : List Int) (a_1 : List Int) : fnF tb (envL e75) Tryz.f75 nat_Mul_lh c75.ps c75.rs (T := (List Int)) (fun y => (y.2.1)) (a_0, a_1, ()) = nat_Mul a_0 a_1 := by kernel_rfl

abbrev e73 : List (Nat × Ctr) := [(75, c75), (109, c109), (112, c112)]

def whole_Mul_lh : LH
  | _ => none

theorem whole_Mul_eq (a_0 : WH) (b_1 : WH) : fnF tb (envL e73) Tryz.f73 whole_Mul_lh c73.ps c73.rs (T := WH) (fun y => (y.2.1)) (a_0, b_1, ()) = whole_Mul a_0 b_1 := by kernel_rfl

abbrev e74 : List (Nat × Ctr) := []

def ratio_den_lh : LH
  | _ => none

theorem ratio_den_eq (a_0 : RAT) : fnF tb (envL e74) Tryz.f74 ratio_den_lh c74.ps c74.rs (T := WH) (fun y => (y.2.1)) (a_0, ()) = ratio_den a_0 := by kernel_rfl

abbrev e114 : List (Nat × Ctr) := [(108, c108), (144, c144)]

def nat_Cmp_lh : LH
  | _ => none

theorem nat_Cmp_eq (a_0 : List Int) (b_1 : List Int) : fnF tb (envL e114) Tryz.f114 nat_Cmp_lh c114.ps c114.rs (T := Int) (fun y => (y.2.1)) (a_0, b_1, ()) = nat_Cmp a_0 b_1 := by kernel_rfl

abbrev e92 : List (Nat × Ctr) := [(109, c109), (114, c114)]

def whole_Cmp_lh : LH
  | _ => none

theorem whole_Cmp_eq (a_0 : WH) (b_1 : WH) : fnF tb (envL e92) Tryz.f92 whole_Cmp_lh c92.ps c92.rs (T := Int) (fun y => (y.2.1)) (a_0, b_1, ()) = whole_Cmp a_0 b_1 := by kernel_rfl

abbrev e52 : List (Nat × Ctr) := [(70, c70), (73, c73), (74, c74), (92, c92)]

def ratio_Cmp_lh : LH
  | _ => none

theorem ratio_Cmp_eq (a_0 : RAT) (b_1 : RAT) : fnF tb (envL e52) Tryz.f52 ratio_Cmp_lh c52.ps c52.rs (T := Int) (fun y => (y.2.1)) (a_0, b_1, ()) = ratio_Cmp a_0 b_1 := by kernel_rfl

abbrev e15 : List (Nat × Ctr) := [(52, c52)]

def ratio_Same_lh : LH
  | _ => none

theorem ratio_Same_eq (a_0 : RAT) (b_1 : RAT) : fnF tb (envL e15) Tryz.f15 ratio_Same_lh c15.ps c15.rs (T := Bool) (fun y => (y.2.1)) (a_0, b_1, ()) = ratio_Same a_0 b_1 := by kernel_rfl

abbrev e113 : List (Nat × Ctr) := [(107, c107), (108, c108), (150, c150)]

def nat_Add_lh : LH
  | 10 => some ⟨nat_Add_i5, nat_Add_o5, lp nat_Add_s5 K0⟩
  | _ => none

theorem nat_Add_l5 (g : nat_Add_i5.V → Option (OT nat_Add_o5)) (v : nat_Add_i5.V) : loopStep tb (envL e113) 43 nat_Add_lh (loopAt 5 (bodyOf Tryz.f113) .skip) nat_Add_i5 nat_Add_o5 g v = nat_Add_s5 g v := by kernel_rfl

theorem nat_Add_eq (a_0 : List Int) (b_1 : List Int) : fnF tb (envL e113) Tryz.f113 nat_Add_lh c113.ps c113.rs (T := (List Int)) (fun y => (y.2.1)) (a_0, b_1, ()) = nat_Add a_0 b_1 := by kernel_rfl

abbrev e115 : List (Nat × Ctr) := [(108, c108), (144, c144), (147, c147)]

def nat_Sub_lh : LH
  | _ => none

theorem nat_Sub_eq (a_0 : List Int) (b_1 : List Int) : fnF tb (envL e115) Tryz.f115 nat_Sub_lh c115.ps c115.rs (T := (List Int) × Int) (fun y => (y.2.1, y.2.2.1)) (a_0, b_1, ()) = nat_Sub a_0 b_1 := by kernel_rfl

abbrev e72 : List (Nat × Ctr) := [(109, c109), (112, c112), (113, c113), (114, c114), (115, c115)]

def whole_Add_lh : LH
  | _ => none

theorem whole_Add_eq (a_0 : WH) (b_1 : WH) : fnF tb (envL e72) Tryz.f72 whole_Add_lh c72.ps c72.rs (T := WH) (fun y => (y.2.1)) (a_0, b_1, ()) = whole_Add a_0 b_1 := by kernel_rfl

abbrev e37 : List (Nat × Ctr) := [(70, c70), (71, c71), (72, c72), (73, c73), (74, c74), (75, c75)]

def ratio_Add_lh : LH
  | _ => none

theorem ratio_Add_eq (a_0 : RAT) (b_1 : RAT) : fnF tb (envL e37) Tryz.f37 ratio_Add_lh c37.ps c37.rs (T := RAT) (fun y => (y.2.1)) (a_0, b_1, ()) = ratio_Add a_0 b_1 := by kernel_rfl

abbrev e87 : List (Nat × Ctr) := [(15, c15), (37, c37)]

def valid_sums_lh : LH
  | 4 => some ⟨valid_sums_i2, valid_sums_o2, lp valid_sums_s2 K0⟩
  | _ => none

theorem valid_sums_l2 (g : valid_sums_i2.V → Option (OT valid_sums_o2)) (v : valid_sums_i2.V) : loopStep tb (envL e87) 37 valid_sums_lh (loopAt 2 (bodyOf Tryz.f87) .skip) valid_sums_i2 valid_sums_o2 g v = valid_sums_s2 g v := by kernel_rfl

theorem valid_sums_eq (t_0 : List NODE) : fnF tb (envL e87) Tryz.f87 valid_sums_lh c87.ps c87.rs (T := Int × Int) (fun y => (y.2.1, y.2.2.1)) (t_0, ()) = valid_sums t_0 := by kernel_rfl

abbrev e88 : List (Nat × Ctr) := []

def valid_fault_lh : LH
  | _ => none

theorem valid_fault_eq (e_0 : Int) (tree_1 : Int) (node_2 : Int) : fnF tb (envL e88) Tryz.f88 valid_fault_lh c88.ps c88.rs (T := (Int × Int × Int × Int)) (fun y => (y.2.1)) (e_0, tree_1, node_2, ()) = valid_fault e_0 tree_1 node_2 := by kernel_rfl

abbrev e46 : List (Nat × Ctr) := [(83, c83), (84, c84), (85, c85), (86, c86), (87, c87), (88, c88)]

def valid_Check_lh : LH
  | 14 => some ⟨valid_Check_i7, valid_Check_o7, lp valid_Check_s7 K0⟩
  | 8 => some ⟨valid_Check_i4, valid_Check_o4, lp valid_Check_s4 K0⟩
  | _ => none

theorem valid_Check_l7 (g : valid_Check_i7.V → Option (OT valid_Check_o7)) (v : valid_Check_i7.V) : loopStep tb (envL e46) 63 valid_Check_lh (loopAt 7 (bodyOf Tryz.f46) .skip) valid_Check_i7 valid_Check_o7 g v = valid_Check_s7 g v := by kernel_rfl

theorem valid_Check_l4 (g : valid_Check_i4.V → Option (OT valid_Check_o4)) (v : valid_Check_i4.V) : loopStep tb (envL e46) 63 valid_Check_lh (loopAt 4 (bodyOf Tryz.f46) .skip) valid_Check_i4 valid_Check_o4 g v = valid_Check_s4 g v := by kernel_rfl

theorem valid_Check_eq (m_0 : MODEL) : fnF tb (envL e46) Tryz.f46 valid_Check_lh c46.ps c46.rs (T := (Int × Int × Int × Int)) (fun y => (y.2.1)) (m_0, ()) = valid_Check m_0 := by kernel_rfl

abbrev e10 : List (Nat × Ctr) := [(46, c46)]

def valid_Ok_lh : LH
  | _ => none

theorem valid_Ok_eq (m_0 : MODEL) : fnF tb (envL e10) Tryz.f10 valid_Ok_lh c10.ps c10.rs (T := Bool) (fun y => (y.2.1)) (m_0, ()) = valid_Ok m_0 := by kernel_rfl

abbrev e97 : List (Nat × Ctr) := [(15, c15), (52, c52)]

def route_put_lh : LH
  | 4 => some ⟨route_put_i2, route_put_o2, lp route_put_s2 K0⟩
  | _ => none

theorem route_put_l2 (g : route_put_i2.V → Option (OT route_put_o2)) (v : route_put_i2.V) : loopStep tb (envL e97) 51 route_put_lh (loopAt 2 (bodyOf Tryz.f97) .skip) route_put_i2 route_put_o2 g v = route_put_s2 g v := by kernel_rfl

theorem route_put_eq (l_0 : List RAT) (x_1 : RAT) : fnF tb (envL e97) Tryz.f97 route_put_lh c97.ps c97.rs (T := (List RAT)) (fun y => (y.2.1)) (l_0, x_1, ()) = route_put l_0 x_1 := by kernel_rfl

abbrev e57 : List (Nat × Ctr) := [(10, c10), (70, c70), (97, c97)]

def route_Cuts_lh : LH
  | 20 => some ⟨route_Cuts_i10, route_Cuts_o10, lp route_Cuts_s10 K0⟩
  | 14 => some ⟨route_Cuts_i7, route_Cuts_o7, lp route_Cuts_s7 K0⟩
  | _ => none

theorem route_Cuts_l10 (g : route_Cuts_i10.V → Option (OT route_Cuts_o10)) (v : route_Cuts_i10.V) : loopStep tb (envL e57) 54 route_Cuts_lh (loopAt 10 (bodyOf Tryz.f57) .skip) route_Cuts_i10 route_Cuts_o10 g v = route_Cuts_s10 g v := by kernel_rfl

theorem route_Cuts_l7 (g : route_Cuts_i7.V → Option (OT route_Cuts_o7)) (v : route_Cuts_i7.V) : loopStep tb (envL e57) 54 route_Cuts_lh (loopAt 7 (bodyOf Tryz.f57) .skip) route_Cuts_i7 route_Cuts_o7 g v = route_Cuts_s7 g v := by kernel_rfl

theorem route_Cuts_eq (m_0 : MODEL) (feature_1 : Int) : fnF tb (envL e57) Tryz.f57 route_Cuts_lh c57.ps c57.rs (T := (List RAT) × Int) (fun y => (y.2.1, y.2.2.1)) (m_0, feature_1, ()) = route_Cuts m_0 feature_1 := by kernel_rfl

abbrev e117 : List (Nat × Ctr) := [(109, c109), (112, c112)]

def whole_Neg_lh : LH
  | _ => none

theorem whole_Neg_eq (a_0 : WH) : fnF tb (envL e117) Tryz.f117 whole_Neg_lh c117.ps c117.rs (T := WH) (fun y => (y.2.1)) (a_0, ()) = whole_Neg a_0 := by kernel_rfl

abbrev e98 : List (Nat × Ctr) := [(70, c70), (117, c117)]

def ratio_Neg_lh : LH
  | _ => none

theorem ratio_Neg_eq (a_0 : RAT) : fnF tb (envL e98) Tryz.f98 ratio_Neg_lh c98.ps c98.rs (T := RAT) (fun y => (y.2.1)) (a_0, ()) = ratio_Neg a_0 := by kernel_rfl

abbrev e58 : List (Nat × Ctr) := [(37, c37), (98, c98)]

def ratio_Sub_lh : LH
  | _ => none

theorem ratio_Sub_eq (a_0 : RAT) (b_1 : RAT) : fnF tb (envL e58) Tryz.f58 ratio_Sub_lh c58.ps c58.rs (T := RAT) (fun y => (y.2.1)) (a_0, b_1, ()) = ratio_Sub a_0 b_1 := by kernel_rfl

abbrev e24 : List (Nat × Ctr) := [(36, c36), (48, c48), (57, c57), (58, c58)]

def route_Steps_lh : LH
  | _ => none

theorem route_Steps_eq (m_0 : MODEL) (feature_1 : Int) : fnF tb (envL e24) Tryz.f24 route_Steps_lh c24.ps c24.rs (T := (List RAT) × Int) (fun y => (y.2.1, y.2.2.1)) (m_0, feature_1, ()) = route_Steps m_0 feature_1 := by kernel_rfl

abbrev e59 : List (Nat × Ctr) := [(10, c10)]

def depend_feature_lh : LH
  | _ => none

theorem depend_feature_eq (m_0 : MODEL) (i_1 : Int) : fnF tb (envL e59) Tryz.f59 depend_feature_lh c59.ps c59.rs (T := Int) (fun y => (y.2.1)) (m_0, i_1, ()) = depend_feature m_0 i_1 := by kernel_rfl

abbrev e89 : List (Nat × Ctr) := [(10, c10)]

def route_fits_lh : LH
  | _ => none

theorem route_fits_eq (m_0 : MODEL) (row_1 : List CELL) : fnF tb (envL e89) Tryz.f89 route_fits_lh c89.ps c89.rs (T := Int) (fun y => (y.2.1)) (m_0, row_1, ()) = route_fits m_0 row_1 := by kernel_rfl

abbrev e50 : List (Nat × Ctr) := [(89, c89)]

def route_Fits_lh : LH
  | _ => none

theorem route_Fits_eq (m_0 : MODEL) (row_1 : List CELL) : fnF tb (envL e50) Tryz.f50 route_Fits_lh c50.ps c50.rs (T := Int) (fun y => (y.2.1)) (m_0, row_1, ()) = route_Fits m_0 row_1 := by kernel_rfl

abbrev e124 : List (Nat × Ctr) := [(52, c52)]

def route_goes_lh : LH
  | _ => none

theorem route_goes_eq (n_0 : NODE) (c_1 : CELL) : fnF tb (envL e124) Tryz.f124 route_goes_lh c124.ps c124.rs (T := Bool) (fun y => (y.2.1)) (n_0, c_1, ()) = route_goes n_0 c_1 := by kernel_rfl

abbrev e94 : List (Nat × Ctr) := [(124, c124)]

def route_Left_lh : LH
  | _ => none

theorem route_Left_eq (n_0 : NODE) (c_1 : CELL) : fnF tb (envL e94) Tryz.f94 route_Left_lh c94.ps c94.rs (T := Bool) (fun y => (y.2.1)) (n_0, c_1, ()) = route_Left n_0 c_1 := by kernel_rfl

abbrev e126 : List (Nat × Ctr) := []

def expect_known_lh : LH
  | _ => none

theorem expect_known_eq (set_0 : Int) (feature_1 : Int) : fnF tb (envL e126) Tryz.f126 expect_known_lh c126.ps c126.rs (T := Bool) (fun y => (y.2.1)) (set_0, feature_1, ()) = expect_known set_0 feature_1 := by kernel_rfl

abbrev e38 : List (Nat × Ctr) := [(70, c70), (71, c71), (73, c73), (75, c75)]

def ratio_Mul_lh : LH
  | _ => none

theorem ratio_Mul_eq (a_0 : RAT) (b_1 : RAT) : fnF tb (envL e38) Tryz.f38 ratio_Mul_lh c38.ps c38.rs (T := RAT) (fun y => (y.2.1)) (a_0, b_1, ()) = ratio_Mul a_0 b_1 := by kernel_rfl

abbrev e76 : List (Nat × Ctr) := [(71, c71), (109, c109), (116, c116), (117, c117)]

def ratio_Make_lh : LH
  | _ => none

theorem ratio_Make_eq (num_0 : WH) (den_1 : WH) : fnF tb (envL e76) Tryz.f76 ratio_Make_lh c76.ps c76.rs (T := RAT × Int) (fun y => (y.2.1, y.2.2.1)) (num_0, den_1, ()) = ratio_Make num_0 den_1 := by kernel_rfl

abbrev e125 : List (Nat × Ctr) := [(70, c70), (74, c74), (76, c76)]

def ratio_Inv_lh : LH
  | _ => none

theorem ratio_Inv_eq (a_0 : RAT) : fnF tb (envL e125) Tryz.f125 ratio_Inv_lh c125.ps c125.rs (T := RAT × Int) (fun y => (y.2.1, y.2.2.1)) (a_0, ()) = ratio_Inv a_0 := by kernel_rfl

abbrev e95 : List (Nat × Ctr) := [(38, c38), (125, c125)]

def ratio_Div_lh : LH
  | _ => none

theorem ratio_Div_eq (a_0 : RAT) (b_1 : RAT) : fnF tb (envL e95) Tryz.f95 ratio_Div_lh c95.ps c95.rs (T := RAT × Int) (fun y => (y.2.1, y.2.2.1)) (a_0, b_1, ()) = ratio_Div a_0 b_1 := by kernel_rfl

abbrev e157 : List (Nat × Ctr) := [(95, c95)]

def expect_over_lh : LH
  | _ => none

theorem expect_over_eq (a_0 : RAT) (b_1 : RAT) : fnF tb (envL e157) Tryz.f157 expect_over_lh c157.ps c157.rs (T := RAT) (fun y => (y.2.1)) (a_0, b_1, ()) = expect_over a_0 b_1 := by kernel_rfl

abbrev e127 : List (Nat × Ctr) := [(37, c37), (38, c38), (157, c157)]

def expect_mean_lh : LH
  | _ => none

theorem expect_mean_eq (t_0 : List NODE) (n_1 : NODE) (a_2 : RAT) (b_3 : RAT) : fnF tb (envL e127) Tryz.f127 expect_mean_lh c127.ps c127.rs (T := RAT) (fun y => (y.2.1)) (t_0, n_1, a_2, b_3, ()) = expect_mean t_0 n_1 a_2 b_3 := by kernel_rfl

abbrev e99 (n : Nat) : List (Nat × Ctr) := [(70, c70), (94, c94), (99, (c99 n)), (126, c126), (127, c127)]

def expect_value_lh (n : Nat) : LH
  | _ => none

theorem expect_value_eq (n : Nat) (t_0 : List NODE) (at_1 : Int) (row_2 : List CELL) (set_3 : Int) : fnF tb (envL (e99 n)) Tryz.f99 (expect_value_lh n) (c99 n).ps (c99 n).rs (T := RAT) (fun y => (y.2.1)) (t_0, at_1, row_2, set_3, ()) = expect_value (n + 1) t_0 at_1 row_2 set_3 := by kernel_rfl

abbrev e60 : List (Nat × Ctr) := [(36, c36), (37, c37), (50, c50), (99, (c99 R0))]

def expect_Value_lh : LH
  | 12 => some ⟨expect_Value_i6, expect_Value_o6, lp expect_Value_s6 K0⟩
  | _ => none

theorem expect_Value_l6 (g : expect_Value_i6.V → Option (OT expect_Value_o6)) (v : expect_Value_i6.V) : loopStep tb (envL e60) 35 expect_Value_lh (loopAt 6 (bodyOf Tryz.f60) .skip) expect_Value_i6 expect_Value_o6 g v = expect_Value_s6 g v := by kernel_rfl

theorem expect_Value_eq (m_0 : MODEL) (row_1 : List CELL) (set_2 : Int) : fnF tb (envL e60) Tryz.f60 expect_Value_lh c60.ps c60.rs (T := RAT × Int) (fun y => (y.2.1, y.2.2.1)) (m_0, row_1, set_2, ()) = expect_Value m_0 row_1 set_2 := by kernel_rfl

abbrev e25 : List (Nat × Ctr) := [(59, c59), (60, c60)]

def depend_Cover_lh : LH
  | _ => none

theorem depend_Cover_eq (m_0 : MODEL) (i_1 : Int) (z_2 : CELL) : fnF tb (envL e25) Tryz.f25 depend_Cover_lh c25.ps c25.rs (T := RAT × Int) (fun y => (y.2.1, y.2.2.1)) (m_0, i_1, z_2, ()) = depend_Cover m_0 i_1 z_2 := by kernel_rfl

abbrev e21 : List (Nat × Ctr) := [(24, c24), (25, c25)]

def depend_Curve_lh : LH
  | 12 => some ⟨depend_Curve_i6, depend_Curve_o6, lp depend_Curve_s6 K0⟩
  | _ => none

theorem depend_Curve_l6 (g : depend_Curve_i6.V → Option (OT depend_Curve_o6)) (v : depend_Curve_i6.V) : loopStep tb (envL e21) 56 depend_Curve_lh (loopAt 6 (bodyOf Tryz.f21) .skip) depend_Curve_i6 depend_Curve_o6 g v = depend_Curve_s6 g v := by kernel_rfl

theorem depend_Curve_eq (m_0 : MODEL) (i_1 : Int) : fnF tb (envL e21) Tryz.f21 depend_Curve_lh c21.ps c21.rs (T := (List RAT) × (List RAT) × RAT × Int) (fun y => (y.2.1, y.2.2.1, y.2.2.2.1, y.2.2.2.2.1)) (m_0, i_1, ()) = depend_Curve m_0 i_1 := by kernel_rfl

abbrev e22 : List (Nat × Ctr) := [(10, c10)]

def dendronlaw13_why_lh : LH
  | _ => none

theorem dendronlaw13_why_eq (m_0 : MODEL) (i_1 : Int) : fnF tb (envL e22) Tryz.f22 dendronlaw13_why_lh c22.ps c22.rs (T := Int) (fun y => (y.2.1)) (m_0, i_1, ()) = dendronlaw13_why m_0 i_1 := by kernel_rfl

abbrev e27 : List (Nat × Ctr) := [(52, c52)]

def depend_At_lh : LH
  | 6 => some ⟨depend_At_i3, depend_At_o3, lp depend_At_s3 K0⟩
  | _ => none

theorem depend_At_l3 (g : depend_At_i3.V → Option (OT depend_At_o3)) (v : depend_At_i3.V) : loopStep tb (envL e27) 22 depend_At_lh (loopAt 3 (bodyOf Tryz.f27) .skip) depend_At_i3 depend_At_o3 g v = depend_At_s3 g v := by kernel_rfl

theorem depend_At_eq (steps_0 : List RAT) (z_1 : RAT) : fnF tb (envL e27) Tryz.f27 depend_At_lh c27.ps c27.rs (T := Int) (fun y => (y.2.1)) (steps_0, z_1, ()) = depend_At steps_0 z_1 := by kernel_rfl

abbrev e40 : List (Nat × Ctr) := [(70, c70), (76, c76), (77, c77)]

def ratio_Frac_lh : LH
  | _ => none

theorem ratio_Frac_eq (n_0 : Int) (d_1 : Int) : fnF tb (envL e40) Tryz.f40 ratio_Frac_lh c40.ps c40.rs (T := RAT) (fun y => (y.2.1)) (n_0, d_1, ()) = ratio_Frac n_0 d_1 := by kernel_rfl

abbrev e23 : List (Nat × Ctr) := [(27, c27), (40, c40), (49, c49)]

def dendronlaw13_awake_lh : LH
  | _ => none

theorem dendronlaw13_awake_eq  : fnF tb (envL e23) Tryz.f23 dendronlaw13_awake_lh c23.ps c23.rs (T := Bool) (fun y => (y.2.1)) () = dendronlaw13_awake  := by kernel_rfl

abbrev e131 : List (Nat × Ctr) := []

def dendronref01_Small_lh : LH
  | 4 => some ⟨dendronref01_Small_i2, dendronref01_Small_o2, lp dendronref01_Small_s2 K0⟩
  | _ => none

theorem dendronref01_Small_l2 (g : dendronref01_Small_i2.V → Option (OT dendronref01_Small_o2)) (v : dendronref01_Small_i2.V) : loopStep tb (envL e131) 14 dendronref01_Small_lh (loopAt 2 (bodyOf Tryz.f131) .skip) dendronref01_Small_i2 dendronref01_Small_o2 g v = dendronref01_Small_s2 g v := by kernel_rfl

theorem dendronref01_Small_eq (n_0 : Int) : fnF tb (envL e131) Tryz.f131 dendronref01_Small_lh c131.ps c131.rs (T := (List Int)) (fun y => (y.2.1)) (n_0, ()) = dendronref01_Small n_0 := by kernel_rfl

abbrev e159 : List (Nat × Ctr) := []

def dendronref01_digit_lh : LH
  | _ => none

theorem dendronref01_digit_eq (a_0 : List Int) (i_1 : Int) : fnF tb (envL e159) Tryz.f159 dendronref01_digit_lh c159.ps c159.rs (T := Int) (fun y => (y.2.1)) (a_0, i_1, ()) = dendronref01_digit a_0 i_1 := by kernel_rfl

abbrev e135 : List (Nat × Ctr) := [(159, c159)]

def dendronref01_Plus_lh : LH
  | 8 => some ⟨dendronref01_Plus_i4, dendronref01_Plus_o4, lp dendronref01_Plus_s4 K0⟩
  | _ => none

theorem dendronref01_Plus_l4 (g : dendronref01_Plus_i4.V → Option (OT dendronref01_Plus_o4)) (v : dendronref01_Plus_i4.V) : loopStep tb (envL e135) 41 dendronref01_Plus_lh (loopAt 4 (bodyOf Tryz.f135) .skip) dendronref01_Plus_i4 dendronref01_Plus_o4 g v = dendronref01_Plus_s4 g v := by kernel_rfl

theorem dendronref01_Plus_eq (a_0 : List Int) (b_1 : List Int) : fnF tb (envL e135) Tryz.f135 dendronref01_Plus_lh c135.ps c135.rs (T := (List Int)) (fun y => (y.2.1)) (a_0, b_1, ()) = dendronref01_Plus a_0 b_1 := by kernel_rfl

abbrev e160 : List (Nat × Ctr) := []

def dendronref01_Trim_lh : LH
  | 4 => some ⟨dendronref01_Trim_i2, dendronref01_Trim_o2, lp dendronref01_Trim_s2 K0⟩
  | _ => none

theorem dendronref01_Trim_l2 (g : dendronref01_Trim_i2.V → Option (OT dendronref01_Trim_o2)) (v : dendronref01_Trim_i2.V) : loopStep tb (envL e160) 21 dendronref01_Trim_lh (loopAt 2 (bodyOf Tryz.f160) .skip) dendronref01_Trim_i2 dendronref01_Trim_o2 g v = dendronref01_Trim_s2 g v := by kernel_rfl

theorem dendronref01_Trim_eq (a_0 : List Int) : fnF tb (envL e160) Tryz.f160 dendronref01_Trim_lh c160.ps c160.rs (T := (List Int)) (fun y => (y.2.1)) (a_0, ()) = dendronref01_Trim a_0 := by kernel_rfl

abbrev e136 : List (Nat × Ctr) := [(160, c160)]

def dendronref01_Times_lh : LH
  | 14 => some ⟨dendronref01_Times_i7, dendronref01_Times_o7, lp dendronref01_Times_s7 K0⟩
  | 6 => some ⟨dendronref01_Times_i3, dendronref01_Times_o3, lp dendronref01_Times_s3 K0⟩
  | _ => none

theorem dendronref01_Times_l7 (g : dendronref01_Times_i7.V → Option (OT dendronref01_Times_o7)) (v : dendronref01_Times_i7.V) : loopStep tb (envL e136) 63 dendronref01_Times_lh (loopAt 7 (bodyOf Tryz.f136) .skip) dendronref01_Times_i7 dendronref01_Times_o7 g v = dendronref01_Times_s7 g v := by kernel_rfl

theorem dendronref01_Times_l3 (g : dendronref01_Times_i3.V → Option (OT dendronref01_Times_o3)) (v : dendronref01_Times_i3.V) : loopStep tb (envL e136) 63 dendronref01_Times_lh (loopAt 3 (bodyOf Tryz.f136) .skip) dendronref01_Times_i3 dendronref01_Times_o3 g v = dendronref01_Times_s3 g v := by kernel_rfl

theorem dendronref01_Times_eq (a_0 : List Int) (b_1 : List Int) : fnF tb (envL e136) Tryz.f136 dendronref01_Times_lh c136.ps c136.rs (T := (List Int)) (fun y => (y.2.1)) (a_0, b_1, ()) = dendronref01_Times a_0 b_1 := by kernel_rfl

abbrev e102 : List (Nat × Ctr) := [(131, c131), (135, c135), (136, c136)]

def dendronref01_From_lh : LH
  | 8 => some ⟨dendronref01_From_i4, dendronref01_From_o4, lp dendronref01_From_s4 K0⟩
  | _ => none

theorem dendronref01_From_l4 (g : dendronref01_From_i4.V → Option (OT dendronref01_From_o4)) (v : dendronref01_From_i4.V) : loopStep tb (envL e102) 26 dendronref01_From_lh (loopAt 4 (bodyOf Tryz.f102) .skip) dendronref01_From_i4 dendronref01_From_o4 g v = dendronref01_From_s4 g v := by kernel_rfl

theorem dendronref01_From_eq (a_0 : List Int) : fnF tb (envL e102) Tryz.f102 dendronref01_From_lh c102.ps c102.rs (T := (List Int)) (fun y => (y.2.1)) (a_0, ()) = dendronref01_From a_0 := by kernel_rfl

abbrev e138 : List (Nat × Ctr) := []

def dendronref02_Make_lh : LH
  | _ => none

theorem dendronref02_Make_eq (neg_0 : Bool) (n_1 : List Int) : fnF tb (envL e138) Tryz.f138 dendronref02_Make_lh c138.ps c138.rs (T := (Bool × List Int)) (fun y => (y.2.1)) (neg_0, n_1, ()) = dendronref02_Make neg_0 n_1 := by kernel_rfl

abbrev e137 : List (Nat × Ctr) := [(131, c131), (135, c135), (138, c138)]

def dendronref02_Small_lh : LH
  | _ => none

theorem dendronref02_Small_eq (n_0 : Int) : fnF tb (envL e137) Tryz.f137 dendronref02_Small_lh c137.ps c137.rs (T := (Bool × List Int)) (fun y => (y.2.1)) (n_0, ()) = dendronref02_Small n_0 := by kernel_rfl

abbrev e103 : List (Nat × Ctr) := [(131, c131), (137, c137)]

def dendronref03_Small_lh : LH
  | _ => none

theorem dendronref03_Small_eq (n_0 : Int) (d_1 : Int) : fnF tb (envL e103) Tryz.f103 dendronref03_Small_lh c103.ps c103.rs (T := ((Bool × List Int) × List Int)) (fun y => (y.2.1)) (n_0, d_1, ()) = dendronref03_Small n_0 d_1 := by kernel_rfl

abbrev e104 : List (Nat × Ctr) := [(102, c102), (138, c138)]

def dendronref02_From_lh : LH
  | _ => none

theorem dendronref02_From_eq (a_0 : WH) : fnF tb (envL e104) Tryz.f104 dendronref02_From_lh c104.ps c104.rs (T := (Bool × List Int)) (fun y => (y.2.1)) (a_0, ()) = dendronref02_From a_0 := by kernel_rfl

abbrev e62 : List (Nat × Ctr) := [(102, c102), (103, c103), (104, c104)]

def dendronref03_From_lh : LH
  | _ => none

theorem dendronref03_From_eq (a_0 : RAT) : fnF tb (envL e62) Tryz.f62 dendronref03_From_lh c62.ps c62.rs (T := ((Bool × List Int) × List Int)) (fun y => (y.2.1)) (a_0, ()) = dendronref03_From a_0 := by kernel_rfl

abbrev e128 : List (Nat × Ctr) := []

def dendronref01_Right_lh : LH
  | 4 => some ⟨dendronref01_Right_i2, dendronref01_Right_o2, lp dendronref01_Right_s2 K0⟩
  | _ => none

theorem dendronref01_Right_l2 (g : dendronref01_Right_i2.V → Option (OT dendronref01_Right_o2)) (v : dendronref01_Right_i2.V) : loopStep tb (envL e128) 27 dendronref01_Right_lh (loopAt 2 (bodyOf Tryz.f128) .skip) dendronref01_Right_i2 dendronref01_Right_o2 g v = dendronref01_Right_s2 g v := by kernel_rfl

theorem dendronref01_Right_eq (a_0 : List Int) : fnF tb (envL e128) Tryz.f128 dendronref01_Right_lh c128.ps c128.rs (T := Bool) (fun y => (y.2.1)) (a_0, ()) = dendronref01_Right a_0 := by kernel_rfl

abbrev e130 : List (Nat × Ctr) := []

def dendronref01_Order_lh : LH
  | 12 => some ⟨dendronref01_Order_i6, dendronref01_Order_o6, lp dendronref01_Order_s6 K0⟩
  | _ => none

theorem dendronref01_Order_l6 (g : dendronref01_Order_i6.V → Option (OT dendronref01_Order_o6)) (v : dendronref01_Order_i6.V) : loopStep tb (envL e130) 41 dendronref01_Order_lh (loopAt 6 (bodyOf Tryz.f130) .skip) dendronref01_Order_i6 dendronref01_Order_o6 g v = dendronref01_Order_s6 g v := by kernel_rfl

theorem dendronref01_Order_eq (a_0 : List Int) (b_1 : List Int) : fnF tb (envL e130) Tryz.f130 dendronref01_Order_lh c130.ps c130.rs (T := Int) (fun y => (y.2.1)) (a_0, b_1, ()) = dendronref01_Order a_0 b_1 := by kernel_rfl

abbrev e169 : List (Nat × Ctr) := [(159, c159), (160, c160)]

def dendronref01_Minus_lh : LH
  | 8 => some ⟨dendronref01_Minus_i4, dendronref01_Minus_o4, lp dendronref01_Minus_s4 K0⟩
  | _ => none

theorem dendronref01_Minus_l4 (g : dendronref01_Minus_i4.V → Option (OT dendronref01_Minus_o4)) (v : dendronref01_Minus_i4.V) : loopStep tb (envL e169) 35 dendronref01_Minus_lh (loopAt 4 (bodyOf Tryz.f169) .skip) dendronref01_Minus_i4 dendronref01_Minus_o4 g v = dendronref01_Minus_s4 g v := by kernel_rfl

theorem dendronref01_Minus_eq (a_0 : List Int) (b_1 : List Int) : fnF tb (envL e169) Tryz.f169 dendronref01_Minus_lh c169.ps c169.rs (T := (List Int)) (fun y => (y.2.1)) (a_0, b_1, ()) = dendronref01_Minus a_0 b_1 := by kernel_rfl

abbrev e158 : List (Nat × Ctr) := [(130, c130), (131, c131), (136, c136), (160, c160), (169, c169)]

def dendronref01_Over_lh : LH
  | 24 => some ⟨dendronref01_Over_i12, dendronref01_Over_o12, lp dendronref01_Over_s12 K0⟩
  | 8 => some ⟨dendronref01_Over_i4, dendronref01_Over_o4, lp dendronref01_Over_s4 K0⟩
  | _ => none

theorem dendronref01_Over_l12 (g : dendronref01_Over_i12.V → Option (OT dendronref01_Over_o12)) (v : dendronref01_Over_i12.V) : loopStep tb (envL e158) 65 dendronref01_Over_lh (loopAt 12 (bodyOf Tryz.f158) .skip) dendronref01_Over_i12 dendronref01_Over_o12 g v = dendronref01_Over_s12 g v := by kernel_rfl

theorem dendronref01_Over_l4 (g : dendronref01_Over_i4.V → Option (OT dendronref01_Over_o4)) (v : dendronref01_Over_i4.V) : loopStep tb (envL e158) 65 dendronref01_Over_lh (loopAt 4 (bodyOf Tryz.f158) .skip) dendronref01_Over_i4 dendronref01_Over_o4 g v = dendronref01_Over_s4 g v := by kernel_rfl

theorem dendronref01_Over_eq (a_0 : List Int) (a_1 : List Int) : fnF tb (envL e158) Tryz.f158 dendronref01_Over_lh c158.ps c158.rs (T := (List Int) × (List Int)) (fun y => (y.2.1, y.2.2.1)) (a_0, a_1, ()) = dendronref01_Over a_0 a_1 := by kernel_rfl

abbrev e129 : List (Nat × Ctr) := [(158, c158)]

def dendronref01_Gcd_lh : LH
  | 2 => some ⟨dendronref01_Gcd_i1, dendronref01_Gcd_o1, lp dendronref01_Gcd_s1 K0⟩
  | _ => none

theorem dendronref01_Gcd_l1 (g : dendronref01_Gcd_i1.V → Option (OT dendronref01_Gcd_o1)) (v : dendronref01_Gcd_i1.V) : loopStep tb (envL e129) 19 dendronref01_Gcd_lh (loopAt 1 (bodyOf Tryz.f129) .skip) dendronref01_Gcd_i1 dendronref01_Gcd_o1 g v = dendronref01_Gcd_s1 g v := by kernel_rfl

theorem dendronref01_Gcd_eq (a_0 : List Int) (b_1 : List Int) : fnF tb (envL e129) Tryz.f129 dendronref01_Gcd_lh c129.ps c129.rs (T := (List Int)) (fun y => (y.2.1)) (a_0, b_1, ()) = dendronref01_Gcd a_0 b_1 := by kernel_rfl

abbrev e100 : List (Nat × Ctr) := [(102, c102), (128, c128), (129, c129), (130, c130), (131, c131)]

def dendronref03_Right_lh : LH
  | _ => none

theorem dendronref03_Right_eq (a_0 : RAT) : fnF tb (envL e100) Tryz.f100 dendronref03_Right_lh c100.ps c100.rs (T := Bool) (fun y => (y.2.1)) (a_0, ()) = dendronref03_Right a_0 := by kernel_rfl

abbrev e132 : List (Nat × Ctr) := [(130, c130)]

def dendronref02_Order_lh : LH
  | _ => none

theorem dendronref02_Order_eq (a_0 : Bool × List Int) (b_1 : Bool × List Int) : fnF tb (envL e132) Tryz.f132 dendronref02_Order_lh c132.ps c132.rs (T := Int) (fun y => (y.2.1)) (a_0, b_1, ()) = dendronref02_Order a_0 b_1 := by kernel_rfl

abbrev e133 : List (Nat × Ctr) := [(136, c136), (138, c138)]

def dendronref02_Times_lh : LH
  | _ => none

theorem dendronref02_Times_eq (a_0 : Bool × List Int) (b_1 : Bool × List Int) : fnF tb (envL e133) Tryz.f133 dendronref02_Times_lh c133.ps c133.rs (T := (Bool × List Int)) (fun y => (y.2.1)) (a_0, b_1, ()) = dendronref02_Times a_0 b_1 := by kernel_rfl

abbrev e134 : List (Nat × Ctr) := [(138, c138)]

def dendronref03_den_lh : LH
  | _ => none

theorem dendronref03_den_eq (a_0 : (Bool × List Int) × List Int) : fnF tb (envL e134) Tryz.f134 dendronref03_den_lh c134.ps c134.rs (T := (Bool × List Int)) (fun y => (y.2.1)) (a_0, ()) = dendronref03_den a_0 := by kernel_rfl

abbrev e101 : List (Nat × Ctr) := [(132, c132), (133, c133), (134, c134)]

def dendronref03_Order_lh : LH
  | _ => none

theorem dendronref03_Order_eq (a_0 : (Bool × List Int) × List Int) (b_1 : (Bool × List Int) × List Int) : fnF tb (envL e101) Tryz.f101 dendronref03_Order_lh c101.ps c101.rs (T := Int) (fun y => (y.2.1)) (a_0, b_1, ()) = dendronref03_Order a_0 b_1 := by kernel_rfl

abbrev e61 : List (Nat × Ctr) := [(62, c62), (100, c100), (101, c101)]

def dendronref03_Is_lh : LH
  | _ => none

theorem dendronref03_Is_eq (a_0 : RAT) (x_1 : (Bool × List Int) × List Int) : fnF tb (envL e61) Tryz.f61 dendronref03_Is_lh c61.ps c61.rs (T := Bool) (fun y => (y.2.1)) (a_0, x_1, ()) = dendronref03_Is a_0 x_1 := by kernel_rfl

abbrev e26 : List (Nat × Ctr) := [(61, c61), (62, c62)]

def dendronref10_Is_lh : LH
  | _ => none

theorem dendronref10_Is_eq (a_0 : RAT) (b_1 : RAT) : fnF tb (envL e26) Tryz.f26 dendronref10_Is_lh c26.ps c26.rs (T := Bool) (fun y => (y.2.1)) (a_0, b_1, ()) = dendronref10_Is a_0 b_1 := by kernel_rfl

abbrev e5 : List (Nat × Ctr) := [(8, c8), (20, c20), (21, c21), (22, c22), (23, c23), (24, c24), (25, c25), (26, c26), (27, c27)]

def dendronlaw13_DependCurves_lh : LH
  | 22 => some ⟨dendronlaw13_DependCurves_i11, dendronlaw13_DependCurves_o11, lp dendronlaw13_DependCurves_s11 K0⟩
  | _ => none

theorem dendronlaw13_DependCurves_l11 (g : dendronlaw13_DependCurves_i11.V → Option (OT dendronlaw13_DependCurves_o11)) (v : dendronlaw13_DependCurves_i11.V) : loopStep tb (envL e5) 145 dendronlaw13_DependCurves_lh (loopAt 11 (bodyOf Tryz.f5) .skip) dendronlaw13_DependCurves_i11 dendronlaw13_DependCurves_o11 g v = dendronlaw13_DependCurves_s11 g v := by kernel_rfl

theorem dendronlaw13_DependCurves_eq (a_0 : MODEL) (a_1 : Int) (a_2 : CELL) : fnF tb (envL e5) Tryz.f5 dendronlaw13_DependCurves_lh c5.ps c5.rs (T := Bool) (fun y => (y.2.1)) (a_0, a_1, a_2, ()) = dendronlaw13_DependCurves a_0 a_1 a_2 := by kernel_rfl

end Go.Proofs.YtpjgaieoijpagaaGreatDoor.X

