/- Own work: part of the proof; the first line of each part says what it tells. -/
import Derived.Test.YtaonkcmflkmncaaGreatDoorLf6


namespace Go.Proofs.YtaonkcmflkmncaaGreatDoor.X
open Go
set_option linter.unusedVariables false
set_option linter.unusedSimpArgs false
set_option maxRecDepth 100000
abbrev e114 : List (Nat × Ctr) := []
def nat_trim_lh : LH
 | 4 => some ⟨nat_trim_i2, nat_trim_o2, lp nat_trim_s2 K0⟩
 | _ => none
theorem nat_trim_l2 (g : nat_trim_i2.V → Option (OT nat_trim_o2)) (v : nat_trim_i2.V) : loopStep tb (envL e114) 23 nat_trim_lh (loopAt 2 (bodyOf Tryz.f114) .skip) nat_trim_i2 nat_trim_o2 g v = nat_trim_s2 g v := by kernel_rfl
theorem nat_trim_eq (a_0 : List Int) : fnF tb (envL e114) Tryz.f114 nat_trim_lh c114.ps c114.rs (T := (List Int)) (fun y => (y.2.1)) (a_0, ()) = nat_trim a_0 := by kernel_rfl
abbrev e101 : List (Nat × Ctr) := [(114, c114)]
def nat_Clean_lh : LH
 | 6 => some ⟨nat_Clean_i3, nat_Clean_o3, lp nat_Clean_s3 K0⟩
 | _ => none
theorem nat_Clean_l3 (g : nat_Clean_i3.V → Option (OT nat_Clean_o3)) (v : nat_Clean_i3.V) : loopStep tb (envL e101) 24 nat_Clean_lh (loopAt 3 (bodyOf Tryz.f101) .skip) nat_Clean_i3 nat_Clean_o3 g v = nat_Clean_s3 g v := by kernel_rfl
theorem nat_Clean_eq (a_0 : List Int) : fnF tb (envL e101) Tryz.f101 nat_Clean_lh c101.ps c101.rs (T := (List Int)) (fun y => (y.2.1)) (a_0, ()) = nat_Clean a_0 := by kernel_rfl
abbrev e117 : List (Nat × Ctr) := []
def whole_sign_lh : LH
 | _ => none
theorem whole_sign_eq (neg_0 : Bool) (abs_1 : List Int) : fnF tb (envL e117) Tryz.f117 whole_sign_lh c117.ps c117.rs (T := WH) (fun y => (y.2.1)) (neg_0, abs_1, ()) = whole_sign neg_0 abs_1 := by kernel_rfl
abbrev e100 : List (Nat × Ctr) := [(101, c101), (117, c117)]
def whole_Clean_lh : LH
 | _ => none
theorem whole_Clean_eq (a_0 : WH) : fnF tb (envL e100) Tryz.f100 whole_Clean_lh c100.ps c100.rs (T := WH) (fun y => (y.2.1)) (a_0, ()) = whole_Clean a_0 := by kernel_rfl
abbrev e54 : List (Nat × Ctr) := [(100, c100)]
def whole_Sign_lh : LH
 | _ => none
theorem whole_Sign_eq (a_0 : WH) : fnF tb (envL e54) Tryz.f54 whole_Sign_lh c54.ps c54.rs (T := Int) (fun y => (y.2.1)) (a_0, ()) = whole_Sign a_0 := by kernel_rfl
abbrev e70 : List (Nat × Ctr) := [(114, c114)]
def nat_Of_lh : LH
 | _ => none
theorem nat_Of_eq (n_0 : Int) : fnF tb (envL e70) Tryz.f70 nat_Of_lh c70.ps c70.rs (T := (List Int)) (fun y => (y.2.1)) (n_0, ()) = nat_Of n_0 := by kernel_rfl
abbrev e24 : List (Nat × Ctr) := [(70, c70)]
def ratio_Zero_lh : LH
 | _ => none
theorem ratio_Zero_eq  : fnF tb (envL e24) Tryz.f24 ratio_Zero_lh c24.ps c24.rs (T := RAT) (fun y => (y.2.1)) () = ratio_Zero  := by kernel_rfl
abbrev e166 : List (Nat × Ctr) := [(101, c101)]
def nat_To_lh : LH
 | _ => none
theorem nat_To_eq (a_0 : List Int) : fnF tb (envL e166) Tryz.f166 nat_To_lh c166.ps c166.rs (T := Int × Bool) (fun y => (y.2.1, y.2.2.1)) (a_0, ()) = nat_To a_0 := by kernel_rfl
abbrev e144 : List (Nat × Ctr) := [(70, c70), (166, c166)]
def nat_euclid_lh : LH
 | 6 => some ⟨nat_euclid_i3, nat_euclid_o3, lp nat_euclid_s3 K0⟩
 | _ => none
theorem nat_euclid_l3 (g : nat_euclid_i3.V → Option (OT nat_euclid_o3)) (v : nat_euclid_i3.V) : loopStep tb (envL e144) 27 nat_euclid_lh (loopAt 3 (bodyOf Tryz.f144) .skip) nat_euclid_i3 nat_euclid_o3 g v = nat_euclid_s3 g v := by kernel_rfl
theorem nat_euclid_eq (a_0 : List Int) (b_1 : List Int) : fnF tb (envL e144) Tryz.f144 nat_euclid_lh c144.ps c144.rs (T := (List Int)) (fun y => (y.2.1)) (a_0, b_1, ()) = nat_euclid a_0 b_1 := by kernel_rfl
abbrev e145 : List (Nat × Ctr) := [(167, c167)]
def nat_zeros_lh : LH
 | 6 => some ⟨nat_zeros_i3, nat_zeros_o3, lp nat_zeros_s3 K0⟩
 | _ => none
theorem nat_zeros_l3 (g : nat_zeros_i3.V → Option (OT nat_zeros_o3)) (v : nat_zeros_i3.V) : loopStep tb (envL e145) 24 nat_zeros_lh (loopAt 3 (bodyOf Tryz.f145) .skip) nat_zeros_i3 nat_zeros_o3 g v = nat_zeros_s3 g v := by kernel_rfl
theorem nat_zeros_eq (a_0 : List Int) : fnF tb (envL e145) Tryz.f145 nat_zeros_lh c145.ps c145.rs (T := Int) (fun y => (y.2.1)) (a_0, ()) = nat_zeros a_0 := by kernel_rfl
abbrev e153 : List (Nat × Ctr) := []
def nat_limb_lh : LH
 | _ => none
theorem nat_limb_eq (a_0 : List Int) (i_1 : Int) : fnF tb (envL e153) Tryz.f153 nat_limb_lh c153.ps c153.rs (T := Int) (fun y => (y.2.1)) (a_0, i_1, ()) = nat_limb a_0 i_1 := by kernel_rfl
abbrev e146 : List (Nat × Ctr) := [(114, c114), (153, c153)]
def nat_shr_lh : LH
 | 12 => some ⟨nat_shr_i6, nat_shr_o6, lp nat_shr_s6 K0⟩
 | _ => none
theorem nat_shr_l6 (g : nat_shr_i6.V → Option (OT nat_shr_o6)) (v : nat_shr_i6.V) : loopStep tb (envL e146) 50 nat_shr_lh (loopAt 6 (bodyOf Tryz.f146) .skip) nat_shr_i6 nat_shr_o6 g v = nat_shr_s6 g v := by kernel_rfl
theorem nat_shr_eq (a_0 : List Int) (n_1 : Int) : fnF tb (envL e146) Tryz.f146 nat_shr_lh c146.ps c146.rs (T := (List Int)) (fun y => (y.2.1)) (a_0, n_1, ()) = nat_shr a_0 n_1 := by kernel_rfl
abbrev e147 : List (Nat × Ctr) := []
def nat_order_lh : LH
 | 12 => some ⟨nat_order_i6, nat_order_o6, lp nat_order_s6 K0⟩
 | _ => none
theorem nat_order_l6 (g : nat_order_i6.V → Option (OT nat_order_o6)) (v : nat_order_i6.V) : loopStep tb (envL e147) 45 nat_order_lh (loopAt 6 (bodyOf Tryz.f147) .skip) nat_order_i6 nat_order_o6 g v = nat_order_s6 g v := by kernel_rfl
theorem nat_order_eq (a_0 : List Int) (b_1 : List Int) : fnF tb (envL e147) Tryz.f147 nat_order_lh c147.ps c147.rs (T := Int) (fun y => (y.2.1)) (a_0, b_1, ()) = nat_order a_0 b_1 := by kernel_rfl
abbrev e148 : List (Nat × Ctr) := [(114, c114)]
def nat_shl_lh : LH
 | 8 => some ⟨nat_shl_i4, nat_shl_o4, lp nat_shl_s4 K0⟩
 | _ => none
theorem nat_shl_l4 (g : nat_shl_i4.V → Option (OT nat_shl_o4)) (v : nat_shl_i4.V) : loopStep tb (envL e148) 51 nat_shl_lh (loopAt 4 (bodyOf Tryz.f148) .skip) nat_shl_i4 nat_shl_o4 g v = nat_shl_s4 g v := by kernel_rfl
theorem nat_shl_eq (a_0 : List Int) (n_1 : Int) : fnF tb (envL e148) Tryz.f148 nat_shl_lh c148.ps c148.rs (T := (List Int)) (fun y => (y.2.1)) (a_0, n_1, ()) = nat_shl a_0 n_1 := by kernel_rfl
abbrev e151 : List (Nat × Ctr) := [(114, c114)]
def nat_small_lh : LH
 | 8 => some ⟨nat_small_i4, nat_small_o4, lp nat_small_s4 K0⟩
 | _ => none
theorem nat_small_l4 (g : nat_small_i4.V → Option (OT nat_small_o4)) (v : nat_small_i4.V) : loopStep tb (envL e151) 38 nat_small_lh (loopAt 4 (bodyOf Tryz.f151) .skip) nat_small_i4 nat_small_o4 g v = nat_small_s4 g v := by kernel_rfl
theorem nat_small_eq (a_0 : List Int) (d_1 : Int) : fnF tb (envL e151) Tryz.f151 nat_small_lh c151.ps c151.rs (T := (List Int) × Int) (fun y => (y.2.1, y.2.2.1)) (a_0, d_1, ()) = nat_small a_0 d_1 := by kernel_rfl
abbrev e168 : List (Nat × Ctr) := [(174, c174)]
def bits_LeadingZeros32_lh : LH
 | _ => none
theorem bits_LeadingZeros32_eq (x_0 : Int) : fnF tb (envL e168) Tryz.f168 bits_LeadingZeros32_lh c168.ps c168.rs (T := Int) (fun y => (y.2.1)) (x_0, ()) = bits_LeadingZeros32 x_0 := by kernel_rfl
abbrev e175 : List (Nat × Ctr) := [(153, c153)]
def nat_take_lh : LH
 | 6 => some ⟨nat_take_i3, nat_take_o3, lp nat_take_s3 K0⟩
 | _ => none
theorem nat_take_l3 (g : nat_take_i3.V → Option (OT nat_take_o3)) (v : nat_take_i3.V) : loopStep tb (envL e175) 46 nat_take_lh (loopAt 3 (bodyOf Tryz.f175) .skip) nat_take_i3 nat_take_o3 g v = nat_take_s3 g v := by kernel_rfl
theorem nat_take_eq (u_0 : List Int) (v_1 : List Int) (times_2 : Int) : fnF tb (envL e175) Tryz.f175 nat_take_lh c175.ps c175.rs (T := (List Int) × Bool) (fun y => (y.1.1, y.2.1)) (u_0, v_1, times_2, ()) = nat_take u_0 v_1 times_2 := by kernel_rfl
abbrev e176 : List (Nat × Ctr) := [(153, c153)]
def nat_give_lh : LH
 | 4 => some ⟨nat_give_i2, nat_give_o2, lp nat_give_s2 K0⟩
 | _ => none
theorem nat_give_l2 (g : nat_give_i2.V → Option (OT nat_give_o2)) (v : nat_give_i2.V) : loopStep tb (envL e176) 29 nat_give_lh (loopAt 2 (bodyOf Tryz.f176) .skip) nat_give_i2 nat_give_o2 g v = nat_give_s2 g v := by kernel_rfl
theorem nat_give_eq (u_0 : List Int) (v_1 : List Int) : fnF tb (envL e176) Tryz.f176 nat_give_lh c176.ps c176.rs (T := (List Int)) (fun y => (y.1.1)) (u_0, v_1, ()) = nat_give u_0 v_1 := by kernel_rfl
abbrev e169 : List (Nat × Ctr) := [(175, c175), (176, c176)]
def nat_digit_lh : LH
 | 8 => some ⟨nat_digit_i4, nat_digit_o4, lp nat_digit_s4 K0⟩
 | _ => none
theorem nat_digit_l4 (g : nat_digit_i4.V → Option (OT nat_digit_o4)) (v : nat_digit_i4.V) : loopStep tb (envL e169) 77 nat_digit_lh (loopAt 4 (bodyOf Tryz.f169) .skip) nat_digit_i4 nat_digit_o4 g v = nat_digit_s4 g v := by kernel_rfl
theorem nat_digit_eq (a_0 : List Int) (a_1 : List Int) : fnF tb (envL e169) Tryz.f169 nat_digit_lh c169.ps c169.rs (T := (List Int) × Int) (fun y => (y.1.1, y.2.1)) (a_0, a_1, ()) = nat_digit a_0 a_1 := by kernel_rfl
abbrev e152 : List (Nat × Ctr) := [(114, c114), (146, c146), (148, c148), (168, c168), (169, c169)]
def nat_long_lh : LH
 | 14 => some ⟨nat_long_i7, nat_long_o7, lp nat_long_s7 K0⟩
 | _ => none
theorem nat_long_l7 (g : nat_long_i7.V → Option (OT nat_long_o7)) (v : nat_long_i7.V) : loopStep tb (envL e152) 64 nat_long_lh (loopAt 7 (bodyOf Tryz.f152) .skip) nat_long_i7 nat_long_o7 g v = nat_long_s7 g v := by kernel_rfl
theorem nat_long_eq (a_0 : List Int) (b_1 : List Int) : fnF tb (envL e152) Tryz.f152 nat_long_lh c152.ps c152.rs (T := (List Int) × (List Int)) (fun y => (y.2.1, y.2.2.1)) (a_0, b_1, ()) = nat_long a_0 b_1 := by kernel_rfl
abbrev e116 : List (Nat × Ctr) := [(70, c70), (101, c101), (147, c147), (151, c151), (152, c152)]
def nat_DivMod_lh : LH
 | _ => none
theorem nat_DivMod_eq (a_0 : List Int) (b_1 : List Int) : fnF tb (envL e116) Tryz.f116 nat_DivMod_lh c116.ps c116.rs (T := (List Int) × (List Int) × Int) (fun y => (y.2.1, y.2.2.1, y.2.2.2.1)) (a_0, b_1, ()) = nat_DivMod a_0 b_1 := by kernel_rfl
abbrev e149 : List (Nat × Ctr) := [(116, c116)]
def nat_rest_lh : LH
 | _ => none
theorem nat_rest_eq (a_0 : List Int) (b_1 : List Int) : fnF tb (envL e149) Tryz.f149 nat_rest_lh c149.ps c149.rs (T := (List Int) × (List Int)) (fun y => (y.2.1, y.2.2.1)) (a_0, b_1, ()) = nat_rest a_0 b_1 := by kernel_rfl
abbrev e150 : List (Nat × Ctr) := [(114, c114), (153, c153)]
def nat_minus_lh : LH
 | 8 => some ⟨nat_minus_i4, nat_minus_o4, lp nat_minus_s4 K0⟩
 | _ => none
theorem nat_minus_l4 (g : nat_minus_i4.V → Option (OT nat_minus_o4)) (v : nat_minus_i4.V) : loopStep tb (envL e150) 39 nat_minus_lh (loopAt 4 (bodyOf Tryz.f150) .skip) nat_minus_i4 nat_minus_o4 g v = nat_minus_s4 g v := by kernel_rfl
theorem nat_minus_eq (a_0 : List Int) (b_1 : List Int) : fnF tb (envL e150) Tryz.f150 nat_minus_lh c150.ps c150.rs (T := (List Int)) (fun y => (y.2.1)) (a_0, b_1, ()) = nat_minus a_0 b_1 := by kernel_rfl
abbrev e115 : List (Nat × Ctr) := [(101, c101), (144, c144), (145, c145), (146, c146), (147, c147), (148, c148), (149, c149), (150, c150)]
def nat_Gcd_lh : LH
 | 20 => some ⟨nat_Gcd_i10, nat_Gcd_o10, lp nat_Gcd_s10 K0⟩
 | _ => none
theorem nat_Gcd_l10 (g : nat_Gcd_i10.V → Option (OT nat_Gcd_o10)) (v : nat_Gcd_i10.V) : loopStep tb (envL e115) 86 nat_Gcd_lh (loopAt 10 (bodyOf Tryz.f115) .skip) nat_Gcd_i10 nat_Gcd_o10 g v = nat_Gcd_s10 g v := by kernel_rfl
theorem nat_Gcd_eq (a_0 : List Int) (a_1 : List Int) : fnF tb (envL e115) Tryz.f115 nat_Gcd_lh c115.ps c115.rs (T := (List Int)) (fun y => (y.2.1)) (a_0, a_1, ()) = nat_Gcd a_0 a_1 := by kernel_rfl
abbrev e72 : List (Nat × Ctr) := [(70, c70), (115, c115), (116, c116)]
def ratio_form_lh : LH
 | _ => none
theorem ratio_form_eq (num_0 : WH) (den_1 : List Int) : fnF tb (envL e72) Tryz.f72 ratio_form_lh c72.ps c72.rs (T := RAT) (fun y => (y.2.1)) (num_0, den_1, ()) = ratio_form num_0 den_1 := by kernel_rfl
abbrev e55 : List (Nat × Ctr) := [(24, c24), (72, c72), (100, c100), (101, c101)]
def ratio_Clean_lh : LH
 | _ => none
theorem ratio_Clean_eq (a_0 : RAT) : fnF tb (envL e55) Tryz.f55 ratio_Clean_lh c55.ps c55.rs (T := RAT) (fun y => (y.2.1)) (a_0, ()) = ratio_Clean a_0 := by kernel_rfl
abbrev e15 : List (Nat × Ctr) := [(54, c54), (55, c55)]
def ratio_Sign_lh : LH
 | _ => none
theorem ratio_Sign_eq (a_0 : RAT) : fnF tb (envL e15) Tryz.f15 ratio_Sign_lh c15.ps c15.rs (T := Int) (fun y => (y.2.1)) (a_0, ()) = ratio_Sign a_0 := by kernel_rfl
abbrev e81 : List (Nat × Ctr) := []
def dendronlaw09_number_lh : LH
 | _ => none
theorem dendronlaw09_number_eq (a_0 : RAT) : fnF tb (envL e81) Tryz.f81 dendronlaw09_number_lh c81.ps c81.rs (T := RAT) (fun y => (y.2.1)) (a_0, ()) = dendronlaw09_number a_0 := by kernel_rfl
abbrev e31 : List (Nat × Ctr) := [(81, c81)]
def dendronlaw09_Few_lh : LH
 | 6 => some ⟨dendronlaw09_Few_i3, dendronlaw09_Few_o3, lp dendronlaw09_Few_s3 K0⟩
 | _ => none
theorem dendronlaw09_Few_l3 (g : dendronlaw09_Few_i3.V → Option (OT dendronlaw09_Few_o3)) (v : dendronlaw09_Few_i3.V) : loopStep tb (envL e31) 32 dendronlaw09_Few_lh (loopAt 3 (bodyOf Tryz.f31) .skip) dendronlaw09_Few_i3 dendronlaw09_Few_o3 g v = dendronlaw09_Few_s3 g v := by kernel_rfl
theorem dendronlaw09_Few_eq (l_0 : List CELL) (n_1 : Int) : fnF tb (envL e31) Tryz.f31 dendronlaw09_Few_lh c31.ps c31.rs (T := (List CELL)) (fun y => (y.2.1)) (l_0, n_1, ()) = dendronlaw09_Few l_0 n_1 := by kernel_rfl
abbrev e110 : List (Nat × Ctr) := []
def dendronlaw07_number_lh : LH
 | _ => none
theorem dendronlaw07_number_eq (a_0 : RAT) : fnF tb (envL e110) Tryz.f110 dendronlaw07_number_lh c110.ps c110.rs (T := RAT) (fun y => (y.2.1)) (a_0, ()) = dendronlaw07_number a_0 := by kernel_rfl
abbrev e67 : List (Nat × Ctr) := [(110, c110)]
def dendronlaw07_Few_lh : LH
 | 14 => some ⟨dendronlaw07_Few_i7, dendronlaw07_Few_o7, lp dendronlaw07_Few_s7 K0⟩
 | 6 => some ⟨dendronlaw07_Few_i3, dendronlaw07_Few_o3, lp dendronlaw07_Few_s3 K0⟩
 | _ => none
theorem dendronlaw07_Few_l7 (g : dendronlaw07_Few_i7.V → Option (OT dendronlaw07_Few_o7)) (v : dendronlaw07_Few_i7.V) : loopStep tb (envL e67) 67 dendronlaw07_Few_lh (loopAt 7 (bodyOf Tryz.f67) .skip) dendronlaw07_Few_i7 dendronlaw07_Few_o7 g v = dendronlaw07_Few_s7 g v := by kernel_rfl
theorem dendronlaw07_Few_l3 (g : dendronlaw07_Few_i3.V → Option (OT dendronlaw07_Few_o3)) (v : dendronlaw07_Few_i3.V) : loopStep tb (envL e67) 67 dendronlaw07_Few_lh (loopAt 3 (bodyOf Tryz.f67) .skip) dendronlaw07_Few_i3 dendronlaw07_Few_o3 g v = dendronlaw07_Few_s3 g v := by kernel_rfl
theorem dendronlaw07_Few_eq (a_0 : MODEL) : fnF tb (envL e67) Tryz.f67 dendronlaw07_Few_lh c67.ps c67.rs (T := MODEL) (fun y => (y.2.1)) (a_0, ()) = dendronlaw07_Few a_0 := by kernel_rfl
abbrev e22 : List (Nat × Ctr) := [(31, c31), (67, c67)]
def dendronlaw11_Small_lh : LH
 | _ => none
theorem dendronlaw11_Small_eq (m_0 : MODEL) (row_1 : List CELL) : fnF tb (envL e22) Tryz.f22 dendronlaw11_Small_lh c22.ps c22.rs (T := MODEL × (List CELL)) (fun y => (y.2.1, y.2.2.1)) (m_0, row_1, ()) = dendronlaw11_Small m_0 row_1 := by kernel_rfl
abbrev e76 : List (Nat × Ctr) := [(101, c101), (114, c114)]
def nat_Mul_lh : LH
 | 16 => some ⟨nat_Mul_i8, nat_Mul_o8, lp nat_Mul_s8 K0⟩
 | 8 => some ⟨nat_Mul_i4, nat_Mul_o4, lp nat_Mul_s4 K0⟩
 | _ => none
theorem nat_Mul_l8 (g : nat_Mul_i8.V → Option (OT nat_Mul_o8)) (v : nat_Mul_i8.V) : loopStep tb (envL e76) 67 nat_Mul_lh (loopAt 8 (bodyOf Tryz.f76) .skip) nat_Mul_i8 nat_Mul_o8 g v = nat_Mul_s8 g v := by kernel_rfl
theorem nat_Mul_l4 (g : nat_Mul_i4.V → Option (OT nat_Mul_o4)) (v : nat_Mul_i4.V) : loopStep tb (envL e76) 67 nat_Mul_lh (loopAt 4 (bodyOf Tryz.f76) .skip) nat_Mul_i4 nat_Mul_o4 g v = nat_Mul_s4 g v := by kernel_rfl
theorem nat_Mul_eq (a_0 : List Int) (a_1 : List Int) : fnF tb (envL e76) Tryz.f76 nat_Mul_lh c76.ps c76.rs (T := (List Int)) (fun y => (y.2.1)) (a_0, a_1, ()) = nat_Mul a_0 a_1 := by kernel_rfl
abbrev e74 : List (Nat × Ctr) := [(76, c76), (100, c100), (117, c117)]
def whole_Mul_lh : LH
 | _ => none
theorem whole_Mul_eq (a_0 : WH) (b_1 : WH) : fnF tb (envL e74) Tryz.f74 whole_Mul_lh c74.ps c74.rs (T := WH) (fun y => (y.2.1)) (a_0, b_1, ()) = whole_Mul a_0 b_1 := by kernel_rfl
abbrev e75 : List (Nat × Ctr) := []
def ratio_den_lh : LH
 | _ => none
theorem ratio_den_eq (a_0 : RAT) : fnF tb (envL e75) Tryz.f75 ratio_den_lh c75.ps c75.rs (T := WH) (fun y => (y.2.1)) (a_0, ()) = ratio_den a_0 := by kernel_rfl
abbrev e119 : List (Nat × Ctr) := [(101, c101), (147, c147)]
def nat_Cmp_lh : LH
 | _ => none
theorem nat_Cmp_eq (a_0 : List Int) (b_1 : List Int) : fnF tb (envL e119) Tryz.f119 nat_Cmp_lh c119.ps c119.rs (T := Int) (fun y => (y.2.1)) (a_0, b_1, ()) = nat_Cmp a_0 b_1 := by kernel_rfl
abbrev e124 : List (Nat × Ctr) := [(100, c100), (119, c119)]
def whole_Cmp_lh : LH
 | _ => none
theorem whole_Cmp_eq (a_0 : WH) (b_1 : WH) : fnF tb (envL e124) Tryz.f124 whole_Cmp_lh c124.ps c124.rs (T := Int) (fun y => (y.2.1)) (a_0, b_1, ()) = whole_Cmp a_0 b_1 := by kernel_rfl
abbrev e80 : List (Nat × Ctr) := [(55, c55), (74, c74), (75, c75), (124, c124)]
def ratio_Cmp_lh : LH
 | _ => none
theorem ratio_Cmp_eq (a_0 : RAT) (b_1 : RAT) : fnF tb (envL e80) Tryz.f80 ratio_Cmp_lh c80.ps c80.rs (T := Int) (fun y => (y.2.1)) (a_0, b_1, ()) = ratio_Cmp a_0 b_1 := by kernel_rfl
abbrev e30 : List (Nat × Ctr) := [(80, c80)]
def ratio_Same_lh : LH
 | _ => none
theorem ratio_Same_eq (a_0 : RAT) (b_1 : RAT) : fnF tb (envL e30) Tryz.f30 ratio_Same_lh c30.ps c30.rs (T := Bool) (fun y => (y.2.1)) (a_0, b_1, ()) = ratio_Same a_0 b_1 := by kernel_rfl
abbrev e63 : List (Nat × Ctr) := []
def weigh_New_lh : LH
 | _ => none
theorem weigh_New_eq  : fnFB tb (envL e63) Tryz.f63 weigh_New_lh w63 c63.ps c63.rs (T := Int × Int × Int × (List WH)) (fun y => (y.2.1, y.2.2.1, y.2.2.2.1, y.2.2.2.2.1)) () = weigh_New  := by kernel_rfl
abbrev e154 : List (Nat × Ctr) := []
def model_Fits_lh : LH
 | 18 => some ⟨model_Fits_i9, model_Fits_o9, lp model_Fits_s9 K0⟩
 | 8 => some ⟨model_Fits_i4, model_Fits_o4, lp model_Fits_s4 K0⟩
 | _ => none
theorem model_Fits_l9 (g : model_Fits_i9.V → Option (OT model_Fits_o9)) (v : model_Fits_i9.V) : loopStep tb (envL e154) 72 model_Fits_lh (loopAt 9 (bodyOf Tryz.f154) .skip) model_Fits_i9 model_Fits_o9 g v = model_Fits_s9 g v := by kernel_rfl
theorem model_Fits_l4 (g : model_Fits_i4.V → Option (OT model_Fits_o4)) (v : model_Fits_i4.V) : loopStep tb (envL e154) 72 model_Fits_lh (loopAt 4 (bodyOf Tryz.f154) .skip) model_Fits_i4 model_Fits_o4 g v = model_Fits_s4 g v := by kernel_rfl
theorem model_Fits_eq (a_0 : MODEL) : fnF tb (envL e154) Tryz.f154 model_Fits_lh c154.ps c154.rs (T := Bool) (fun y => (y.2.1)) (a_0, ()) = model_Fits a_0 := by kernel_rfl
abbrev e155 : List (Nat × Ctr) := []
def valid_ranges_lh : LH
 | 4 => some ⟨valid_ranges_i2, valid_ranges_o2, lp valid_ranges_s2 K0⟩
 | _ => none
theorem valid_ranges_l2 (g : valid_ranges_i2.V → Option (OT valid_ranges_o2)) (v : valid_ranges_i2.V) : loopStep tb (envL e155) 52 valid_ranges_lh (loopAt 2 (bodyOf Tryz.f155) .skip) valid_ranges_i2 valid_ranges_o2 g v = valid_ranges_s2 g v := by kernel_rfl
theorem valid_ranges_eq (t_0 : List NODE) (features_1 : Int) : fnF tb (envL e155) Tryz.f155 valid_ranges_lh c155.ps c155.rs (T := Int × Int) (fun y => (y.2.1, y.2.2.1)) (t_0, features_1, ()) = valid_ranges t_0 features_1 := by kernel_rfl
abbrev e156 : List (Nat × Ctr) := []
def valid_shape_lh : LH
 | 6 => some ⟨valid_shape_i3, valid_shape_o3, lp valid_shape_s3 K0⟩
 | 20 => some ⟨valid_shape_i10, valid_shape_o10, lp valid_shape_s10 K0⟩
 | 34 => some ⟨valid_shape_i17, valid_shape_o17, lp valid_shape_s17 K0⟩
 | 50 => some ⟨valid_shape_i25, valid_shape_o25, lp valid_shape_s25 K0⟩
 | _ => none
theorem valid_shape_l3 (g : valid_shape_i3.V → Option (OT valid_shape_o3)) (v : valid_shape_i3.V) : loopStep tb (envL e156) 103 valid_shape_lh (loopAt 3 (bodyOf Tryz.f156) .skip) valid_shape_i3 valid_shape_o3 g v = valid_shape_s3 g v := by kernel_rfl
theorem valid_shape_l10 (g : valid_shape_i10.V → Option (OT valid_shape_o10)) (v : valid_shape_i10.V) : loopStep tb (envL e156) 103 valid_shape_lh (loopAt 10 (bodyOf Tryz.f156) .skip) valid_shape_i10 valid_shape_o10 g v = valid_shape_s10 g v := by kernel_rfl
theorem valid_shape_l17 (g : valid_shape_i17.V → Option (OT valid_shape_o17)) (v : valid_shape_i17.V) : loopStep tb (envL e156) 103 valid_shape_lh (loopAt 17 (bodyOf Tryz.f156) .skip) valid_shape_i17 valid_shape_o17 g v = valid_shape_s17 g v := by kernel_rfl
theorem valid_shape_l25 (g : valid_shape_i25.V → Option (OT valid_shape_o25)) (v : valid_shape_i25.V) : loopStep tb (envL e156) 103 valid_shape_lh (loopAt 25 (bodyOf Tryz.f156) .skip) valid_shape_i25 valid_shape_o25 g v = valid_shape_s25 g v := by kernel_rfl
theorem valid_shape_eq (a_0 : List NODE) : fnF tb (envL e156) Tryz.f156 valid_shape_lh c156.ps c156.rs (T := Int × Int) (fun y => (y.2.1, y.2.2.1)) (a_0, ()) = valid_shape a_0 := by kernel_rfl
abbrev e157 : List (Nat × Ctr) := [(15, c15)]
def valid_covers_lh : LH
 | 4 => some ⟨valid_covers_i2, valid_covers_o2, lp valid_covers_s2 K0⟩
 | _ => none
theorem valid_covers_l2 (g : valid_covers_i2.V → Option (OT valid_covers_o2)) (v : valid_covers_i2.V) : loopStep tb (envL e157) 19 valid_covers_lh (loopAt 2 (bodyOf Tryz.f157) .skip) valid_covers_i2 valid_covers_o2 g v = valid_covers_s2 g v := by kernel_rfl
theorem valid_covers_eq (t_0 : List NODE) : fnF tb (envL e157) Tryz.f157 valid_covers_lh c157.ps c157.rs (T := Int × Int) (fun y => (y.2.1, y.2.2.1)) (t_0, ()) = valid_covers t_0 := by kernel_rfl
abbrev e118 : List (Nat × Ctr) := [(101, c101), (114, c114), (153, c153)]
def nat_Add_lh : LH
 | 10 => some ⟨nat_Add_i5, nat_Add_o5, lp nat_Add_s5 K0⟩
 | _ => none
theorem nat_Add_l5 (g : nat_Add_i5.V → Option (OT nat_Add_o5)) (v : nat_Add_i5.V) : loopStep tb (envL e118) 43 nat_Add_lh (loopAt 5 (bodyOf Tryz.f118) .skip) nat_Add_i5 nat_Add_o5 g v = nat_Add_s5 g v := by kernel_rfl
theorem nat_Add_eq (a_0 : List Int) (b_1 : List Int) : fnF tb (envL e118) Tryz.f118 nat_Add_lh c118.ps c118.rs (T := (List Int)) (fun y => (y.2.1)) (a_0, b_1, ()) = nat_Add a_0 b_1 := by kernel_rfl
abbrev e120 : List (Nat × Ctr) := [(101, c101), (147, c147), (150, c150)]
def nat_Sub_lh : LH
 | _ => none
theorem nat_Sub_eq (a_0 : List Int) (b_1 : List Int) : fnF tb (envL e120) Tryz.f120 nat_Sub_lh c120.ps c120.rs (T := (List Int) × Int) (fun y => (y.2.1, y.2.2.1)) (a_0, b_1, ()) = nat_Sub a_0 b_1 := by kernel_rfl
abbrev e73 : List (Nat × Ctr) := [(100, c100), (117, c117), (118, c118), (119, c119), (120, c120)]
def whole_Add_lh : LH
 | _ => none
theorem whole_Add_eq (a_0 : WH) (b_1 : WH) : fnF tb (envL e73) Tryz.f73 whole_Add_lh c73.ps c73.rs (T := WH) (fun y => (y.2.1)) (a_0, b_1, ()) = whole_Add a_0 b_1 := by kernel_rfl
abbrev e26 : List (Nat × Ctr) := [(55, c55), (72, c72), (73, c73), (74, c74), (75, c75), (76, c76)]
def ratio_Add_lh : LH
 | _ => none
theorem ratio_Add_eq (a_0 : RAT) (b_1 : RAT) : fnF tb (envL e26) Tryz.f26 ratio_Add_lh c26.ps c26.rs (T := RAT) (fun y => (y.2.1)) (a_0, b_1, ()) = ratio_Add a_0 b_1 := by kernel_rfl
abbrev e158 : List (Nat × Ctr) := [(26, c26), (30, c30)]
def valid_sums_lh : LH
 | 4 => some ⟨valid_sums_i2, valid_sums_o2, lp valid_sums_s2 K0⟩
 | _ => none
theorem valid_sums_l2 (g : valid_sums_i2.V → Option (OT valid_sums_o2)) (v : valid_sums_i2.V) : loopStep tb (envL e158) 37 valid_sums_lh (loopAt 2 (bodyOf Tryz.f158) .skip) valid_sums_i2 valid_sums_o2 g v = valid_sums_s2 g v := by kernel_rfl
theorem valid_sums_eq (t_0 : List NODE) : fnF tb (envL e158) Tryz.f158 valid_sums_lh c158.ps c158.rs (T := Int × Int) (fun y => (y.2.1, y.2.2.1)) (t_0, ()) = valid_sums t_0 := by kernel_rfl
abbrev e159 : List (Nat × Ctr) := []
def valid_fault_lh : LH
 | _ => none
theorem valid_fault_eq (e_0 : Int) (tree_1 : Int) (node_2 : Int) : fnF tb (envL e159) Tryz.f159 valid_fault_lh c159.ps c159.rs (T := (Int × Int × Int × Int)) (fun y => (y.2.1)) (e_0, tree_1, node_2, ()) = valid_fault e_0 tree_1 node_2 := by kernel_rfl
abbrev e121 : List (Nat × Ctr) := [(154, c154), (155, c155), (156, c156), (157, c157), (158, c158), (159, c159)]
def valid_Check_lh : LH
 | 14 => some ⟨valid_Check_i7, valid_Check_o7, lp valid_Check_s7 K0⟩
 | 8 => some ⟨valid_Check_i4, valid_Check_o4, lp valid_Check_s4 K0⟩
 | _ => none
theorem valid_Check_l7 (g : valid_Check_i7.V → Option (OT valid_Check_o7)) (v : valid_Check_i7.V) : loopStep tb (envL e121) 63 valid_Check_lh (loopAt 7 (bodyOf Tryz.f121) .skip) valid_Check_i7 valid_Check_o7 g v = valid_Check_s7 g v := by kernel_rfl
theorem valid_Check_l4 (g : valid_Check_i4.V → Option (OT valid_Check_o4)) (v : valid_Check_i4.V) : loopStep tb (envL e121) 63 valid_Check_lh (loopAt 4 (bodyOf Tryz.f121) .skip) valid_Check_i4 valid_Check_o4 g v = valid_Check_s4 g v := by kernel_rfl
theorem valid_Check_eq (m_0 : MODEL) : fnF tb (envL e121) Tryz.f121 valid_Check_lh c121.ps c121.rs (T := (Int × Int × Int × Int)) (fun y => (y.2.1)) (m_0, ()) = valid_Check m_0 := by kernel_rfl
abbrev e77 : List (Nat × Ctr) := [(121, c121)]
def valid_Ok_lh : LH
 | _ => none
theorem valid_Ok_eq (m_0 : MODEL) : fnF tb (envL e77) Tryz.f77 valid_Ok_lh c77.ps c77.rs (T := Bool) (fun y => (y.2.1)) (m_0, ()) = valid_Ok m_0 := by kernel_rfl
abbrev e95 : List (Nat × Ctr) := [(77, c77)]
def route_fits_lh : LH
 | _ => none
theorem route_fits_eq (m_0 : MODEL) (row_1 : List CELL) : fnF tb (envL e95) Tryz.f95 route_fits_lh c95.ps c95.rs (T := Int) (fun y => (y.2.1)) (m_0, row_1, ()) = route_fits m_0 row_1 := by kernel_rfl
abbrev e78 : List (Nat × Ctr) := [(95, c95)]
def route_Fits_lh : LH
 | _ => none
theorem route_Fits_eq (m_0 : MODEL) (row_1 : List CELL) : fnF tb (envL e78) Tryz.f78 route_Fits_lh c78.ps c78.rs (T := Int) (fun y => (y.2.1)) (m_0, row_1, ()) = route_Fits m_0 row_1 := by kernel_rfl
abbrev e82 : List (Nat × Ctr) := [(78, c78)]
def versus_fits_lh : LH
 | 10 => some ⟨versus_fits_i5, versus_fits_o5, lp versus_fits_s5 K0⟩
 | _ => none
theorem versus_fits_l5 (g : versus_fits_i5.V → Option (OT versus_fits_o5)) (v : versus_fits_i5.V) : loopStep tb (envL e82) 33 versus_fits_lh (loopAt 5 (bodyOf Tryz.f82) .skip) versus_fits_i5 versus_fits_o5 g v = versus_fits_s5 g v := by kernel_rfl
theorem versus_fits_eq (m_0 : MODEL) (row_1 : List CELL) (l_2 : List (List CELL)) : fnF tb (envL e82) Tryz.f82 versus_fits_lh c82.ps c82.rs (T := Int) (fun y => (y.2.1)) (m_0, row_1, l_2, ()) = versus_fits m_0 row_1 l_2 := by kernel_rfl
abbrev e68 : List (Nat × Ctr) := [(77, c77)]
def valid_Tree_lh : LH
 | _ => none
theorem valid_Tree_eq (t_0 : List NODE) (features_1 : Int) : fnF tb (envL e68) Tryz.f68 valid_Tree_lh c68.ps c68.rs (T := Bool) (fun y => (y.2.1)) (t_0, features_1, ()) = valid_Tree t_0 features_1 := by kernel_rfl
abbrev e142 : List (Nat × Ctr) := [(80, c80)]
def route_goes_lh : LH
 | _ => none
theorem route_goes_eq (n_0 : NODE) (c_1 : CELL) : fnF tb (envL e142) Tryz.f142 route_goes_lh c142.ps c142.rs (T := Bool) (fun y => (y.2.1)) (n_0, c_1, ()) = route_goes n_0 c_1 := by kernel_rfl
abbrev e111 : List (Nat × Ctr) := [(142, c142)]
def route_Left_lh : LH
 | _ => none
theorem route_Left_eq (n_0 : NODE) (c_1 : CELL) : fnF tb (envL e111) Tryz.f111 route_Left_lh c111.ps c111.rs (T := Bool) (fun y => (y.2.1)) (n_0, c_1, ()) = route_Left n_0 c_1 := by kernel_rfl
abbrev e27 : List (Nat × Ctr) := [(55, c55), (72, c72), (74, c74), (76, c76)]
def ratio_Mul_lh : LH
 | _ => none
theorem ratio_Mul_eq (a_0 : RAT) (b_1 : RAT) : fnF tb (envL e27) Tryz.f27 ratio_Mul_lh c27.ps c27.rs (T := RAT) (fun y => (y.2.1)) (a_0, b_1, ()) = ratio_Mul a_0 b_1 := by kernel_rfl
abbrev e112 : List (Nat × Ctr) := [(27, c27)]
def expect_along_lh : LH
 | 6 => some ⟨expect_along_i3, expect_along_o3, lp expect_along_s3 K0⟩
 | _ => none
theorem expect_along_l3 (g : expect_along_i3.V → Option (OT expect_along_o3)) (v : expect_along_i3.V) : loopStep tb (envL e112) 86 expect_along_lh (loopAt 3 (bodyOf Tryz.f112) .skip) expect_along_i3 expect_along_o3 g v = expect_along_s3 g v := by kernel_rfl
theorem expect_along_eq (a_0 : List PART) (a_1 : Int) (a_2 : RAT) (a_3 : Bool) : fnF tb (envL e112) Tryz.f112 expect_along_lh c112.ps c112.rs (T := (List PART)) (fun y => (y.2.1)) (a_0, a_1, a_2, a_3, ()) = expect_along a_0 a_1 a_2 a_3 := by kernel_rfl
abbrev e84 : List (Nat × Ctr) := [(100, c100), (117, c117)]
def whole_Neg_lh : LH
 | _ => none
theorem whole_Neg_eq (a_0 : WH) : fnF tb (envL e84) Tryz.f84 whole_Neg_lh c84.ps c84.rs (T := WH) (fun y => (y.2.1)) (a_0, ()) = whole_Neg a_0 := by kernel_rfl
abbrev e86 : List (Nat × Ctr) := [(54, c54), (72, c72), (84, c84), (100, c100)]
def ratio_Make_lh : LH
 | _ => none
theorem ratio_Make_eq (num_0 : WH) (den_1 : WH) : fnF tb (envL e86) Tryz.f86 ratio_Make_lh c86.ps c86.rs (T := RAT × Int) (fun y => (y.2.1, y.2.2.1)) (num_0, den_1, ()) = ratio_Make num_0 den_1 := by kernel_rfl
abbrev e98 : List (Nat × Ctr) := [(55, c55), (75, c75), (86, c86)]
def ratio_Inv_lh : LH
 | _ => none
theorem ratio_Inv_eq (a_0 : RAT) : fnF tb (envL e98) Tryz.f98 ratio_Inv_lh c98.ps c98.rs (T := RAT × Int) (fun y => (y.2.1, y.2.2.1)) (a_0, ()) = ratio_Inv a_0 := by kernel_rfl
abbrev e143 : List (Nat × Ctr) := [(27, c27), (98, c98)]
def ratio_Div_lh : LH
 | _ => none
theorem ratio_Div_eq (a_0 : RAT) (b_1 : RAT) : fnF tb (envL e143) Tryz.f143 ratio_Div_lh c143.ps c143.rs (T := RAT × Int) (fun y => (y.2.1, y.2.2.1)) (a_0, b_1, ()) = ratio_Div a_0 b_1 := by kernel_rfl
abbrev e113 : List (Nat × Ctr) := [(143, c143)]
def expect_over_lh : LH
 | _ => none
theorem expect_over_eq (a_0 : RAT) (b_1 : RAT) : fnF tb (envL e113) Tryz.f113 expect_over_lh c113.ps c113.rs (T := RAT) (fun y => (y.2.1)) (a_0, b_1, ()) = expect_over a_0 b_1 := by kernel_rfl
abbrev e69 (n : Nat) : List (Nat × Ctr) := [(55, c55), (69, (c69 n)), (111, c111), (112, c112), (113, c113)]
def expect_legs_lh (n : Nat) : LH
 | _ => none
theorem expect_legs_eq (n : Nat) (a_0 : List NODE) (a_1 : List CELL) (a_2 : Int) (a_3 : List PART) : fnF tb (envL (e69 n)) Tryz.f69 (expect_legs_lh n) (c69 n).ps (c69 n).rs (T := (List LEG)) (fun y => (y.2.1)) (a_0, a_1, a_2, a_3, ()) = expect_legs (n + 1) a_0 a_1 a_2 a_3 := by kernel_rfl
abbrev e23 : List (Nat × Ctr) := [(68, c68), (69, (c69 R0))]
def expect_Legs_lh : LH
 | _ => none
theorem expect_Legs_eq (t_0 : List NODE) (row_1 : List CELL) : fnF tb (envL e23) Tryz.f23 expect_Legs_lh c23.ps c23.rs (T := (List LEG) × Int) (fun y => (y.2.1, y.2.2.1)) (t_0, row_1, ()) = expect_Legs t_0 row_1 := by kernel_rfl
abbrev e85 : List (Nat × Ctr) := [(24, c24)]
def versus_zeros_lh : LH
 | 6 => some ⟨versus_zeros_i3, versus_zeros_o3, lp versus_zeros_s3 K0⟩
 | _ => none
theorem versus_zeros_l3 (g : versus_zeros_i3.V → Option (OT versus_zeros_o3)) (v : versus_zeros_i3.V) : loopStep tb (envL e85) 13 versus_zeros_lh (loopAt 3 (bodyOf Tryz.f85) .skip) versus_zeros_i3 versus_zeros_o3 g v = versus_zeros_s3 g v := by kernel_rfl
theorem versus_zeros_eq (n_0 : Int) : fnF tb (envL e85) Tryz.f85 versus_zeros_lh c85.ps c85.rs (T := (List RAT)) (fun y => (y.2.1)) (n_0, ()) = versus_zeros n_0 := by kernel_rfl
abbrev e125 : List (Nat × Ctr) := []
def versus_sides_lh : LH
 | 4 => some ⟨versus_sides_i2, versus_sides_o2, lp versus_sides_s2 K0⟩
 | _ => none
theorem versus_sides_l2 (g : versus_sides_i2.V → Option (OT versus_sides_o2)) (v : versus_sides_i2.V) : loopStep tb (envL e125) 61 versus_sides_lh (loopAt 2 (bodyOf Tryz.f125) .skip) versus_sides_i2 versus_sides_o2 g v = versus_sides_s2 g v := by kernel_rfl
theorem versus_sides_eq (a_0 : LEG) (b_1 : LEG) : fnF tb (envL e125) Tryz.f125 versus_sides_lh c125.ps c125.rs (T := (List Int) × (List Int) × Bool) (fun y => (y.2.1, y.2.2.1, y.2.2.2.1)) (a_0, b_1, ()) = versus_sides a_0 b_1 := by kernel_rfl
abbrev e35 : List (Nat × Ctr) := [(55, c55), (84, c84)]
def ratio_Neg_lh : LH
 | _ => none
theorem ratio_Neg_eq (a_0 : RAT) : fnF tb (envL e35) Tryz.f35 ratio_Neg_lh c35.ps c35.rs (T := RAT) (fun y => (y.2.1)) (a_0, ()) = ratio_Neg a_0 := by kernel_rfl
abbrev e87 : List (Nat × Ctr) := [(70, c70), (117, c117)]
def whole_Of_lh : LH
 | _ => none
theorem whole_Of_eq (n_0 : Int) : fnF tb (envL e87) Tryz.f87 whole_Of_lh c87.ps c87.rs (T := WH) (fun y => (y.2.1)) (n_0, ()) = whole_Of n_0 := by kernel_rfl
abbrev e172 : List (Nat × Ctr) := [(74, c74), (87, c87)]
def weigh_products_lh : LH
 | 8 => some ⟨weigh_products_i4, weigh_products_o4, lp weigh_products_s4 K0⟩
 | _ => none
theorem weigh_products_l4 (g : weigh_products_i4.V → Option (OT weigh_products_o4)) (v : weigh_products_i4.V) : loopStep tb (envL e172) 21 weigh_products_lh (loopAt 4 (bodyOf Tryz.f172) .skip) weigh_products_i4 weigh_products_o4 g v = weigh_products_s4 g v := by kernel_rfl
theorem weigh_products_eq  : fnF tb (envL e172) Tryz.f172 weigh_products_lh c172.ps c172.rs (T := (List WH)) (fun y => (y.2.1)) () = weigh_products  := by kernel_rfl
abbrev e171 : List (Nat × Ctr) := [(172, c172)]
def weigh_Table_at_c1_lh : LH
 | _ => none
theorem weigh_Table_at_c1_eq (b_0 : Int) (b_1 : Int) (b_2 : Int) (b_3 : List WH) : fnFB tb (envL e171) Tryz.f171 weigh_Table_at_c1_lh w171 c171.ps c171.rs (T := Int × Int × Int × (List WH)) (fun y => (y.2.1, y.2.2.1, y.2.2.2.1, y.2.2.2.2.1)) (b_0, b_1, b_2, b_3, ()) = weigh_Table_at_c1 b_0 b_1 b_2 b_3 := by kernel_rfl
abbrev e127 : List (Nat × Ctr) := [(74, c74), (86, c86), (161, c161)]
def weigh_Table_quotient_lh : LH
 | _ => none
theorem weigh_Table_quotient_eq (a_0 : Int) (b_1 : Int) (c_2 : Int) (b_3 : Int) (b_4 : Int) (b_5 : Int) (b_6 : List WH) : fnFB tb (envL e127) Tryz.f127 weigh_Table_quotient_lh w127 c127.ps c127.rs (T := RAT × Int × Int × Int × (List WH)) (fun y => (y.2.1, y.2.2.1, y.2.2.2.1, y.2.2.2.2.1, y.2.2.2.2.2.1)) (a_0, b_1, c_2, b_3, b_4, b_5, b_6, ()) = weigh_Table_quotient a_0 b_1 c_2 b_3 b_4 b_5 b_6 := by kernel_rfl
abbrev e160 : List (Nat × Ctr) := [(24, c24), (35, c35), (127, c127)]
def weigh_Table_Need_lh : LH
 | _ => none
theorem weigh_Table_Need_eq (u_0 : Int) (v_1 : Int) (b_2 : Int) (b_3 : Int) (b_4 : Int) (b_5 : List WH) : fnFB tb (envL e160) Tryz.f160 weigh_Table_Need_lh w160 c160.ps c160.rs (T := RAT × RAT × Int × Int × Int × Int × (List WH)) (fun y => (y.2.1, y.2.2.1, y.2.2.2.1, y.2.2.2.2.1, y.2.2.2.2.2.1, y.2.2.2.2.2.2.1, y.2.2.2.2.2.2.2.1)) (u_0, v_1, b_2, b_3, b_4, b_5, ()) = weigh_Table_Need u_0 v_1 b_2 b_3 b_4 b_5 := by kernel_rfl
abbrev e126 : List (Nat × Ctr) := [(26, c26), (27, c27), (160, c160)]
def versus_counter_add_lh : LH
 | 6 => some ⟨versus_counter_add_i3, versus_counter_add_o3, lp versus_counter_add_s3 K0⟩
 | 16 => some ⟨versus_counter_add_i8, versus_counter_add_o8, lp versus_counter_add_s8 K0⟩
 | _ => none
theorem versus_counter_add_l3 (g : versus_counter_add_i3.V → Option (OT versus_counter_add_o3)) (v : versus_counter_add_i3.V) : loopStep tb (envL e126) 76 versus_counter_add_lh (loopAt 3 (bodyOf Tryz.f126) .skip) versus_counter_add_i3 versus_counter_add_o3 g v = versus_counter_add_s3 g v := by kernel_rfl
theorem versus_counter_add_l8 (g : versus_counter_add_i8.V → Option (OT versus_counter_add_o8)) (v : versus_counter_add_i8.V) : loopStep tb (envL e126) 76 versus_counter_add_lh (loopAt 8 (bodyOf Tryz.f126) .skip) versus_counter_add_i8 versus_counter_add_o8 g v = versus_counter_add_s8 g v := by kernel_rfl
theorem versus_counter_add_eq (a_0 : RAT) (a_1 : List Int) (a_2 : List Int) (b_3 : List RAT) (b_4 : Int) (b_5 : Int) (b_6 : Int) (b_7 : List WH) : fnFB tb (envL e126) Tryz.f126 versus_counter_add_lh w126 c126.ps c126.rs (T := (List RAT) × Int × Int × Int × (List WH)) (fun y => (y.2.1, y.2.2.1, y.2.2.2.1, y.2.2.2.2.1, y.2.2.2.2.2.1)) (a_0, a_1, a_2, b_3, b_4, b_5, b_6, b_7, ()) = versus_counter_add a_0 a_1 a_2 b_3 b_4 b_5 b_6 b_7 := by kernel_rfl
abbrev e83 : List (Nat × Ctr) := [(23, c23), (85, c85), (125, c125), (126, c126)]
def versus_one_lh : LH
 | 16 => some ⟨versus_one_i8, versus_one_o8, lp versus_one_s8 K0⟩
 | 6 => some ⟨versus_one_i3, versus_one_o3, lp versus_one_s3 K0⟩
 | _ => none
theorem versus_one_l8 (g : versus_one_i8.V → Option (OT versus_one_o8)) (v : versus_one_i8.V) : loopStep tb (envL e83) 79 versus_one_lh (loopAt 8 (bodyOf Tryz.f83) .skip) versus_one_i8 versus_one_o8 g v = versus_one_s8 g v := by kernel_rfl
theorem versus_one_l3 (g : versus_one_i3.V → Option (OT versus_one_o3)) (v : versus_one_i3.V) : loopStep tb (envL e83) 79 versus_one_lh (loopAt 3 (bodyOf Tryz.f83) .skip) versus_one_i3 versus_one_o3 g v = versus_one_s3 g v := by kernel_rfl
theorem versus_one_eq (a_0 : MODEL) (a_1 : List CELL) (a_2 : List CELL) (b_3 : Int) (b_4 : Int) (b_5 : Int) (b_6 : List WH) : fnFB tb (envL e83) Tryz.f83 versus_one_lh w83 c83.ps c83.rs (T := (List RAT) × Int × Int × Int × (List WH)) (fun y => (y.2.1, y.2.2.1, y.2.2.2.1, y.2.2.2.2.1, y.2.2.2.2.2.1)) (a_0, a_1, a_2, b_3, b_4, b_5, b_6, ()) = versus_one a_0 a_1 a_2 b_3 b_4 b_5 b_6 := by kernel_rfl
abbrev e32 : List (Nat × Ctr) := [(63, c63), (82, c82), (83, c83)]
def versus_One_lh : LH
 | _ => none
theorem versus_One_eq (m_0 : MODEL) (row_1 : List CELL) (other_2 : List CELL) : fnF tb (envL e32) Tryz.f32 versus_One_lh c32.ps c32.rs (T := (List RAT) × Int) (fun y => (y.2.1, y.2.2.1)) (m_0, row_1, other_2, ()) = versus_One m_0 row_1 other_2 := by kernel_rfl
abbrev e58 : List (Nat × Ctr) := [(70, c70), (87, c87)]
def ratio_Of_lh : LH
 | _ => none
theorem ratio_Of_eq (n_0 : Int) : fnF tb (envL e58) Tryz.f58 ratio_Of_lh c58.ps c58.rs (T := RAT) (fun y => (y.2.1)) (n_0, ()) = ratio_Of n_0 := by kernel_rfl
abbrev e53 : List (Nat × Ctr) := [(58, c58)]
def ratio_One_lh : LH
 | _ => none
theorem ratio_One_eq  : fnF tb (envL e53) Tryz.f53 ratio_One_lh c53.ps c53.rs (T := RAT) (fun y => (y.2.1)) () = ratio_One  := by kernel_rfl
abbrev e34 : List (Nat × Ctr) := [(24, c24), (30, c30), (32, c32), (53, c53), (58, c58)]
def dendronlaw17_awake_lh : LH
 | _ => none
theorem dendronlaw17_awake_eq  : fnF tb (envL e34) Tryz.f34 dendronlaw17_awake_lh c34.ps c34.rs (T := Bool) (fun y => (y.2.1)) () = dendronlaw17_awake  := by kernel_rfl
abbrev e36 : List (Nat × Ctr) := [(31, c31)]
def dendronlaw09_All_lh : LH
 | 6 => some ⟨dendronlaw09_All_i3, dendronlaw09_All_o3, lp dendronlaw09_All_s3 K0⟩
 | _ => none
theorem dendronlaw09_All_l3 (g : dendronlaw09_All_i3.V → Option (OT dendronlaw09_All_o3)) (v : dendronlaw09_All_i3.V) : loopStep tb (envL e36) 30 dendronlaw09_All_lh (loopAt 3 (bodyOf Tryz.f36) .skip) dendronlaw09_All_i3 dendronlaw09_All_o3 g v = dendronlaw09_All_s3 g v := by kernel_rfl
theorem dendronlaw09_All_eq (l_0 : List (List CELL)) (n_1 : Int) (wide_2 : Int) : fnF tb (envL e36) Tryz.f36 dendronlaw09_All_lh c36.ps c36.rs (T := (List (List CELL))) (fun y => (y.2.1)) (l_0, n_1, wide_2, ()) = dendronlaw09_All l_0 n_1 wide_2 := by kernel_rfl
abbrev e39 : List (Nat × Ctr) := [(55, c55), (86, c86), (87, c87)]
def ratio_Frac_lh : LH
 | _ => none
theorem ratio_Frac_eq (n_0 : Int) (d_1 : Int) : fnF tb (envL e39) Tryz.f39 ratio_Frac_lh c39.ps c39.rs (T := RAT) (fun y => (y.2.1)) (n_0, d_1, ()) = ratio_Frac n_0 d_1 := by kernel_rfl
abbrev e37 : List (Nat × Ctr) := [(26, c26), (27, c27), (39, c39), (63, c63), (82, c82), (83, c83), (85, c85)]
def versus_Values_lh : LH
 | 20 => some ⟨versus_Values_i10, versus_Values_o10, lp versus_Values_s10 K0⟩
 | 14 => some ⟨versus_Values_i7, versus_Values_o7, lp versus_Values_s7 K0⟩
 | 32 => some ⟨versus_Values_i16, versus_Values_o16, lp versus_Values_s16 K0⟩
 | _ => none
theorem versus_Values_l10 (g : versus_Values_i10.V → Option (OT versus_Values_o10)) (v : versus_Values_i10.V) : loopStep tb (envL e37) 73 versus_Values_lh (loopAt 10 (bodyOf Tryz.f37) .skip) versus_Values_i10 versus_Values_o10 g v = versus_Values_s10 g v := by kernel_rfl
theorem versus_Values_l7 (g : versus_Values_i7.V → Option (OT versus_Values_o7)) (v : versus_Values_i7.V) : loopStep tb (envL e37) 73 versus_Values_lh (loopAt 7 (bodyOf Tryz.f37) .skip) versus_Values_i7 versus_Values_o7 g v = versus_Values_s7 g v := by kernel_rfl
theorem versus_Values_l16 (g : versus_Values_i16.V → Option (OT versus_Values_o16)) (v : versus_Values_i16.V) : loopStep tb (envL e37) 73 versus_Values_lh (loopAt 16 (bodyOf Tryz.f37) .skip) versus_Values_i16 versus_Values_o16 g v = versus_Values_s16 g v := by kernel_rfl
theorem versus_Values_eq (a_0 : MODEL) (a_1 : List CELL) (a_2 : List (List CELL)) : fnF tb (envL e37) Tryz.f37 versus_Values_lh c37.ps c37.rs (T := (List RAT) × Int) (fun y => (y.2.1, y.2.2.1)) (a_0, a_1, a_2, ()) = versus_Values a_0 a_1 a_2 := by kernel_rfl
abbrev e33 : List (Nat × Ctr) := [(77, c77)]
def dendronlaw10_Why_lh : LH
 | _ => none
theorem dendronlaw10_Why_eq (m_0 : MODEL) (row_1 : List CELL) : fnF tb (envL e33) Tryz.f33 dendronlaw10_Why_lh c33.ps c33.rs (T := Int) (fun y => (y.2.1)) (m_0, row_1, ()) = dendronlaw10_Why m_0 row_1 := by kernel_rfl
abbrev e38 : List (Nat × Ctr) := [(33, c33)]
def dendronlaw17_why_lh : LH
 | 8 => some ⟨dendronlaw17_why_i4, dendronlaw17_why_o4, lp dendronlaw17_why_s4 K0⟩
 | _ => none
theorem dendronlaw17_why_l4 (g : dendronlaw17_why_i4.V → Option (OT dendronlaw17_why_o4)) (v : dendronlaw17_why_i4.V) : loopStep tb (envL e38) 32 dendronlaw17_why_lh (loopAt 4 (bodyOf Tryz.f38) .skip) dendronlaw17_why_i4 dendronlaw17_why_o4 g v = dendronlaw17_why_s4 g v := by kernel_rfl
theorem dendronlaw17_why_eq (m_0 : MODEL) (row_1 : List CELL) (l_2 : List (List CELL)) : fnF tb (envL e38) Tryz.f38 dendronlaw17_why_lh c38.ps c38.rs (T := Int) (fun y => (y.2.1)) (m_0, row_1, l_2, ()) = dendronlaw17_why m_0 row_1 l_2 := by kernel_rfl
abbrev e130 : List (Nat × Ctr) := [(142, c142)]
def route_next_lh : LH
 | _ => none
theorem route_next_eq (n_0 : NODE) (row_1 : List CELL) : fnF tb (envL e130) Tryz.f130 route_next_lh c130.ps c130.rs (T := Int) (fun y => (y.2.1)) (n_0, row_1, ()) = route_next n_0 row_1 := by kernel_rfl
abbrev e96 : List (Nat × Ctr) := [(55, c55), (130, c130)]
def route_value_lh : LH
 | 4 => some ⟨route_value_i2, route_value_o2, lp route_value_s2 K0⟩
 | _ => none
theorem route_value_l2 (g : route_value_i2.V → Option (OT route_value_o2)) (v : route_value_i2.V) : loopStep tb (envL e96) 24 route_value_lh (loopAt 2 (bodyOf Tryz.f96) .skip) route_value_i2 route_value_o2 g v = route_value_s2 g v := by kernel_rfl
theorem route_value_eq (t_0 : List NODE) (row_1 : List CELL) : fnF tb (envL e96) Tryz.f96 route_value_lh c96.ps c96.rs (T := RAT) (fun y => (y.2.1)) (t_0, row_1, ()) = route_value t_0 row_1 := by kernel_rfl
abbrev e46 : List (Nat × Ctr) := [(24, c24), (26, c26), (95, c95), (96, c96)]
def route_Predict_lh : LH
 | 12 => some ⟨route_Predict_i6, route_Predict_o6, lp route_Predict_s6 K0⟩
 | _ => none
theorem route_Predict_l6 (g : route_Predict_i6.V → Option (OT route_Predict_o6)) (v : route_Predict_i6.V) : loopStep tb (envL e46) 32 route_Predict_lh (loopAt 6 (bodyOf Tryz.f46) .skip) route_Predict_i6 route_Predict_o6 g v = route_Predict_s6 g v := by kernel_rfl
theorem route_Predict_eq (m_0 : MODEL) (row_1 : List CELL) : fnF tb (envL e46) Tryz.f46 route_Predict_lh c46.ps c46.rs (T := RAT × Int) (fun y => (y.2.1, y.2.2.1)) (m_0, row_1, ()) = route_Predict m_0 row_1 := by kernel_rfl
abbrev e49 : List (Nat × Ctr) := [(24, c24), (26, c26)]
def ratio_Sum_lh : LH
 | 6 => some ⟨ratio_Sum_i3, ratio_Sum_o3, lp ratio_Sum_s3 K0⟩
 | _ => none
theorem ratio_Sum_l3 (g : ratio_Sum_i3.V → Option (OT ratio_Sum_o3)) (v : ratio_Sum_i3.V) : loopStep tb (envL e49) 18 ratio_Sum_lh (loopAt 3 (bodyOf Tryz.f49) .skip) ratio_Sum_i3 ratio_Sum_o3 g v = ratio_Sum_s3 g v := by kernel_rfl
theorem ratio_Sum_eq (l_0 : List RAT) : fnF tb (envL e49) Tryz.f49 ratio_Sum_lh c49.ps c49.rs (T := RAT) (fun y => (y.2.1)) (l_0, ()) = ratio_Sum l_0 := by kernel_rfl
abbrev e128 : List (Nat × Ctr) := [(143, c143)]
def ratio_over_lh : LH
 | _ => none
theorem ratio_over_eq (a_0 : RAT) (b_1 : RAT) : fnF tb (envL e128) Tryz.f128 ratio_over_lh c128.ps c128.rs (T := RAT) (fun y => (y.2.1)) (a_0, b_1, ()) = ratio_over a_0 b_1 := by kernel_rfl
abbrev e93 : List (Nat × Ctr) := [(49, c49), (58, c58), (128, c128)]
def ratio_Mean_lh : LH
 | _ => none
theorem ratio_Mean_eq (l_0 : List RAT) : fnF tb (envL e93) Tryz.f93 ratio_Mean_lh c93.ps c93.rs (T := RAT × Int) (fun y => (y.2.1, y.2.2.1)) (l_0, ()) = ratio_Mean l_0 := by kernel_rfl
abbrev e47 : List (Nat × Ctr) := [(46, c46), (77, c77), (93, c93)]
def route_Mean_lh : LH
 | 6 => some ⟨route_Mean_i3, route_Mean_o3, lp route_Mean_s3 K0⟩
 | _ => none
theorem route_Mean_l3 (g : route_Mean_i3.V → Option (OT route_Mean_o3)) (v : route_Mean_i3.V) : loopStep tb (envL e47) 45 route_Mean_lh (loopAt 3 (bodyOf Tryz.f47) .skip) route_Mean_i3 route_Mean_o3 g v = route_Mean_s3 g v := by kernel_rfl
theorem route_Mean_eq (m_0 : MODEL) (l_1 : List (List CELL)) : fnF tb (envL e47) Tryz.f47 route_Mean_lh c47.ps c47.rs (T := RAT × Int) (fun y => (y.2.1, y.2.2.1)) (m_0, l_1, ()) = route_Mean m_0 l_1 := by kernel_rfl
abbrev e50 : List (Nat × Ctr) := [(26, c26), (35, c35)]
def ratio_Sub_lh : LH
 | _ => none
theorem ratio_Sub_eq (a_0 : RAT) (b_1 : RAT) : fnF tb (envL e50) Tryz.f50 ratio_Sub_lh c50.ps c50.rs (T := RAT) (fun y => (y.2.1)) (a_0, b_1, ()) = ratio_Sub a_0 b_1 := by kernel_rfl
abbrev e11 : List (Nat × Ctr) := [(15, c15), (22, c22), (30, c30), (34, c34), (36, c36), (37, c37), (38, c38), (46, c46), (47, c47), (48, c48), (49, c49), (50, c50)]
def dendronlaw17_VersusAdds_lh : LH
 | 24 => some ⟨dendronlaw17_VersusAdds_i12, dendronlaw17_VersusAdds_o12, lp dendronlaw17_VersusAdds_s12 K0⟩
 | _ => none
theorem dendronlaw17_VersusAdds_l12 (g : dendronlaw17_VersusAdds_i12.V → Option (OT dendronlaw17_VersusAdds_o12)) (v : dendronlaw17_VersusAdds_i12.V) : loopStep tb (envL e11) 96 dendronlaw17_VersusAdds_lh (loopAt 12 (bodyOf Tryz.f11) .skip) dendronlaw17_VersusAdds_i12 dendronlaw17_VersusAdds_o12 g v = dendronlaw17_VersusAdds_s12 g v := by kernel_rfl
theorem dendronlaw17_VersusAdds_eq (a_0 : MODEL) (a_1 : List CELL) (a_2 : List (List CELL)) : fnF tb (envL e11) Tryz.f11 dendronlaw17_VersusAdds_lh c11.ps c11.rs (T := Bool) (fun y => (y.2.1)) (a_0, a_1, a_2, ()) = dendronlaw17_VersusAdds a_0 a_1 a_2 := by kernel_rfl
end Go.Proofs.YtaonkcmflkmncaaGreatDoor.X
