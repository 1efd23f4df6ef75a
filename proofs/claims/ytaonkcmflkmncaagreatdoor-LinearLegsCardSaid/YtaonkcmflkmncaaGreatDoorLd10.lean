/- Own work: part of the proof; the first line of each part says what it tells. -/
import Derived.Test.YtaonkcmflkmncaaGreatDoorLd6


namespace Go.Proofs.YtaonkcmflkmncaaGreatDoor.X
open Go
set_option linter.unusedVariables false
set_option linter.unusedSimpArgs false
set_option maxRecDepth 100000
abbrev e81 : List (Nat × Ctr) := []
def dendronlaw09_number_lh : LH
 | _ => none
theorem dendronlaw09_number_eq (a_0 : RAT) : fnF tb (envL e81) Tryz.f81 dendronlaw09_number_lh c81.ps c81.rs (T := RAT) (fun y => (y.2.1)) (a_0, ()) = dendronlaw09_number a_0 := by kernel_rfl
abbrev e31 : List (Nat × Ctr) := [(81, c81)]
def dendronlaw09_Few_lh : LH
 | 6 => some ⟨dendronlaw09_Few_i3, dendronlaw09_Few_o3, lp dendronlaw09_Few_s3 K0⟩
 | _ => none
theorem dendronlaw09_Few_l3 (g : dendronlaw09_Few_i3.V → Option (OT dendronlaw09_Few_o3)) (v : dendronlaw09_Few_i3.V) : loopStep tb (envL e31) 32 dendronlaw09_Few_lh (loopAt 3 (bodyOf Tryz.f31) .skip) dendronlaw09_Few_i3 dendronlaw09_Few_o3 g v = dendronlaw09_Few_s3 g v := by kernel_rfl
theorem dendronlaw09_Few_eq (l_0 : List CELL) (n_1 : Int) : fnF tb (envL e31) Tryz.f31 dendronlaw09_Few_lh c31.ps c31.rs (T := (List CELL)) (fun y => (y.2.1)) (l_0, n_1, ()) = dendronlaw09_Few l_0 n_1 := by kernel_rfl
abbrev e12 : List (Nat × Ctr) := [(31, c31)]
def dendronlaw16_leg_lh : LH
 | 6 => some ⟨dendronlaw16_leg_i3, dendronlaw16_leg_o3, lp dendronlaw16_leg_s3 K0⟩
 | _ => none
theorem dendronlaw16_leg_l3 (g : dendronlaw16_leg_i3.V → Option (OT dendronlaw16_leg_o3)) (v : dendronlaw16_leg_i3.V) : loopStep tb (envL e12) 39 dendronlaw16_leg_lh (loopAt 3 (bodyOf Tryz.f12) .skip) dendronlaw16_leg_i3 dendronlaw16_leg_o3 g v = dendronlaw16_leg_s3 g v := by kernel_rfl
theorem dendronlaw16_leg_eq (l_0 : LEG) : fnF tb (envL e12) Tryz.f12 dendronlaw16_leg_lh c12.ps c12.rs (T := LEG) (fun y => (y.2.1)) (l_0, ()) = dendronlaw16_leg l_0 := by kernel_rfl
abbrev e114 : List (Nat × Ctr) := []
def nat_trim_lh : LH
 | 4 => some ⟨nat_trim_i2, nat_trim_o2, lp nat_trim_s2 K0⟩
 | _ => none
theorem nat_trim_l2 (g : nat_trim_i2.V → Option (OT nat_trim_o2)) (v : nat_trim_i2.V) : loopStep tb (envL e114) 23 nat_trim_lh (loopAt 2 (bodyOf Tryz.f114) .skip) nat_trim_i2 nat_trim_o2 g v = nat_trim_s2 g v := by kernel_rfl
theorem nat_trim_eq (a_0 : List Int) : fnF tb (envL e114) Tryz.f114 nat_trim_lh c114.ps c114.rs (T := (List Int)) (fun y => (y.2.1)) (a_0, ()) = nat_trim a_0 := by kernel_rfl
abbrev e70 : List (Nat × Ctr) := [(114, c114)]
def nat_Of_lh : LH
 | _ => none
theorem nat_Of_eq (n_0 : Int) : fnF tb (envL e70) Tryz.f70 nat_Of_lh c70.ps c70.rs (T := (List Int)) (fun y => (y.2.1)) (n_0, ()) = nat_Of n_0 := by kernel_rfl
abbrev e117 : List (Nat × Ctr) := []
def whole_sign_lh : LH
 | _ => none
theorem whole_sign_eq (neg_0 : Bool) (abs_1 : List Int) : fnF tb (envL e117) Tryz.f117 whole_sign_lh c117.ps c117.rs (T := WH) (fun y => (y.2.1)) (neg_0, abs_1, ()) = whole_sign neg_0 abs_1 := by kernel_rfl
abbrev e87 : List (Nat × Ctr) := [(70, c70), (117, c117)]
def whole_Of_lh : LH
 | _ => none
theorem whole_Of_eq (n_0 : Int) : fnF tb (envL e87) Tryz.f87 whole_Of_lh c87.ps c87.rs (T := WH) (fun y => (y.2.1)) (n_0, ()) = whole_Of n_0 := by kernel_rfl
abbrev e58 : List (Nat × Ctr) := [(70, c70), (87, c87)]
def ratio_Of_lh : LH
 | _ => none
theorem ratio_Of_eq (n_0 : Int) : fnF tb (envL e58) Tryz.f58 ratio_Of_lh c58.ps c58.rs (T := RAT) (fun y => (y.2.1)) (n_0, ()) = ratio_Of n_0 := by kernel_rfl
abbrev e53 : List (Nat × Ctr) := [(58, c58)]
def ratio_One_lh : LH
 | _ => none
theorem ratio_One_eq  : fnF tb (envL e53) Tryz.f53 ratio_One_lh c53.ps c53.rs (T := RAT) (fun y => (y.2.1)) () = ratio_One  := by kernel_rfl
abbrev e52 : List (Nat × Ctr) := [(53, c53)]
def linear_factor_lh : LH
 | _ => none
theorem linear_factor_eq (p_0 : PART) : fnF tb (envL e52) Tryz.f52 linear_factor_lh c52.ps c52.rs (T := (List RAT)) (fun y => (y.2.1)) (p_0, ()) = linear_factor p_0 := by kernel_rfl
abbrev e24 : List (Nat × Ctr) := [(70, c70)]
def ratio_Zero_lh : LH
 | _ => none
theorem ratio_Zero_eq  : fnF tb (envL e24) Tryz.f24 ratio_Zero_lh c24.ps c24.rs (T := RAT) (fun y => (y.2.1)) () = ratio_Zero  := by kernel_rfl
abbrev e101 : List (Nat × Ctr) := [(114, c114)]
def nat_Clean_lh : LH
 | 6 => some ⟨nat_Clean_i3, nat_Clean_o3, lp nat_Clean_s3 K0⟩
 | _ => none
theorem nat_Clean_l3 (g : nat_Clean_i3.V → Option (OT nat_Clean_o3)) (v : nat_Clean_i3.V) : loopStep tb (envL e101) 24 nat_Clean_lh (loopAt 3 (bodyOf Tryz.f101) .skip) nat_Clean_i3 nat_Clean_o3 g v = nat_Clean_s3 g v := by kernel_rfl
theorem nat_Clean_eq (a_0 : List Int) : fnF tb (envL e101) Tryz.f101 nat_Clean_lh c101.ps c101.rs (T := (List Int)) (fun y => (y.2.1)) (a_0, ()) = nat_Clean a_0 := by kernel_rfl
abbrev e166 : List (Nat × Ctr) := [(101, c101)]
def nat_To_lh : LH
 | _ => none
theorem nat_To_eq (a_0 : List Int) : fnF tb (envL e166) Tryz.f166 nat_To_lh c166.ps c166.rs (T := Int × Bool) (fun y => (y.2.1, y.2.2.1)) (a_0, ()) = nat_To a_0 := by kernel_rfl
abbrev e144 : List (Nat × Ctr) := [(70, c70), (166, c166)]
def nat_euclid_lh : LH
 | 6 => some ⟨nat_euclid_i3, nat_euclid_o3, lp nat_euclid_s3 K0⟩
 | _ => none
theorem nat_euclid_l3 (g : nat_euclid_i3.V → Option (OT nat_euclid_o3)) (v : nat_euclid_i3.V) : loopStep tb (envL e144) 27 nat_euclid_lh (loopAt 3 (bodyOf Tryz.f144) .skip) nat_euclid_i3 nat_euclid_o3 g v = nat_euclid_s3 g v := by kernel_rfl
theorem nat_euclid_eq (a_0 : List Int) (b_1 : List Int) : fnF tb (envL e144) Tryz.f144 nat_euclid_lh c144.ps c144.rs (T := (List Int)) (fun y => (y.2.1)) (a_0, b_1, ()) = nat_euclid a_0 b_1 := by kernel_rfl
abbrev e145 : List (Nat × Ctr) := [(167, c167)]
def nat_zeros_lh : LH
 | 6 => some ⟨nat_zeros_i3, nat_zeros_o3, lp nat_zeros_s3 K0⟩
 | _ => none
theorem nat_zeros_l3 (g : nat_zeros_i3.V → Option (OT nat_zeros_o3)) (v : nat_zeros_i3.V) : loopStep tb (envL e145) 24 nat_zeros_lh (loopAt 3 (bodyOf Tryz.f145) .skip) nat_zeros_i3 nat_zeros_o3 g v = nat_zeros_s3 g v := by kernel_rfl
theorem nat_zeros_eq (a_0 : List Int) : fnF tb (envL e145) Tryz.f145 nat_zeros_lh c145.ps c145.rs (T := Int) (fun y => (y.2.1)) (a_0, ()) = nat_zeros a_0 := by kernel_rfl
abbrev e153 : List (Nat × Ctr) := []
def nat_limb_lh : LH
 | _ => none
theorem nat_limb_eq (a_0 : List Int) (i_1 : Int) : fnF tb (envL e153) Tryz.f153 nat_limb_lh c153.ps c153.rs (T := Int) (fun y => (y.2.1)) (a_0, i_1, ()) = nat_limb a_0 i_1 := by kernel_rfl
abbrev e146 : List (Nat × Ctr) := [(114, c114), (153, c153)]
def nat_shr_lh : LH
 | 12 => some ⟨nat_shr_i6, nat_shr_o6, lp nat_shr_s6 K0⟩
 | _ => none
theorem nat_shr_l6 (g : nat_shr_i6.V → Option (OT nat_shr_o6)) (v : nat_shr_i6.V) : loopStep tb (envL e146) 50 nat_shr_lh (loopAt 6 (bodyOf Tryz.f146) .skip) nat_shr_i6 nat_shr_o6 g v = nat_shr_s6 g v := by kernel_rfl
theorem nat_shr_eq (a_0 : List Int) (n_1 : Int) : fnF tb (envL e146) Tryz.f146 nat_shr_lh c146.ps c146.rs (T := (List Int)) (fun y => (y.2.1)) (a_0, n_1, ()) = nat_shr a_0 n_1 := by kernel_rfl
abbrev e147 : List (Nat × Ctr) := []
def nat_order_lh : LH
 | 12 => some ⟨nat_order_i6, nat_order_o6, lp nat_order_s6 K0⟩
 | _ => none
theorem nat_order_l6 (g : nat_order_i6.V → Option (OT nat_order_o6)) (v : nat_order_i6.V) : loopStep tb (envL e147) 45 nat_order_lh (loopAt 6 (bodyOf Tryz.f147) .skip) nat_order_i6 nat_order_o6 g v = nat_order_s6 g v := by kernel_rfl
theorem nat_order_eq (a_0 : List Int) (b_1 : List Int) : fnF tb (envL e147) Tryz.f147 nat_order_lh c147.ps c147.rs (T := Int) (fun y => (y.2.1)) (a_0, b_1, ()) = nat_order a_0 b_1 := by kernel_rfl
abbrev e148 : List (Nat × Ctr) := [(114, c114)]
def nat_shl_lh : LH
 | 8 => some ⟨nat_shl_i4, nat_shl_o4, lp nat_shl_s4 K0⟩
 | _ => none
theorem nat_shl_l4 (g : nat_shl_i4.V → Option (OT nat_shl_o4)) (v : nat_shl_i4.V) : loopStep tb (envL e148) 51 nat_shl_lh (loopAt 4 (bodyOf Tryz.f148) .skip) nat_shl_i4 nat_shl_o4 g v = nat_shl_s4 g v := by kernel_rfl
theorem nat_shl_eq (a_0 : List Int) (n_1 : Int) : fnF tb (envL e148) Tryz.f148 nat_shl_lh c148.ps c148.rs (T := (List Int)) (fun y => (y.2.1)) (a_0, n_1, ()) = nat_shl a_0 n_1 := by kernel_rfl
abbrev e151 : List (Nat × Ctr) := [(114, c114)]
def nat_small_lh : LH
 | 8 => some ⟨nat_small_i4, nat_small_o4, lp nat_small_s4 K0⟩
 | _ => none
theorem nat_small_l4 (g : nat_small_i4.V → Option (OT nat_small_o4)) (v : nat_small_i4.V) : loopStep tb (envL e151) 38 nat_small_lh (loopAt 4 (bodyOf Tryz.f151) .skip) nat_small_i4 nat_small_o4 g v = nat_small_s4 g v := by kernel_rfl
theorem nat_small_eq (a_0 : List Int) (d_1 : Int) : fnF tb (envL e151) Tryz.f151 nat_small_lh c151.ps c151.rs (T := (List Int) × Int) (fun y => (y.2.1, y.2.2.1)) (a_0, d_1, ()) = nat_small a_0 d_1 := by kernel_rfl
abbrev e168 : List (Nat × Ctr) := [(174, c174)]
def bits_LeadingZeros32_lh : LH
 | _ => none
theorem bits_LeadingZeros32_eq (x_0 : Int) : fnF tb (envL e168) Tryz.f168 bits_LeadingZeros32_lh c168.ps c168.rs (T := Int) (fun y => (y.2.1)) (x_0, ()) = bits_LeadingZeros32 x_0 := by kernel_rfl
abbrev e175 : List (Nat × Ctr) := [(153, c153)]
def nat_take_lh : LH
 | 6 => some ⟨nat_take_i3, nat_take_o3, lp nat_take_s3 K0⟩
 | _ => none
theorem nat_take_l3 (g : nat_take_i3.V → Option (OT nat_take_o3)) (v : nat_take_i3.V) : loopStep tb (envL e175) 46 nat_take_lh (loopAt 3 (bodyOf Tryz.f175) .skip) nat_take_i3 nat_take_o3 g v = nat_take_s3 g v := by kernel_rfl
theorem nat_take_eq (u_0 : List Int) (v_1 : List Int) (times_2 : Int) : fnF tb (envL e175) Tryz.f175 nat_take_lh c175.ps c175.rs (T := (List Int) × Bool) (fun y => (y.1.1, y.2.1)) (u_0, v_1, times_2, ()) = nat_take u_0 v_1 times_2 := by kernel_rfl
abbrev e176 : List (Nat × Ctr) := [(153, c153)]
def nat_give_lh : LH
 | 4 => some ⟨nat_give_i2, nat_give_o2, lp nat_give_s2 K0⟩
 | _ => none
theorem nat_give_l2 (g : nat_give_i2.V → Option (OT nat_give_o2)) (v : nat_give_i2.V) : loopStep tb (envL e176) 29 nat_give_lh (loopAt 2 (bodyOf Tryz.f176) .skip) nat_give_i2 nat_give_o2 g v = nat_give_s2 g v := by kernel_rfl
theorem nat_give_eq (u_0 : List Int) (v_1 : List Int) : fnF tb (envL e176) Tryz.f176 nat_give_lh c176.ps c176.rs (T := (List Int)) (fun y => (y.1.1)) (u_0, v_1, ()) = nat_give u_0 v_1 := by kernel_rfl
abbrev e169 : List (Nat × Ctr) := [(175, c175), (176, c176)]
def nat_digit_lh : LH
 | 8 => some ⟨nat_digit_i4, nat_digit_o4, lp nat_digit_s4 K0⟩
 | _ => none
theorem nat_digit_l4 (g : nat_digit_i4.V → Option (OT nat_digit_o4)) (v : nat_digit_i4.V) : loopStep tb (envL e169) 77 nat_digit_lh (loopAt 4 (bodyOf Tryz.f169) .skip) nat_digit_i4 nat_digit_o4 g v = nat_digit_s4 g v := by kernel_rfl
theorem nat_digit_eq (a_0 : List Int) (a_1 : List Int) : fnF tb (envL e169) Tryz.f169 nat_digit_lh c169.ps c169.rs (T := (List Int) × Int) (fun y => (y.1.1, y.2.1)) (a_0, a_1, ()) = nat_digit a_0 a_1 := by kernel_rfl
abbrev e152 : List (Nat × Ctr) := [(114, c114), (146, c146), (148, c148), (168, c168), (169, c169)]
def nat_long_lh : LH
 | 14 => some ⟨nat_long_i7, nat_long_o7, lp nat_long_s7 K0⟩
 | _ => none
theorem nat_long_l7 (g : nat_long_i7.V → Option (OT nat_long_o7)) (v : nat_long_i7.V) : loopStep tb (envL e152) 64 nat_long_lh (loopAt 7 (bodyOf Tryz.f152) .skip) nat_long_i7 nat_long_o7 g v = nat_long_s7 g v := by kernel_rfl
theorem nat_long_eq (a_0 : List Int) (b_1 : List Int) : fnF tb (envL e152) Tryz.f152 nat_long_lh c152.ps c152.rs (T := (List Int) × (List Int)) (fun y => (y.2.1, y.2.2.1)) (a_0, b_1, ()) = nat_long a_0 b_1 := by kernel_rfl
abbrev e116 : List (Nat × Ctr) := [(70, c70), (101, c101), (147, c147), (151, c151), (152, c152)]
def nat_DivMod_lh : LH
 | _ => none
theorem nat_DivMod_eq (a_0 : List Int) (b_1 : List Int) : fnF tb (envL e116) Tryz.f116 nat_DivMod_lh c116.ps c116.rs (T := (List Int) × (List Int) × Int) (fun y => (y.2.1, y.2.2.1, y.2.2.2.1)) (a_0, b_1, ()) = nat_DivMod a_0 b_1 := by kernel_rfl
abbrev e149 : List (Nat × Ctr) := [(116, c116)]
def nat_rest_lh : LH
 | _ => none
theorem nat_rest_eq (a_0 : List Int) (b_1 : List Int) : fnF tb (envL e149) Tryz.f149 nat_rest_lh c149.ps c149.rs (T := (List Int) × (List Int)) (fun y => (y.2.1, y.2.2.1)) (a_0, b_1, ()) = nat_rest a_0 b_1 := by kernel_rfl
abbrev e150 : List (Nat × Ctr) := [(114, c114), (153, c153)]
def nat_minus_lh : LH
 | 8 => some ⟨nat_minus_i4, nat_minus_o4, lp nat_minus_s4 K0⟩
 | _ => none
theorem nat_minus_l4 (g : nat_minus_i4.V → Option (OT nat_minus_o4)) (v : nat_minus_i4.V) : loopStep tb (envL e150) 39 nat_minus_lh (loopAt 4 (bodyOf Tryz.f150) .skip) nat_minus_i4 nat_minus_o4 g v = nat_minus_s4 g v := by kernel_rfl
theorem nat_minus_eq (a_0 : List Int) (b_1 : List Int) : fnF tb (envL e150) Tryz.f150 nat_minus_lh c150.ps c150.rs (T := (List Int)) (fun y => (y.2.1)) (a_0, b_1, ()) = nat_minus a_0 b_1 := by kernel_rfl
abbrev e115 : List (Nat × Ctr) := [(101, c101), (144, c144), (145, c145), (146, c146), (147, c147), (148, c148), (149, c149), (150, c150)]
def nat_Gcd_lh : LH
 | 20 => some ⟨nat_Gcd_i10, nat_Gcd_o10, lp nat_Gcd_s10 K0⟩
 | _ => none
theorem nat_Gcd_l10 (g : nat_Gcd_i10.V → Option (OT nat_Gcd_o10)) (v : nat_Gcd_i10.V) : loopStep tb (envL e115) 86 nat_Gcd_lh (loopAt 10 (bodyOf Tryz.f115) .skip) nat_Gcd_i10 nat_Gcd_o10 g v = nat_Gcd_s10 g v := by kernel_rfl
theorem nat_Gcd_eq (a_0 : List Int) (a_1 : List Int) : fnF tb (envL e115) Tryz.f115 nat_Gcd_lh c115.ps c115.rs (T := (List Int)) (fun y => (y.2.1)) (a_0, a_1, ()) = nat_Gcd a_0 a_1 := by kernel_rfl
abbrev e72 : List (Nat × Ctr) := [(70, c70), (115, c115), (116, c116)]
def ratio_form_lh : LH
 | _ => none
theorem ratio_form_eq (num_0 : WH) (den_1 : List Int) : fnF tb (envL e72) Tryz.f72 ratio_form_lh c72.ps c72.rs (T := RAT) (fun y => (y.2.1)) (num_0, den_1, ()) = ratio_form num_0 den_1 := by kernel_rfl
abbrev e100 : List (Nat × Ctr) := [(101, c101), (117, c117)]
def whole_Clean_lh : LH
 | _ => none
theorem whole_Clean_eq (a_0 : WH) : fnF tb (envL e100) Tryz.f100 whole_Clean_lh c100.ps c100.rs (T := WH) (fun y => (y.2.1)) (a_0, ()) = whole_Clean a_0 := by kernel_rfl
abbrev e55 : List (Nat × Ctr) := [(24, c24), (72, c72), (100, c100), (101, c101)]
def ratio_Clean_lh : LH
 | _ => none
theorem ratio_Clean_eq (a_0 : RAT) : fnF tb (envL e55) Tryz.f55 ratio_Clean_lh c55.ps c55.rs (T := RAT) (fun y => (y.2.1)) (a_0, ()) = ratio_Clean a_0 := by kernel_rfl
abbrev e118 : List (Nat × Ctr) := [(101, c101), (114, c114), (153, c153)]
def nat_Add_lh : LH
 | 10 => some ⟨nat_Add_i5, nat_Add_o5, lp nat_Add_s5 K0⟩
 | _ => none
theorem nat_Add_l5 (g : nat_Add_i5.V → Option (OT nat_Add_o5)) (v : nat_Add_i5.V) : loopStep tb (envL e118) 43 nat_Add_lh (loopAt 5 (bodyOf Tryz.f118) .skip) nat_Add_i5 nat_Add_o5 g v = nat_Add_s5 g v := by kernel_rfl
theorem nat_Add_eq (a_0 : List Int) (b_1 : List Int) : fnF tb (envL e118) Tryz.f118 nat_Add_lh c118.ps c118.rs (T := (List Int)) (fun y => (y.2.1)) (a_0, b_1, ()) = nat_Add a_0 b_1 := by kernel_rfl
abbrev e119 : List (Nat × Ctr) := [(101, c101), (147, c147)]
def nat_Cmp_lh : LH
 | _ => none
theorem nat_Cmp_eq (a_0 : List Int) (b_1 : List Int) : fnF tb (envL e119) Tryz.f119 nat_Cmp_lh c119.ps c119.rs (T := Int) (fun y => (y.2.1)) (a_0, b_1, ()) = nat_Cmp a_0 b_1 := by kernel_rfl
abbrev e120 : List (Nat × Ctr) := [(101, c101), (147, c147), (150, c150)]
def nat_Sub_lh : LH
 | _ => none
theorem nat_Sub_eq (a_0 : List Int) (b_1 : List Int) : fnF tb (envL e120) Tryz.f120 nat_Sub_lh c120.ps c120.rs (T := (List Int) × Int) (fun y => (y.2.1, y.2.2.1)) (a_0, b_1, ()) = nat_Sub a_0 b_1 := by kernel_rfl
abbrev e73 : List (Nat × Ctr) := [(100, c100), (117, c117), (118, c118), (119, c119), (120, c120)]
def whole_Add_lh : LH
 | _ => none
theorem whole_Add_eq (a_0 : WH) (b_1 : WH) : fnF tb (envL e73) Tryz.f73 whole_Add_lh c73.ps c73.rs (T := WH) (fun y => (y.2.1)) (a_0, b_1, ()) = whole_Add a_0 b_1 := by kernel_rfl
abbrev e76 : List (Nat × Ctr) := [(101, c101), (114, c114)]
def nat_Mul_lh : LH
 | 16 => some ⟨nat_Mul_i8, nat_Mul_o8, lp nat_Mul_s8 K0⟩
 | 8 => some ⟨nat_Mul_i4, nat_Mul_o4, lp nat_Mul_s4 K0⟩
 | _ => none
theorem nat_Mul_l8 (g : nat_Mul_i8.V → Option (OT nat_Mul_o8)) (v : nat_Mul_i8.V) : loopStep tb (envL e76) 67 nat_Mul_lh (loopAt 8 (bodyOf Tryz.f76) .skip) nat_Mul_i8 nat_Mul_o8 g v = nat_Mul_s8 g v := by kernel_rfl
theorem nat_Mul_l4 (g : nat_Mul_i4.V → Option (OT nat_Mul_o4)) (v : nat_Mul_i4.V) : loopStep tb (envL e76) 67 nat_Mul_lh (loopAt 4 (bodyOf Tryz.f76) .skip) nat_Mul_i4 nat_Mul_o4 g v = nat_Mul_s4 g v := by kernel_rfl
theorem nat_Mul_eq (a_0 : List Int) (a_1 : List Int) : fnF tb (envL e76) Tryz.f76 nat_Mul_lh c76.ps c76.rs (T := (List Int)) (fun y => (y.2.1)) (a_0, a_1, ()) = nat_Mul a_0 a_1 := by kernel_rfl
abbrev e74 : List (Nat × Ctr) := [(76, c76), (100, c100), (117, c117)]
def whole_Mul_lh : LH
 | _ => none
theorem whole_Mul_eq (a_0 : WH) (b_1 : WH) : fnF tb (envL e74) Tryz.f74 whole_Mul_lh c74.ps c74.rs (T := WH) (fun y => (y.2.1)) (a_0, b_1, ()) = whole_Mul a_0 b_1 := by kernel_rfl
abbrev e75 : List (Nat × Ctr) := []
def ratio_den_lh : LH
 | _ => none
theorem ratio_den_eq (a_0 : RAT) : fnF tb (envL e75) Tryz.f75 ratio_den_lh c75.ps c75.rs (T := WH) (fun y => (y.2.1)) (a_0, ()) = ratio_den a_0 := by kernel_rfl
abbrev e26 : List (Nat × Ctr) := [(55, c55), (72, c72), (73, c73), (74, c74), (75, c75), (76, c76)]
def ratio_Add_lh : LH
 | _ => none
theorem ratio_Add_eq (a_0 : RAT) (b_1 : RAT) : fnF tb (envL e26) Tryz.f26 ratio_Add_lh c26.ps c26.rs (T := RAT) (fun y => (y.2.1)) (a_0, b_1, ()) = ratio_Add a_0 b_1 := by kernel_rfl
abbrev e27 : List (Nat × Ctr) := [(55, c55), (72, c72), (74, c74), (76, c76)]
def ratio_Mul_lh : LH
 | _ => none
theorem ratio_Mul_eq (a_0 : RAT) (b_1 : RAT) : fnF tb (envL e27) Tryz.f27 ratio_Mul_lh c27.ps c27.rs (T := RAT) (fun y => (y.2.1)) (a_0, b_1, ()) = ratio_Mul a_0 b_1 := by kernel_rfl
abbrev e54 : List (Nat × Ctr) := [(100, c100)]
def whole_Sign_lh : LH
 | _ => none
theorem whole_Sign_eq (a_0 : WH) : fnF tb (envL e54) Tryz.f54 whole_Sign_lh c54.ps c54.rs (T := Int) (fun y => (y.2.1)) (a_0, ()) = whole_Sign a_0 := by kernel_rfl
abbrev e15 : List (Nat × Ctr) := [(54, c54), (55, c55)]
def ratio_Sign_lh : LH
 | _ => none
theorem ratio_Sign_eq (a_0 : RAT) : fnF tb (envL e15) Tryz.f15 ratio_Sign_lh c15.ps c15.rs (T := Int) (fun y => (y.2.1)) (a_0, ()) = ratio_Sign a_0 := by kernel_rfl
abbrev e99 : List (Nat × Ctr) := [(15, c15)]
def poly_trim_lh : LH
 | 4 => some ⟨poly_trim_i2, poly_trim_o2, lp poly_trim_s2 K0⟩
 | _ => none
theorem poly_trim_l2 (g : poly_trim_i2.V → Option (OT poly_trim_o2)) (v : poly_trim_i2.V) : loopStep tb (envL e99) 23 poly_trim_lh (loopAt 2 (bodyOf Tryz.f99) .skip) poly_trim_i2 poly_trim_o2 g v = poly_trim_s2 g v := by kernel_rfl
theorem poly_trim_eq (p_0 : List RAT) : fnF tb (envL e99) Tryz.f99 poly_trim_lh c99.ps c99.rs (T := (List RAT)) (fun y => (y.2.1)) (p_0, ()) = poly_trim p_0 := by kernel_rfl
abbrev e97 : List (Nat × Ctr) := [(55, c55), (99, c99)]
def poly_Clean_lh : LH
 | 6 => some ⟨poly_Clean_i3, poly_Clean_o3, lp poly_Clean_s3 K0⟩
 | _ => none
theorem poly_Clean_l3 (g : poly_Clean_i3.V → Option (OT poly_Clean_o3)) (v : poly_Clean_i3.V) : loopStep tb (envL e97) 24 poly_Clean_lh (loopAt 3 (bodyOf Tryz.f97) .skip) poly_Clean_i3 poly_Clean_o3 g v = poly_Clean_s3 g v := by kernel_rfl
theorem poly_Clean_eq (p_0 : List RAT) : fnF tb (envL e97) Tryz.f97 poly_Clean_lh c97.ps c97.rs (T := (List RAT)) (fun y => (y.2.1)) (p_0, ()) = poly_Clean p_0 := by kernel_rfl
abbrev e71 : List (Nat × Ctr) := [(24, c24), (26, c26), (27, c27), (97, c97), (99, c99)]
def poly_Mul_lh : LH
 | 28 => some ⟨poly_Mul_i14, poly_Mul_o14, lp poly_Mul_s14 K0⟩
 | 12 => some ⟨poly_Mul_i6, poly_Mul_o6, lp poly_Mul_s6 K0⟩
 | 22 => some ⟨poly_Mul_i11, poly_Mul_o11, lp poly_Mul_s11 K0⟩
 | _ => none
theorem poly_Mul_l14 (g : poly_Mul_i14.V → Option (OT poly_Mul_o14)) (v : poly_Mul_i14.V) : loopStep tb (envL e71) 73 poly_Mul_lh (loopAt 14 (bodyOf Tryz.f71) .skip) poly_Mul_i14 poly_Mul_o14 g v = poly_Mul_s14 g v := by kernel_rfl
theorem poly_Mul_l6 (g : poly_Mul_i6.V → Option (OT poly_Mul_o6)) (v : poly_Mul_i6.V) : loopStep tb (envL e71) 73 poly_Mul_lh (loopAt 6 (bodyOf Tryz.f71) .skip) poly_Mul_i6 poly_Mul_o6 g v = poly_Mul_s6 g v := by kernel_rfl
theorem poly_Mul_l11 (g : poly_Mul_i11.V → Option (OT poly_Mul_o11)) (v : poly_Mul_i11.V) : loopStep tb (envL e71) 73 poly_Mul_lh (loopAt 11 (bodyOf Tryz.f71) .skip) poly_Mul_i11 poly_Mul_o11 g v = poly_Mul_s11 g v := by kernel_rfl
theorem poly_Mul_eq (a_0 : List RAT) (a_1 : List RAT) : fnF tb (envL e71) Tryz.f71 poly_Mul_lh c71.ps c71.rs (T := (List RAT)) (fun y => (y.2.1)) (a_0, a_1, ()) = poly_Mul a_0 a_1 := by kernel_rfl
abbrev e25 : List (Nat × Ctr) := [(52, c52), (53, c53), (71, c71)]
def linear_Leaf_lh : LH
 | 6 => some ⟨linear_Leaf_i3, linear_Leaf_o3, lp linear_Leaf_s3 K0⟩
 | _ => none
theorem linear_Leaf_l3 (g : linear_Leaf_i3.V → Option (OT linear_Leaf_o3)) (v : linear_Leaf_i3.V) : loopStep tb (envL e25) 21 linear_Leaf_lh (loopAt 3 (bodyOf Tryz.f25) .skip) linear_Leaf_i3 linear_Leaf_o3 g v = linear_Leaf_s3 g v := by kernel_rfl
theorem linear_Leaf_eq (l_0 : LEG) : fnF tb (envL e25) Tryz.f25 linear_Leaf_lh c25.ps c25.rs (T := (List RAT)) (fun y => (y.2.1)) (l_0, ()) = linear_Leaf l_0 := by kernel_rfl
abbrev e84 : List (Nat × Ctr) := [(100, c100), (117, c117)]
def whole_Neg_lh : LH
 | _ => none
theorem whole_Neg_eq (a_0 : WH) : fnF tb (envL e84) Tryz.f84 whole_Neg_lh c84.ps c84.rs (T := WH) (fun y => (y.2.1)) (a_0, ()) = whole_Neg a_0 := by kernel_rfl
abbrev e35 : List (Nat × Ctr) := [(55, c55), (84, c84)]
def ratio_Neg_lh : LH
 | _ => none
theorem ratio_Neg_eq (a_0 : RAT) : fnF tb (envL e35) Tryz.f35 ratio_Neg_lh c35.ps c35.rs (T := RAT) (fun y => (y.2.1)) (a_0, ()) = ratio_Neg a_0 := by kernel_rfl
abbrev e50 : List (Nat × Ctr) := [(26, c26), (35, c35)]
def ratio_Sub_lh : LH
 | _ => none
theorem ratio_Sub_eq (a_0 : RAT) (b_1 : RAT) : fnF tb (envL e50) Tryz.f50 ratio_Sub_lh c50.ps c50.rs (T := RAT) (fun y => (y.2.1)) (a_0, b_1, ()) = ratio_Sub a_0 b_1 := by kernel_rfl
abbrev e86 : List (Nat × Ctr) := [(54, c54), (72, c72), (84, c84), (100, c100)]
def ratio_Make_lh : LH
 | _ => none
theorem ratio_Make_eq (num_0 : WH) (den_1 : WH) : fnF tb (envL e86) Tryz.f86 ratio_Make_lh c86.ps c86.rs (T := RAT × Int) (fun y => (y.2.1, y.2.2.1)) (num_0, den_1, ()) = ratio_Make num_0 den_1 := by kernel_rfl
abbrev e98 : List (Nat × Ctr) := [(55, c55), (75, c75), (86, c86)]
def ratio_Inv_lh : LH
 | _ => none
theorem ratio_Inv_eq (a_0 : RAT) : fnF tb (envL e98) Tryz.f98 ratio_Inv_lh c98.ps c98.rs (T := RAT × Int) (fun y => (y.2.1, y.2.2.1)) (a_0, ()) = ratio_Inv a_0 := by kernel_rfl
abbrev e51 : List (Nat × Ctr) := [(27, c27), (50, c50), (97, c97), (98, c98), (99, c99)]
def poly_DivMod_lh : LH
 | 26 => some ⟨poly_DivMod_i13, poly_DivMod_o13, lp poly_DivMod_s13 K0⟩
 | 18 => some ⟨poly_DivMod_i9, poly_DivMod_o9, lp poly_DivMod_s9 K0⟩
 | _ => none
theorem poly_DivMod_l13 (g : poly_DivMod_i13.V → Option (OT poly_DivMod_o13)) (v : poly_DivMod_i13.V) : loopStep tb (envL e51) 93 poly_DivMod_lh (loopAt 13 (bodyOf Tryz.f51) .skip) poly_DivMod_i13 poly_DivMod_o13 g v = poly_DivMod_s13 g v := by kernel_rfl
theorem poly_DivMod_l9 (g : poly_DivMod_i9.V → Option (OT poly_DivMod_o9)) (v : poly_DivMod_i9.V) : loopStep tb (envL e51) 93 poly_DivMod_lh (loopAt 9 (bodyOf Tryz.f51) .skip) poly_DivMod_i9 poly_DivMod_o9 g v = poly_DivMod_s9 g v := by kernel_rfl
theorem poly_DivMod_eq (a_0 : List RAT) (a_1 : List RAT) : fnF tb (envL e51) Tryz.f51 poly_DivMod_lh c51.ps c51.rs (T := (List RAT) × (List RAT) × Int) (fun y => (y.2.1, y.2.2.1, y.2.2.2.1)) (a_0, a_1, ()) = poly_DivMod a_0 a_1 := by kernel_rfl
abbrev e13 : List (Nat × Ctr) := [(25, c25), (51, c51), (52, c52)]
def linear_Without_lh : LH
 | _ => none
theorem linear_Without_eq (l_0 : LEG) (i_1 : Int) : fnF tb (envL e13) Tryz.f13 linear_Without_lh c13.ps c13.rs (T := (List RAT) × Int) (fun y => (y.2.1, y.2.2.1)) (l_0, i_1, ()) = linear_Without l_0 i_1 := by kernel_rfl
abbrev e63 : List (Nat × Ctr) := []
def weigh_New_lh : LH
 | _ => none
theorem weigh_New_eq  : fnFB tb (envL e63) Tryz.f63 weigh_New_lh w63 c63.ps c63.rs (T := Int × Int × Int × (List WH)) (fun y => (y.2.1, y.2.2.1, y.2.2.2.1, y.2.2.2.2.1)) () = weigh_New  := by kernel_rfl
abbrev e172 : List (Nat × Ctr) := [(74, c74), (87, c87)]
def weigh_products_lh : LH
 | 8 => some ⟨weigh_products_i4, weigh_products_o4, lp weigh_products_s4 K0⟩
 | _ => none
theorem weigh_products_l4 (g : weigh_products_i4.V → Option (OT weigh_products_o4)) (v : weigh_products_i4.V) : loopStep tb (envL e172) 21 weigh_products_lh (loopAt 4 (bodyOf Tryz.f172) .skip) weigh_products_i4 weigh_products_o4 g v = weigh_products_s4 g v := by kernel_rfl
theorem weigh_products_eq  : fnF tb (envL e172) Tryz.f172 weigh_products_lh c172.ps c172.rs (T := (List WH)) (fun y => (y.2.1)) () = weigh_products  := by kernel_rfl
abbrev e171 : List (Nat × Ctr) := [(172, c172)]
def weigh_Table_at_c1_lh : LH
 | _ => none
theorem weigh_Table_at_c1_eq (b_0 : Int) (b_1 : Int) (b_2 : Int) (b_3 : List WH) : fnFB tb (envL e171) Tryz.f171 weigh_Table_at_c1_lh w171 c171.ps c171.rs (T := Int × Int × Int × (List WH)) (fun y => (y.2.1, y.2.2.1, y.2.2.2.1, y.2.2.2.2.1)) (b_0, b_1, b_2, b_3, ()) = weigh_Table_at_c1 b_0 b_1 b_2 b_3 := by kernel_rfl
abbrev e127 : List (Nat × Ctr) := [(74, c74), (86, c86), (161, c161)]
def weigh_Table_quotient_lh : LH
 | _ => none
theorem weigh_Table_quotient_eq (a_0 : Int) (b_1 : Int) (c_2 : Int) (b_3 : Int) (b_4 : Int) (b_5 : Int) (b_6 : List WH) : fnFB tb (envL e127) Tryz.f127 weigh_Table_quotient_lh w127 c127.ps c127.rs (T := RAT × Int × Int × Int × (List WH)) (fun y => (y.2.1, y.2.2.1, y.2.2.2.1, y.2.2.2.2.1, y.2.2.2.2.2.1)) (a_0, b_1, c_2, b_3, b_4, b_5, b_6, ()) = weigh_Table_quotient a_0 b_1 c_2 b_3 b_4 b_5 b_6 := by kernel_rfl
abbrev e91 : List (Nat × Ctr) := [(127, c127)]
def weigh_Table_Weight_lh : LH
 | _ => none
theorem weigh_Table_Weight_eq (s_0 : Int) (n_1 : Int) (b_2 : Int) (b_3 : Int) (b_4 : Int) (b_5 : List WH) : fnFB tb (envL e91) Tryz.f91 weigh_Table_Weight_lh w91 c91.ps c91.rs (T := RAT × Int × Int × Int × Int × (List WH)) (fun y => (y.2.1, y.2.2.1, y.2.2.2.1, y.2.2.2.2.1, y.2.2.2.2.2.1, y.2.2.2.2.2.2.1)) (s_0, n_1, b_2, b_3, b_4, b_5, ()) = weigh_Table_Weight s_0 n_1 b_2 b_3 b_4 b_5 := by kernel_rfl
abbrev e64 : List (Nat × Ctr) := [(91, c91)]
def weigh_Table_All_lh : LH
 | 14 => some ⟨weigh_Table_All_i7, weigh_Table_All_o7, lp weigh_Table_All_s7 K0⟩
 | _ => none
theorem weigh_Table_All_l7 (g : weigh_Table_All_i7.V → Option (OT weigh_Table_All_o7)) (v : weigh_Table_All_i7.V) : loopStep tb (envL e64) 35 weigh_Table_All_lh (loopAt 7 (bodyOf Tryz.f64) .skip) weigh_Table_All_i7 weigh_Table_All_o7 g v = weigh_Table_All_s7 g v := by kernel_rfl
theorem weigh_Table_All_eq (n_0 : Int) (b_1 : Int) (b_2 : Int) (b_3 : Int) (b_4 : List WH) : fnFB tb (envL e64) Tryz.f64 weigh_Table_All_lh w64 c64.ps c64.rs (T := (List RAT) × Int × Int × Int × Int × (List WH)) (fun y => (y.2.1, y.2.2.1, y.2.2.2.1, y.2.2.2.2.1, y.2.2.2.2.2.1, y.2.2.2.2.2.2.1)) (n_0, b_1, b_2, b_3, b_4, ()) = weigh_Table_All n_0 b_1 b_2 b_3 b_4 := by kernel_rfl
abbrev e20 : List (Nat × Ctr) := [(24, c24), (26, c26), (27, c27), (63, c63), (64, c64)]
def linear_Weigh_lh : LH
 | 16 => some ⟨linear_Weigh_i8, linear_Weigh_o8, lp linear_Weigh_s8 K0⟩
 | _ => none
theorem linear_Weigh_l8 (g : linear_Weigh_i8.V → Option (OT linear_Weigh_o8)) (v : linear_Weigh_i8.V) : loopStep tb (envL e20) 44 linear_Weigh_lh (loopAt 8 (bodyOf Tryz.f20) .skip) linear_Weigh_i8 linear_Weigh_o8 g v = linear_Weigh_s8 g v := by kernel_rfl
theorem linear_Weigh_eq (p_0 : List RAT) (n_1 : Int) : fnF tb (envL e20) Tryz.f20 linear_Weigh_lh c20.ps c20.rs (T := RAT × Int) (fun y => (y.2.1, y.2.2.1)) (p_0, n_1, ()) = linear_Weigh p_0 n_1 := by kernel_rfl
abbrev e124 : List (Nat × Ctr) := [(100, c100), (119, c119)]
def whole_Cmp_lh : LH
 | _ => none
theorem whole_Cmp_eq (a_0 : WH) (b_1 : WH) : fnF tb (envL e124) Tryz.f124 whole_Cmp_lh c124.ps c124.rs (T := Int) (fun y => (y.2.1)) (a_0, b_1, ()) = whole_Cmp a_0 b_1 := by kernel_rfl
abbrev e80 : List (Nat × Ctr) := [(55, c55), (74, c74), (75, c75), (124, c124)]
def ratio_Cmp_lh : LH
 | _ => none
theorem ratio_Cmp_eq (a_0 : RAT) (b_1 : RAT) : fnF tb (envL e80) Tryz.f80 ratio_Cmp_lh c80.ps c80.rs (T := Int) (fun y => (y.2.1)) (a_0, b_1, ()) = ratio_Cmp a_0 b_1 := by kernel_rfl
abbrev e30 : List (Nat × Ctr) := [(80, c80)]
def ratio_Same_lh : LH
 | _ => none
theorem ratio_Same_eq (a_0 : RAT) (b_1 : RAT) : fnF tb (envL e30) Tryz.f30 ratio_Same_lh c30.ps c30.rs (T := Bool) (fun y => (y.2.1)) (a_0, b_1, ()) = ratio_Same a_0 b_1 := by kernel_rfl
abbrev e14 : List (Nat × Ctr) := [(20, c20), (30, c30), (53, c53)]
def dendronlaw16_awake_lh : LH
 | _ => none
theorem dendronlaw16_awake_eq  : fnF tb (envL e14) Tryz.f14 dendronlaw16_awake_lh c14.ps c14.rs (T := Bool) (fun y => (y.2.1)) () = dendronlaw16_awake  := by kernel_rfl
abbrev e102 : List (Nat × Ctr) := [(24, c24)]
def poly_at_lh : LH
 | _ => none
theorem poly_at_eq (p_0 : List RAT) (i_1 : Int) : fnF tb (envL e102) Tryz.f102 poly_at_lh c102.ps c102.rs (T := RAT) (fun y => (y.2.1)) (p_0, i_1, ()) = poly_at p_0 i_1 := by kernel_rfl
abbrev e60 : List (Nat × Ctr) := [(26, c26), (99, c99), (102, c102)]
def poly_Add_lh : LH
 | 6 => some ⟨poly_Add_i3, poly_Add_o3, lp poly_Add_s3 K0⟩
 | _ => none
theorem poly_Add_l3 (g : poly_Add_i3.V → Option (OT poly_Add_o3)) (v : poly_Add_i3.V) : loopStep tb (envL e60) 28 poly_Add_lh (loopAt 3 (bodyOf Tryz.f60) .skip) poly_Add_i3 poly_Add_o3 g v = poly_Add_s3 g v := by kernel_rfl
theorem poly_Add_eq (a_0 : List RAT) (b_1 : List RAT) : fnF tb (envL e60) Tryz.f60 poly_Add_lh c60.ps c60.rs (T := (List RAT)) (fun y => (y.2.1)) (a_0, b_1, ()) = poly_Add a_0 b_1 := by kernel_rfl
abbrev e61 : List (Nat × Ctr) := [(27, c27), (99, c99)]
def poly_Scale_lh : LH
 | 6 => some ⟨poly_Scale_i3, poly_Scale_o3, lp poly_Scale_s3 K0⟩
 | _ => none
theorem poly_Scale_l3 (g : poly_Scale_i3.V → Option (OT poly_Scale_o3)) (v : poly_Scale_i3.V) : loopStep tb (envL e61) 23 poly_Scale_lh (loopAt 3 (bodyOf Tryz.f61) .skip) poly_Scale_i3 poly_Scale_o3 g v = poly_Scale_s3 g v := by kernel_rfl
theorem poly_Scale_eq (p_0 : List RAT) (by_1 : RAT) : fnF tb (envL e61) Tryz.f61 poly_Scale_lh c61.ps c61.rs (T := (List RAT)) (fun y => (y.2.1)) (p_0, by_1, ()) = poly_Scale p_0 by_1 := by kernel_rfl
abbrev e56 : List (Nat × Ctr) := [(58, c58), (60, c60), (61, c61)]
def poly_Sub_lh : LH
 | _ => none
theorem poly_Sub_eq (a_0 : List RAT) (b_1 : List RAT) : fnF tb (envL e56) Tryz.f56 poly_Sub_lh c56.ps c56.rs (T := (List RAT)) (fun y => (y.2.1)) (a_0, b_1, ()) = poly_Sub a_0 b_1 := by kernel_rfl
abbrev e16 : List (Nat × Ctr) := [(56, c56)]
def poly_Same_lh : LH
 | _ => none
theorem poly_Same_eq (a_0 : List RAT) (b_1 : List RAT) : fnF tb (envL e16) Tryz.f16 poly_Same_lh c16.ps c16.rs (T := Bool) (fun y => (y.2.1)) (a_0, b_1, ()) = poly_Same a_0 b_1 := by kernel_rfl
abbrev e57 : List (Nat × Ctr) := []
def dendronlaw16_in_lh : LH
 | 4 => some ⟨dendronlaw16_in_i2, dendronlaw16_in_o2, lp dendronlaw16_in_s2 K0⟩
 | _ => none
theorem dendronlaw16_in_l2 (g : dendronlaw16_in_i2.V → Option (OT dendronlaw16_in_o2)) (v : dendronlaw16_in_i2.V) : loopStep tb (envL e57) 16 dendronlaw16_in_lh (loopAt 2 (bodyOf Tryz.f57) .skip) dendronlaw16_in_i2 dendronlaw16_in_o2 g v = dendronlaw16_in_s2 g v := by kernel_rfl
theorem dendronlaw16_in_eq (set_0 : Int) (i_1 : Int) : fnF tb (envL e57) Tryz.f57 dendronlaw16_in_lh c57.ps c57.rs (T := Bool) (fun y => (y.2.1)) (set_0, i_1, ()) = dendronlaw16_in set_0 i_1 := by kernel_rfl
abbrev e17 : List (Nat × Ctr) := [(24, c24), (26, c26), (27, c27), (53, c53), (57, c57)]
def dendronlaw16_sums_lh : LH
 | 28 => some ⟨dendronlaw16_sums_i14, dendronlaw16_sums_o14, lp dendronlaw16_sums_s14 K0⟩
 | 8 => some ⟨dendronlaw16_sums_i4, dendronlaw16_sums_o4, lp dendronlaw16_sums_s4 K0⟩
 | 18 => some ⟨dendronlaw16_sums_i9, dendronlaw16_sums_o9, lp dendronlaw16_sums_s9 K0⟩
 | _ => none
theorem dendronlaw16_sums_l14 (g : dendronlaw16_sums_i14.V → Option (OT dendronlaw16_sums_o14)) (v : dendronlaw16_sums_i14.V) : loopStep tb (envL e17) 64 dendronlaw16_sums_lh (loopAt 14 (bodyOf Tryz.f17) .skip) dendronlaw16_sums_i14 dendronlaw16_sums_o14 g v = dendronlaw16_sums_s14 g v := by kernel_rfl
theorem dendronlaw16_sums_l4 (g : dendronlaw16_sums_i4.V → Option (OT dendronlaw16_sums_o4)) (v : dendronlaw16_sums_i4.V) : loopStep tb (envL e17) 64 dendronlaw16_sums_lh (loopAt 4 (bodyOf Tryz.f17) .skip) dendronlaw16_sums_i4 dendronlaw16_sums_o4 g v = dendronlaw16_sums_s4 g v := by kernel_rfl
theorem dendronlaw16_sums_l9 (g : dendronlaw16_sums_i9.V → Option (OT dendronlaw16_sums_o9)) (v : dendronlaw16_sums_i9.V) : loopStep tb (envL e17) 64 dendronlaw16_sums_lh (loopAt 9 (bodyOf Tryz.f17) .skip) dendronlaw16_sums_i9 dendronlaw16_sums_o9 g v = dendronlaw16_sums_s9 g v := by kernel_rfl
theorem dendronlaw16_sums_eq (parts_0 : List PART) : fnF tb (envL e17) Tryz.f17 dendronlaw16_sums_lh c17.ps c17.rs (T := (List RAT)) (fun y => (y.2.1)) (parts_0, ()) = dendronlaw16_sums parts_0 := by kernel_rfl
abbrev e3 : List (Nat × Ctr) := [(12, c12), (13, c13), (14, c14), (15, c15), (16, c16), (17, c17)]
def dendronlaw16_LinearWithouts_lh : LH
 | _ => none
theorem dendronlaw16_LinearWithouts_eq (a_0 : LEG) (a_1 : Int) : fnF tb (envL e3) Tryz.f3 dendronlaw16_LinearWithouts_lh c3.ps c3.rs (T := Bool) (fun y => (y.2.1)) (a_0, a_1, ()) = dendronlaw16_LinearWithouts a_0 a_1 := by kernel_rfl
def dendronref01_Times_lh : LH
 | 14 => some ⟨dendronref01_Times_i7, dendronref01_Times_o7, lp dendronref01_Times_s7 K0⟩
 | 6 => some ⟨dendronref01_Times_i3, dendronref01_Times_o3, lp dendronref01_Times_s3 K0⟩
 | _ => none
abbrev e110 : List (Nat × Ctr) := []
def dendronlaw07_number_lh : LH
 | _ => none
theorem dendronlaw07_number_eq (a_0 : RAT) : fnF tb (envL e110) Tryz.f110 dendronlaw07_number_lh c110.ps c110.rs (T := RAT) (fun y => (y.2.1)) (a_0, ()) = dendronlaw07_number a_0 := by kernel_rfl
abbrev e67 : List (Nat × Ctr) := [(110, c110)]
def dendronlaw07_Few_lh : LH
 | 14 => some ⟨dendronlaw07_Few_i7, dendronlaw07_Few_o7, lp dendronlaw07_Few_s7 K0⟩
 | 6 => some ⟨dendronlaw07_Few_i3, dendronlaw07_Few_o3, lp dendronlaw07_Few_s3 K0⟩
 | _ => none
theorem dendronlaw07_Few_l7 (g : dendronlaw07_Few_i7.V → Option (OT dendronlaw07_Few_o7)) (v : dendronlaw07_Few_i7.V) : loopStep tb (envL e67) 67 dendronlaw07_Few_lh (loopAt 7 (bodyOf Tryz.f67) .skip) dendronlaw07_Few_i7 dendronlaw07_Few_o7 g v = dendronlaw07_Few_s7 g v := by kernel_rfl
theorem dendronlaw07_Few_l3 (g : dendronlaw07_Few_i3.V → Option (OT dendronlaw07_Few_o3)) (v : dendronlaw07_Few_i3.V) : loopStep tb (envL e67) 67 dendronlaw07_Few_lh (loopAt 3 (bodyOf Tryz.f67) .skip) dendronlaw07_Few_i3 dendronlaw07_Few_o3 g v = dendronlaw07_Few_s3 g v := by kernel_rfl
theorem dendronlaw07_Few_eq (a_0 : MODEL) : fnF tb (envL e67) Tryz.f67 dendronlaw07_Few_lh c67.ps c67.rs (T := MODEL) (fun y => (y.2.1)) (a_0, ()) = dendronlaw07_Few a_0 := by kernel_rfl
abbrev e22 : List (Nat × Ctr) := [(31, c31), (67, c67)]
def dendronlaw11_Small_lh : LH
 | _ => none
theorem dendronlaw11_Small_eq (m_0 : MODEL) (row_1 : List CELL) : fnF tb (envL e22) Tryz.f22 dendronlaw11_Small_lh c22.ps c22.rs (T := MODEL × (List CELL)) (fun y => (y.2.1, y.2.2.1)) (m_0, row_1, ()) = dendronlaw11_Small m_0 row_1 := by kernel_rfl
abbrev e154 : List (Nat × Ctr) := []
def model_Fits_lh : LH
 | 18 => some ⟨model_Fits_i9, model_Fits_o9, lp model_Fits_s9 K0⟩
 | 8 => some ⟨model_Fits_i4, model_Fits_o4, lp model_Fits_s4 K0⟩
 | _ => none
theorem model_Fits_l9 (g : model_Fits_i9.V → Option (OT model_Fits_o9)) (v : model_Fits_i9.V) : loopStep tb (envL e154) 72 model_Fits_lh (loopAt 9 (bodyOf Tryz.f154) .skip) model_Fits_i9 model_Fits_o9 g v = model_Fits_s9 g v := by kernel_rfl
theorem model_Fits_l4 (g : model_Fits_i4.V → Option (OT model_Fits_o4)) (v : model_Fits_i4.V) : loopStep tb (envL e154) 72 model_Fits_lh (loopAt 4 (bodyOf Tryz.f154) .skip) model_Fits_i4 model_Fits_o4 g v = model_Fits_s4 g v := by kernel_rfl
theorem model_Fits_eq (a_0 : MODEL) : fnF tb (envL e154) Tryz.f154 model_Fits_lh c154.ps c154.rs (T := Bool) (fun y => (y.2.1)) (a_0, ()) = model_Fits a_0 := by kernel_rfl
abbrev e155 : List (Nat × Ctr) := []
def valid_ranges_lh : LH
 | 4 => some ⟨valid_ranges_i2, valid_ranges_o2, lp valid_ranges_s2 K0⟩
 | _ => none
theorem valid_ranges_l2 (g : valid_ranges_i2.V → Option (OT valid_ranges_o2)) (v : valid_ranges_i2.V) : loopStep tb (envL e155) 52 valid_ranges_lh (loopAt 2 (bodyOf Tryz.f155) .skip) valid_ranges_i2 valid_ranges_o2 g v = valid_ranges_s2 g v := by kernel_rfl
theorem valid_ranges_eq (t_0 : List NODE) (features_1 : Int) : fnF tb (envL e155) Tryz.f155 valid_ranges_lh c155.ps c155.rs (T := Int × Int) (fun y => (y.2.1, y.2.2.1)) (t_0, features_1, ()) = valid_ranges t_0 features_1 := by kernel_rfl
abbrev e156 : List (Nat × Ctr) := []
def valid_shape_lh : LH
 | 6 => some ⟨valid_shape_i3, valid_shape_o3, lp valid_shape_s3 K0⟩
 | 20 => some ⟨valid_shape_i10, valid_shape_o10, lp valid_shape_s10 K0⟩
 | 34 => some ⟨valid_shape_i17, valid_shape_o17, lp valid_shape_s17 K0⟩
 | 50 => some ⟨valid_shape_i25, valid_shape_o25, lp valid_shape_s25 K0⟩
 | _ => none
theorem valid_shape_l3 (g : valid_shape_i3.V → Option (OT valid_shape_o3)) (v : valid_shape_i3.V) : loopStep tb (envL e156) 103 valid_shape_lh (loopAt 3 (bodyOf Tryz.f156) .skip) valid_shape_i3 valid_shape_o3 g v = valid_shape_s3 g v := by kernel_rfl
theorem valid_shape_l10 (g : valid_shape_i10.V → Option (OT valid_shape_o10)) (v : valid_shape_i10.V) : loopStep tb (envL e156) 103 valid_shape_lh (loopAt 10 (bodyOf Tryz.f156) .skip) valid_shape_i10 valid_shape_o10 g v = valid_shape_s10 g v := by kernel_rfl
theorem valid_shape_l17 (g : valid_shape_i17.V → Option (OT valid_shape_o17)) (v : valid_shape_i17.V) : loopStep tb (envL e156) 103 valid_shape_lh (loopAt 17 (bodyOf Tryz.f156) .skip) valid_shape_i17 valid_shape_o17 g v = valid_shape_s17 g v := by kernel_rfl
theorem valid_shape_l25 (g : valid_shape_i25.V → Option (OT valid_shape_o25)) (v : valid_shape_i25.V) : loopStep tb (envL e156) 103 valid_shape_lh (loopAt 25 (bodyOf Tryz.f156) .skip) valid_shape_i25 valid_shape_o25 g v = valid_shape_s25 g v := by kernel_rfl
theorem valid_shape_eq (a_0 : List NODE) : fnF tb (envL e156) Tryz.f156 valid_shape_lh c156.ps c156.rs (T := Int × Int) (fun y => (y.2.1, y.2.2.1)) (a_0, ()) = valid_shape a_0 := by kernel_rfl
abbrev e157 : List (Nat × Ctr) := [(15, c15)]
def valid_covers_lh : LH
 | 4 => some ⟨valid_covers_i2, valid_covers_o2, lp valid_covers_s2 K0⟩
 | _ => none
theorem valid_covers_l2 (g : valid_covers_i2.V → Option (OT valid_covers_o2)) (v : valid_covers_i2.V) : loopStep tb (envL e157) 19 valid_covers_lh (loopAt 2 (bodyOf Tryz.f157) .skip) valid_covers_i2 valid_covers_o2 g v = valid_covers_s2 g v := by kernel_rfl
theorem valid_covers_eq (t_0 : List NODE) : fnF tb (envL e157) Tryz.f157 valid_covers_lh c157.ps c157.rs (T := Int × Int) (fun y => (y.2.1, y.2.2.1)) (t_0, ()) = valid_covers t_0 := by kernel_rfl
abbrev e158 : List (Nat × Ctr) := [(26, c26), (30, c30)]
def valid_sums_lh : LH
 | 4 => some ⟨valid_sums_i2, valid_sums_o2, lp valid_sums_s2 K0⟩
 | _ => none
theorem valid_sums_l2 (g : valid_sums_i2.V → Option (OT valid_sums_o2)) (v : valid_sums_i2.V) : loopStep tb (envL e158) 37 valid_sums_lh (loopAt 2 (bodyOf Tryz.f158) .skip) valid_sums_i2 valid_sums_o2 g v = valid_sums_s2 g v := by kernel_rfl
theorem valid_sums_eq (t_0 : List NODE) : fnF tb (envL e158) Tryz.f158 valid_sums_lh c158.ps c158.rs (T := Int × Int) (fun y => (y.2.1, y.2.2.1)) (t_0, ()) = valid_sums t_0 := by kernel_rfl
abbrev e159 : List (Nat × Ctr) := []
def valid_fault_lh : LH
 | _ => none
theorem valid_fault_eq (e_0 : Int) (tree_1 : Int) (node_2 : Int) : fnF tb (envL e159) Tryz.f159 valid_fault_lh c159.ps c159.rs (T := (Int × Int × Int × Int)) (fun y => (y.2.1)) (e_0, tree_1, node_2, ()) = valid_fault e_0 tree_1 node_2 := by kernel_rfl
abbrev e121 : List (Nat × Ctr) := [(154, c154), (155, c155), (156, c156), (157, c157), (158, c158), (159, c159)]
def valid_Check_lh : LH
 | 14 => some ⟨valid_Check_i7, valid_Check_o7, lp valid_Check_s7 K0⟩
 | 8 => some ⟨valid_Check_i4, valid_Check_o4, lp valid_Check_s4 K0⟩
 | _ => none
theorem valid_Check_l7 (g : valid_Check_i7.V → Option (OT valid_Check_o7)) (v : valid_Check_i7.V) : loopStep tb (envL e121) 63 valid_Check_lh (loopAt 7 (bodyOf Tryz.f121) .skip) valid_Check_i7 valid_Check_o7 g v = valid_Check_s7 g v := by kernel_rfl
theorem valid_Check_l4 (g : valid_Check_i4.V → Option (OT valid_Check_o4)) (v : valid_Check_i4.V) : loopStep tb (envL e121) 63 valid_Check_lh (loopAt 4 (bodyOf Tryz.f121) .skip) valid_Check_i4 valid_Check_o4 g v = valid_Check_s4 g v := by kernel_rfl
theorem valid_Check_eq (m_0 : MODEL) : fnF tb (envL e121) Tryz.f121 valid_Check_lh c121.ps c121.rs (T := (Int × Int × Int × Int)) (fun y => (y.2.1)) (m_0, ()) = valid_Check m_0 := by kernel_rfl
abbrev e77 : List (Nat × Ctr) := [(121, c121)]
def valid_Ok_lh : LH
 | _ => none
theorem valid_Ok_eq (m_0 : MODEL) : fnF tb (envL e77) Tryz.f77 valid_Ok_lh c77.ps c77.rs (T := Bool) (fun y => (y.2.1)) (m_0, ()) = valid_Ok m_0 := by kernel_rfl
abbrev e68 : List (Nat × Ctr) := [(77, c77)]
def valid_Tree_lh : LH
 | _ => none
theorem valid_Tree_eq (t_0 : List NODE) (features_1 : Int) : fnF tb (envL e68) Tryz.f68 valid_Tree_lh c68.ps c68.rs (T := Bool) (fun y => (y.2.1)) (t_0, features_1, ()) = valid_Tree t_0 features_1 := by kernel_rfl
abbrev e142 : List (Nat × Ctr) := [(80, c80)]
def route_goes_lh : LH
 | _ => none
theorem route_goes_eq (n_0 : NODE) (c_1 : CELL) : fnF tb (envL e142) Tryz.f142 route_goes_lh c142.ps c142.rs (T := Bool) (fun y => (y.2.1)) (n_0, c_1, ()) = route_goes n_0 c_1 := by kernel_rfl
abbrev e111 : List (Nat × Ctr) := [(142, c142)]
def route_Left_lh : LH
 | _ => none
theorem route_Left_eq (n_0 : NODE) (c_1 : CELL) : fnF tb (envL e111) Tryz.f111 route_Left_lh c111.ps c111.rs (T := Bool) (fun y => (y.2.1)) (n_0, c_1, ()) = route_Left n_0 c_1 := by kernel_rfl
abbrev e112 : List (Nat × Ctr) := [(27, c27)]
def expect_along_lh : LH
 | 6 => some ⟨expect_along_i3, expect_along_o3, lp expect_along_s3 K0⟩
 | _ => none
theorem expect_along_l3 (g : expect_along_i3.V → Option (OT expect_along_o3)) (v : expect_along_i3.V) : loopStep tb (envL e112) 86 expect_along_lh (loopAt 3 (bodyOf Tryz.f112) .skip) expect_along_i3 expect_along_o3 g v = expect_along_s3 g v := by kernel_rfl
theorem expect_along_eq (a_0 : List PART) (a_1 : Int) (a_2 : RAT) (a_3 : Bool) : fnF tb (envL e112) Tryz.f112 expect_along_lh c112.ps c112.rs (T := (List PART)) (fun y => (y.2.1)) (a_0, a_1, a_2, a_3, ()) = expect_along a_0 a_1 a_2 a_3 := by kernel_rfl
abbrev e143 : List (Nat × Ctr) := [(27, c27), (98, c98)]
def ratio_Div_lh : LH
 | _ => none
theorem ratio_Div_eq (a_0 : RAT) (b_1 : RAT) : fnF tb (envL e143) Tryz.f143 ratio_Div_lh c143.ps c143.rs (T := RAT × Int) (fun y => (y.2.1, y.2.2.1)) (a_0, b_1, ()) = ratio_Div a_0 b_1 := by kernel_rfl
abbrev e113 : List (Nat × Ctr) := [(143, c143)]
def expect_over_lh : LH
 | _ => none
theorem expect_over_eq (a_0 : RAT) (b_1 : RAT) : fnF tb (envL e113) Tryz.f113 expect_over_lh c113.ps c113.rs (T := RAT) (fun y => (y.2.1)) (a_0, b_1, ()) = expect_over a_0 b_1 := by kernel_rfl
abbrev e69 (n : Nat) : List (Nat × Ctr) := [(55, c55), (69, (c69 n)), (111, c111), (112, c112), (113, c113)]
def expect_legs_lh (n : Nat) : LH
 | _ => none
theorem expect_legs_eq (n : Nat) (a_0 : List NODE) (a_1 : List CELL) (a_2 : Int) (a_3 : List PART) : fnF tb (envL (e69 n)) Tryz.f69 (expect_legs_lh n) (c69 n).ps (c69 n).rs (T := (List LEG)) (fun y => (y.2.1)) (a_0, a_1, a_2, a_3, ()) = expect_legs (n + 1) a_0 a_1 a_2 a_3 := by kernel_rfl
abbrev e23 : List (Nat × Ctr) := [(68, c68), (69, (c69 R0))]
def expect_Legs_lh : LH
 | _ => none
theorem expect_Legs_eq (t_0 : List NODE) (row_1 : List CELL) : fnF tb (envL e23) Tryz.f23 expect_Legs_lh c23.ps c23.rs (T := (List LEG) × Int) (fun y => (y.2.1, y.2.2.1)) (t_0, row_1, ()) = expect_Legs t_0 row_1 := by kernel_rfl
abbrev e95 : List (Nat × Ctr) := [(77, c77)]
def route_fits_lh : LH
 | _ => none
theorem route_fits_eq (m_0 : MODEL) (row_1 : List CELL) : fnF tb (envL e95) Tryz.f95 route_fits_lh c95.ps c95.rs (T := Int) (fun y => (y.2.1)) (m_0, row_1, ()) = route_fits m_0 row_1 := by kernel_rfl
abbrev e78 : List (Nat × Ctr) := [(95, c95)]
def route_Fits_lh : LH
 | _ => none
theorem route_Fits_eq (m_0 : MODEL) (row_1 : List CELL) : fnF tb (envL e78) Tryz.f78 route_Fits_lh c78.ps c78.rs (T := Int) (fun y => (y.2.1)) (m_0, row_1, ()) = route_Fits m_0 row_1 := by kernel_rfl
abbrev e122 : List (Nat × Ctr) := []
def expect_known_lh : LH
 | _ => none
theorem expect_known_eq (set_0 : Int) (feature_1 : Int) : fnF tb (envL e122) Tryz.f122 expect_known_lh c122.ps c122.rs (T := Bool) (fun y => (y.2.1)) (set_0, feature_1, ()) = expect_known set_0 feature_1 := by kernel_rfl
abbrev e123 : List (Nat × Ctr) := [(26, c26), (27, c27), (113, c113)]
def expect_mean_lh : LH
 | _ => none
theorem expect_mean_eq (t_0 : List NODE) (n_1 : NODE) (a_2 : RAT) (b_3 : RAT) : fnF tb (envL e123) Tryz.f123 expect_mean_lh c123.ps c123.rs (T := RAT) (fun y => (y.2.1)) (t_0, n_1, a_2, b_3, ()) = expect_mean t_0 n_1 a_2 b_3 := by kernel_rfl
abbrev e79 (n : Nat) : List (Nat × Ctr) := [(55, c55), (79, (c79 n)), (111, c111), (122, c122), (123, c123)]
def expect_value_lh (n : Nat) : LH
 | _ => none
theorem expect_value_eq (n : Nat) (t_0 : List NODE) (at_1 : Int) (row_2 : List CELL) (set_3 : Int) : fnF tb (envL (e79 n)) Tryz.f79 (expect_value_lh n) (c79 n).ps (c79 n).rs (T := RAT) (fun y => (y.2.1)) (t_0, at_1, row_2, set_3, ()) = expect_value (n + 1) t_0 at_1 row_2 set_3 := by kernel_rfl
abbrev e29 : List (Nat × Ctr) := [(24, c24), (26, c26), (78, c78), (79, (c79 R0))]
def expect_Value_lh : LH
 | 12 => some ⟨expect_Value_i6, expect_Value_o6, lp expect_Value_s6 K0⟩
 | _ => none
theorem expect_Value_l6 (g : expect_Value_i6.V → Option (OT expect_Value_o6)) (v : expect_Value_i6.V) : loopStep tb (envL e29) 35 expect_Value_lh (loopAt 6 (bodyOf Tryz.f29) .skip) expect_Value_i6 expect_Value_o6 g v = expect_Value_s6 g v := by kernel_rfl
theorem expect_Value_eq (m_0 : MODEL) (row_1 : List CELL) (set_2 : Int) : fnF tb (envL e29) Tryz.f29 expect_Value_lh c29.ps c29.rs (T := RAT × Int) (fun y => (y.2.1, y.2.2.1)) (m_0, row_1, set_2, ()) = expect_Value m_0 row_1 set_2 := by kernel_rfl
abbrev e28 : List (Nat × Ctr) := [(29, c29), (77, c77)]
def expect_Base_lh : LH
 | _ => none
theorem expect_Base_eq (m_0 : MODEL) : fnF tb (envL e28) Tryz.f28 expect_Base_lh c28.ps c28.rs (T := RAT × Int) (fun y => (y.2.1, y.2.2.1)) (m_0, ()) = expect_Base m_0 := by kernel_rfl
abbrev e5 : List (Nat × Ctr) := [(14, c14), (22, c22), (23, c23), (24, c24), (25, c25), (26, c26), (27, c27), (28, c28), (29, c29), (30, c30)]
def dendronlaw16_LinearLegs_lh : LH
 | 16 => some ⟨dendronlaw16_LinearLegs_i8, dendronlaw16_LinearLegs_o8, lp dendronlaw16_LinearLegs_s8 K0⟩
 | _ => none
theorem dendronlaw16_LinearLegs_l8 (g : dendronlaw16_LinearLegs_i8.V → Option (OT dendronlaw16_LinearLegs_o8)) (v : dendronlaw16_LinearLegs_i8.V) : loopStep tb (envL e5) 129 dendronlaw16_LinearLegs_lh (loopAt 8 (bodyOf Tryz.f5) .skip) dendronlaw16_LinearLegs_i8 dendronlaw16_LinearLegs_o8 g v = dendronlaw16_LinearLegs_s8 g v := by kernel_rfl
theorem dendronlaw16_LinearLegs_eq (a_0 : List NODE) (a_1 : List CELL) : fnF tb (envL e5) Tryz.f5 dendronlaw16_LinearLegs_lh c5.ps c5.rs (T := Bool) (fun y => (y.2.1)) (a_0, a_1, ()) = dendronlaw16_LinearLegs a_0 a_1 := by kernel_rfl
end Go.Proofs.YtaonkcmflkmncaaGreatDoor.X
