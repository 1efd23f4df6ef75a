/- Own work: part of the proof; the first line of each part says what it tells. -/
import Derived.Test.YtaonkcmflkmncaaGreatDoorLe6


namespace Go.Proofs.YtaonkcmflkmncaaGreatDoor.X
open Go
set_option linter.unusedVariables false
set_option linter.unusedSimpArgs false
set_option maxRecDepth 100000
abbrev e81 : List (Nat × Ctr) := []
def dendronlaw09_number_lh : LH
 | _ => none
theorem dendronlaw09_number_eq (a_0 : RAT) : fnF tb (envL e81) Tryz.f81 dendronlaw09_number_lh c81.ps c81.rs (T := RAT) (fun y => (y.2.1)) (a_0, ()) = dendronlaw09_number a_0 := by kernel_rfl
abbrev e31 : List (Nat × Ctr) := [(81, c81)]
def dendronlaw09_Few_lh : LH
 | 6 => some ⟨dendronlaw09_Few_i3, dendronlaw09_Few_o3, lp dendronlaw09_Few_s3 K0⟩
 | _ => none
theorem dendronlaw09_Few_l3 (g : dendronlaw09_Few_i3.V → Option (OT dendronlaw09_Few_o3)) (v : dendronlaw09_Few_i3.V) : loopStep tb (envL e31) 32 dendronlaw09_Few_lh (loopAt 3 (bodyOf Tryz.f31) .skip) dendronlaw09_Few_i3 dendronlaw09_Few_o3 g v = dendronlaw09_Few_s3 g v := by kernel_rfl
theorem dendronlaw09_Few_eq (l_0 : List CELL) (n_1 : Int) : fnF tb (envL e31) Tryz.f31 dendronlaw09_Few_lh c31.ps c31.rs (T := (List CELL)) (fun y => (y.2.1)) (l_0, n_1, ()) = dendronlaw09_Few l_0 n_1 := by kernel_rfl
abbrev e114 : List (Nat × Ctr) := []
def nat_trim_lh : LH
 | 4 => some ⟨nat_trim_i2, nat_trim_o2, lp nat_trim_s2 K0⟩
 | _ => none
theorem nat_trim_l2 (g : nat_trim_i2.V → Option (OT nat_trim_o2)) (v : nat_trim_i2.V) : loopStep tb (envL e114) 23 nat_trim_lh (loopAt 2 (bodyOf Tryz.f114) .skip) nat_trim_i2 nat_trim_o2 g v = nat_trim_s2 g v := by kernel_rfl
theorem nat_trim_eq (a_0 : List Int) : fnF tb (envL e114) Tryz.f114 nat_trim_lh c114.ps c114.rs (T := (List Int)) (fun y => (y.2.1)) (a_0, ()) = nat_trim a_0 := by kernel_rfl
abbrev e70 : List (Nat × Ctr) := [(114, c114)]
def nat_Of_lh : LH
 | _ => none
theorem nat_Of_eq (n_0 : Int) : fnF tb (envL e70) Tryz.f70 nat_Of_lh c70.ps c70.rs (T := (List Int)) (fun y => (y.2.1)) (n_0, ()) = nat_Of n_0 := by kernel_rfl
abbrev e117 : List (Nat × Ctr) := []
def whole_sign_lh : LH
 | _ => none
theorem whole_sign_eq (neg_0 : Bool) (abs_1 : List Int) : fnF tb (envL e117) Tryz.f117 whole_sign_lh c117.ps c117.rs (T := WH) (fun y => (y.2.1)) (neg_0, abs_1, ()) = whole_sign neg_0 abs_1 := by kernel_rfl
abbrev e87 : List (Nat × Ctr) := [(70, c70), (117, c117)]
def whole_Of_lh : LH
 | _ => none
theorem whole_Of_eq (n_0 : Int) : fnF tb (envL e87) Tryz.f87 whole_Of_lh c87.ps c87.rs (T := WH) (fun y => (y.2.1)) (n_0, ()) = whole_Of n_0 := by kernel_rfl
abbrev e58 : List (Nat × Ctr) := [(70, c70), (87, c87)]
def ratio_Of_lh : LH
 | _ => none
theorem ratio_Of_eq (n_0 : Int) : fnF tb (envL e58) Tryz.f58 ratio_Of_lh c58.ps c58.rs (T := RAT) (fun y => (y.2.1)) (n_0, ()) = ratio_Of n_0 := by kernel_rfl
abbrev e53 : List (Nat × Ctr) := [(58, c58)]
def ratio_One_lh : LH
 | _ => none
theorem ratio_One_eq  : fnF tb (envL e53) Tryz.f53 ratio_One_lh c53.ps c53.rs (T := RAT) (fun y => (y.2.1)) () = ratio_One  := by kernel_rfl
abbrev e24 : List (Nat × Ctr) := [(70, c70)]
def ratio_Zero_lh : LH
 | _ => none
theorem ratio_Zero_eq  : fnF tb (envL e24) Tryz.f24 ratio_Zero_lh c24.ps c24.rs (T := RAT) (fun y => (y.2.1)) () = ratio_Zero  := by kernel_rfl
abbrev e101 : List (Nat × Ctr) := [(114, c114)]
def nat_Clean_lh : LH
 | 6 => some ⟨nat_Clean_i3, nat_Clean_o3, lp nat_Clean_s3 K0⟩
 | _ => none
theorem nat_Clean_l3 (g : nat_Clean_i3.V → Option (OT nat_Clean_o3)) (v : nat_Clean_i3.V) : loopStep tb (envL e101) 24 nat_Clean_lh (loopAt 3 (bodyOf Tryz.f101) .skip) nat_Clean_i3 nat_Clean_o3 g v = nat_Clean_s3 g v := by kernel_rfl
theorem nat_Clean_eq (a_0 : List Int) : fnF tb (envL e101) Tryz.f101 nat_Clean_lh c101.ps c101.rs (T := (List Int)) (fun y => (y.2.1)) (a_0, ()) = nat_Clean a_0 := by kernel_rfl
abbrev e166 : List (Nat × Ctr) := [(101, c101)]
def nat_To_lh : LH
 | _ => none
theorem nat_To_eq (a_0 : List Int) : fnF tb (envL e166) Tryz.f166 nat_To_lh c166.ps c166.rs (T := Int × Bool) (fun y => (y.2.1, y.2.2.1)) (a_0, ()) = nat_To a_0 := by kernel_rfl
abbrev e144 : List (Nat × Ctr) := [(70, c70), (166, c166)]
def nat_euclid_lh : LH
 | 6 => some ⟨nat_euclid_i3, nat_euclid_o3, lp nat_euclid_s3 K0⟩
 | _ => none
theorem nat_euclid_l3 (g : nat_euclid_i3.V → Option (OT nat_euclid_o3)) (v : nat_euclid_i3.V) : loopStep tb (envL e144) 27 nat_euclid_lh (loopAt 3 (bodyOf Tryz.f144) .skip) nat_euclid_i3 nat_euclid_o3 g v = nat_euclid_s3 g v := by kernel_rfl
theorem nat_euclid_eq (a_0 : List Int) (b_1 : List Int) : fnF tb (envL e144) Tryz.f144 nat_euclid_lh c144.ps c144.rs (T := (List Int)) (fun y => (y.2.1)) (a_0, b_1, ()) = nat_euclid a_0 b_1 := by kernel_rfl
abbrev e145 : List (Nat × Ctr) := [(167, c167)]
def nat_zeros_lh : LH
 | 6 => some ⟨nat_zeros_i3, nat_zeros_o3, lp nat_zeros_s3 K0⟩
 | _ => none
theorem nat_zeros_l3 (g : nat_zeros_i3.V → Option (OT nat_zeros_o3)) (v : nat_zeros_i3.V) : loopStep tb (envL e145) 24 nat_zeros_lh (loopAt 3 (bodyOf Tryz.f145) .skip) nat_zeros_i3 nat_zeros_o3 g v = nat_zeros_s3 g v := by kernel_rfl
theorem nat_zeros_eq (a_0 : List Int) : fnF tb (envL e145) Tryz.f145 nat_zeros_lh c145.ps c145.rs (T := Int) (fun y => (y.2.1)) (a_0, ()) = nat_zeros a_0 := by kernel_rfl
abbrev e153 : List (Nat × Ctr) := []
def nat_limb_lh : LH
 | _ => none
theorem nat_limb_eq (a_0 : List Int) (i_1 : Int) : fnF tb (envL e153) Tryz.f153 nat_limb_lh c153.ps c153.rs (T := Int) (fun y => (y.2.1)) (a_0, i_1, ()) = nat_limb a_0 i_1 := by kernel_rfl
abbrev e146 : List (Nat × Ctr) := [(114, c114), (153, c153)]
def nat_shr_lh : LH
 | 12 => some ⟨nat_shr_i6, nat_shr_o6, lp nat_shr_s6 K0⟩
 | _ => none
theorem nat_shr_l6 (g : nat_shr_i6.V → Option (OT nat_shr_o6)) (v : nat_shr_i6.V) : loopStep tb (envL e146) 50 nat_shr_lh (loopAt 6 (bodyOf Tryz.f146) .skip) nat_shr_i6 nat_shr_o6 g v = nat_shr_s6 g v := by kernel_rfl
theorem nat_shr_eq (a_0 : List Int) (n_1 : Int) : fnF tb (envL e146) Tryz.f146 nat_shr_lh c146.ps c146.rs (T := (List Int)) (fun y => (y.2.1)) (a_0, n_1, ()) = nat_shr a_0 n_1 := by kernel_rfl
abbrev e147 : List (Nat × Ctr) := []
def nat_order_lh : LH
 | 12 => some ⟨nat_order_i6, nat_order_o6, lp nat_order_s6 K0⟩
 | _ => none
theorem nat_order_l6 (g : nat_order_i6.V → Option (OT nat_order_o6)) (v : nat_order_i6.V) : loopStep tb (envL e147) 45 nat_order_lh (loopAt 6 (bodyOf Tryz.f147) .skip) nat_order_i6 nat_order_o6 g v = nat_order_s6 g v := by kernel_rfl
theorem nat_order_eq (a_0 : List Int) (b_1 : List Int) : fnF tb (envL e147) Tryz.f147 nat_order_lh c147.ps c147.rs (T := Int) (fun y => (y.2.1)) (a_0, b_1, ()) = nat_order a_0 b_1 := by kernel_rfl
abbrev e148 : List (Nat × Ctr) := [(114, c114)]
def nat_shl_lh : LH
 | 8 => some ⟨nat_shl_i4, nat_shl_o4, lp nat_shl_s4 K0⟩
 | _ => none
theorem nat_shl_l4 (g : nat_shl_i4.V → Option (OT nat_shl_o4)) (v : nat_shl_i4.V) : loopStep tb (envL e148) 51 nat_shl_lh (loopAt 4 (bodyOf Tryz.f148) .skip) nat_shl_i4 nat_shl_o4 g v = nat_shl_s4 g v := by kernel_rfl
theorem nat_shl_eq (a_0 : List Int) (n_1 : Int) : fnF tb (envL e148) Tryz.f148 nat_shl_lh c148.ps c148.rs (T := (List Int)) (fun y => (y.2.1)) (a_0, n_1, ()) = nat_shl a_0 n_1 := by kernel_rfl
abbrev e151 : List (Nat × Ctr) := [(114, c114)]
def nat_small_lh : LH
 | 8 => some ⟨nat_small_i4, nat_small_o4, lp nat_small_s4 K0⟩
 | _ => none
theorem nat_small_l4 (g : nat_small_i4.V → Option (OT nat_small_o4)) (v : nat_small_i4.V) : loopStep tb (envL e151) 38 nat_small_lh (loopAt 4 (bodyOf Tryz.f151) .skip) nat_small_i4 nat_small_o4 g v = nat_small_s4 g v := by kernel_rfl
theorem nat_small_eq (a_0 : List Int) (d_1 : Int) : fnF tb (envL e151) Tryz.f151 nat_small_lh c151.ps c151.rs (T := (List Int) × Int) (fun y => (y.2.1, y.2.2.1)) (a_0, d_1, ()) = nat_small a_0 d_1 := by kernel_rfl
abbrev e168 : List (Nat × Ctr) := [(174, c174)]
def bits_LeadingZeros32_lh : LH
 | _ => none
theorem bits_LeadingZeros32_eq (x_0 : Int) : fnF tb (envL e168) Tryz.f168 bits_LeadingZeros32_lh c168.ps c168.rs (T := Int) (fun y => (y.2.1)) (x_0, ()) = bits_LeadingZeros32 x_0 := by kernel_rfl
abbrev e175 : List (Nat × Ctr) := [(153, c153)]
def nat_take_lh : LH
 | 6 => some ⟨nat_take_i3, nat_take_o3, lp nat_take_s3 K0⟩
 | _ => none
theorem nat_take_l3 (g : nat_take_i3.V → Option (OT nat_take_o3)) (v : nat_take_i3.V) : loopStep tb (envL e175) 46 nat_take_lh (loopAt 3 (bodyOf Tryz.f175) .skip) nat_take_i3 nat_take_o3 g v = nat_take_s3 g v := by kernel_rfl
theorem nat_take_eq (u_0 : List Int) (v_1 : List Int) (times_2 : Int) : fnF tb (envL e175) Tryz.f175 nat_take_lh c175.ps c175.rs (T := (List Int) × Bool) (fun y => (y.1.1, y.2.1)) (u_0, v_1, times_2, ()) = nat_take u_0 v_1 times_2 := by kernel_rfl
abbrev e176 : List (Nat × Ctr) := [(153, c153)]
def nat_give_lh : LH
 | 4 => some ⟨nat_give_i2, nat_give_o2, lp nat_give_s2 K0⟩
 | _ => none
theorem nat_give_l2 (g : nat_give_i2.V → Option (OT nat_give_o2)) (v : nat_give_i2.V) : loopStep tb (envL e176) 29 nat_give_lh (loopAt 2 (bodyOf Tryz.f176) .skip) nat_give_i2 nat_give_o2 g v = nat_give_s2 g v := by kernel_rfl
theorem nat_give_eq (u_0 : List Int) (v_1 : List Int) : fnF tb (envL e176) Tryz.f176 nat_give_lh c176.ps c176.rs (T := (List Int)) (fun y => (y.1.1)) (u_0, v_1, ()) = nat_give u_0 v_1 := by kernel_rfl
abbrev e169 : List (Nat × Ctr) := [(175, c175), (176, c176)]
def nat_digit_lh : LH
 | 8 => some ⟨nat_digit_i4, nat_digit_o4, lp nat_digit_s4 K0⟩
 | _ => none
theorem nat_digit_l4 (g : nat_digit_i4.V → Option (OT nat_digit_o4)) (v : nat_digit_i4.V) : loopStep tb (envL e169) 77 nat_digit_lh (loopAt 4 (bodyOf Tryz.f169) .skip) nat_digit_i4 nat_digit_o4 g v = nat_digit_s4 g v := by kernel_rfl
theorem nat_digit_eq (a_0 : List Int) (a_1 : List Int) : fnF tb (envL e169) Tryz.f169 nat_digit_lh c169.ps c169.rs (T := (List Int) × Int) (fun y => (y.1.1, y.2.1)) (a_0, a_1, ()) = nat_digit a_0 a_1 := by kernel_rfl
abbrev e152 : List (Nat × Ctr) := [(114, c114), (146, c146), (148, c148), (168, c168), (169, c169)]
def nat_long_lh : LH
 | 14 => some ⟨nat_long_i7, nat_long_o7, lp nat_long_s7 K0⟩
 | _ => none
theorem nat_long_l7 (g : nat_long_i7.V → Option (OT nat_long_o7)) (v : nat_long_i7.V) : loopStep tb (envL e152) 64 nat_long_lh (loopAt 7 (bodyOf Tryz.f152) .skip) nat_long_i7 nat_long_o7 g v = nat_long_s7 g v := by kernel_rfl
theorem nat_long_eq (a_0 : List Int) (b_1 : List Int) : fnF tb (envL e152) Tryz.f152 nat_long_lh c152.ps c152.rs (T := (List Int) × (List Int)) (fun y => (y.2.1, y.2.2.1)) (a_0, b_1, ()) = nat_long a_0 b_1 := by kernel_rfl
abbrev e116 : List (Nat × Ctr) := [(70, c70), (101, c101), (147, c147), (151, c151), (152, c152)]
def nat_DivMod_lh : LH
 | _ => none
theorem nat_DivMod_eq (a_0 : List Int) (b_1 : List Int) : fnF tb (envL e116) Tryz.f116 nat_DivMod_lh c116.ps c116.rs (T := (List Int) × (List Int) × Int) (fun y => (y.2.1, y.2.2.1, y.2.2.2.1)) (a_0, b_1, ()) = nat_DivMod a_0 b_1 := by kernel_rfl
abbrev e149 : List (Nat × Ctr) := [(116, c116)]
def nat_rest_lh : LH
 | _ => none
theorem nat_rest_eq (a_0 : List Int) (b_1 : List Int) : fnF tb (envL e149) Tryz.f149 nat_rest_lh c149.ps c149.rs (T := (List Int) × (List Int)) (fun y => (y.2.1, y.2.2.1)) (a_0, b_1, ()) = nat_rest a_0 b_1 := by kernel_rfl
abbrev e150 : List (Nat × Ctr) := [(114, c114), (153, c153)]
def nat_minus_lh : LH
 | 8 => some ⟨nat_minus_i4, nat_minus_o4, lp nat_minus_s4 K0⟩
 | _ => none
theorem nat_minus_l4 (g : nat_minus_i4.V → Option (OT nat_minus_o4)) (v : nat_minus_i4.V) : loopStep tb (envL e150) 39 nat_minus_lh (loopAt 4 (bodyOf Tryz.f150) .skip) nat_minus_i4 nat_minus_o4 g v = nat_minus_s4 g v := by kernel_rfl
theorem nat_minus_eq (a_0 : List Int) (b_1 : List Int) : fnF tb (envL e150) Tryz.f150 nat_minus_lh c150.ps c150.rs (T := (List Int)) (fun y => (y.2.1)) (a_0, b_1, ()) = nat_minus a_0 b_1 := by kernel_rfl
abbrev e115 : List (Nat × Ctr) := [(101, c101), (144, c144), (145, c145), (146, c146), (147, c147), (148, c148), (149, c149), (150, c150)]
def nat_Gcd_lh : LH
 | 20 => some ⟨nat_Gcd_i10, nat_Gcd_o10, lp nat_Gcd_s10 K0⟩
 | _ => none
theorem nat_Gcd_l10 (g : nat_Gcd_i10.V → Option (OT nat_Gcd_o10)) (v : nat_Gcd_i10.V) : loopStep tb (envL e115) 86 nat_Gcd_lh (loopAt 10 (bodyOf Tryz.f115) .skip) nat_Gcd_i10 nat_Gcd_o10 g v = nat_Gcd_s10 g v := by kernel_rfl
theorem nat_Gcd_eq (a_0 : List Int) (a_1 : List Int) : fnF tb (envL e115) Tryz.f115 nat_Gcd_lh c115.ps c115.rs (T := (List Int)) (fun y => (y.2.1)) (a_0, a_1, ()) = nat_Gcd a_0 a_1 := by kernel_rfl
abbrev e72 : List (Nat × Ctr) := [(70, c70), (115, c115), (116, c116)]
def ratio_form_lh : LH
 | _ => none
theorem ratio_form_eq (num_0 : WH) (den_1 : List Int) : fnF tb (envL e72) Tryz.f72 ratio_form_lh c72.ps c72.rs (T := RAT) (fun y => (y.2.1)) (num_0, den_1, ()) = ratio_form num_0 den_1 := by kernel_rfl
abbrev e100 : List (Nat × Ctr) := [(101, c101), (117, c117)]
def whole_Clean_lh : LH
 | _ => none
theorem whole_Clean_eq (a_0 : WH) : fnF tb (envL e100) Tryz.f100 whole_Clean_lh c100.ps c100.rs (T := WH) (fun y => (y.2.1)) (a_0, ()) = whole_Clean a_0 := by kernel_rfl
abbrev e55 : List (Nat × Ctr) := [(24, c24), (72, c72), (100, c100), (101, c101)]
def ratio_Clean_lh : LH
 | _ => none
theorem ratio_Clean_eq (a_0 : RAT) : fnF tb (envL e55) Tryz.f55 ratio_Clean_lh c55.ps c55.rs (T := RAT) (fun y => (y.2.1)) (a_0, ()) = ratio_Clean a_0 := by kernel_rfl
abbrev e118 : List (Nat × Ctr) := [(101, c101), (114, c114), (153, c153)]
def nat_Add_lh : LH
 | 10 => some ⟨nat_Add_i5, nat_Add_o5, lp nat_Add_s5 K0⟩
 | _ => none
theorem nat_Add_l5 (g : nat_Add_i5.V → Option (OT nat_Add_o5)) (v : nat_Add_i5.V) : loopStep tb (envL e118) 43 nat_Add_lh (loopAt 5 (bodyOf Tryz.f118) .skip) nat_Add_i5 nat_Add_o5 g v = nat_Add_s5 g v := by kernel_rfl
theorem nat_Add_eq (a_0 : List Int) (b_1 : List Int) : fnF tb (envL e118) Tryz.f118 nat_Add_lh c118.ps c118.rs (T := (List Int)) (fun y => (y.2.1)) (a_0, b_1, ()) = nat_Add a_0 b_1 := by kernel_rfl
abbrev e119 : List (Nat × Ctr) := [(101, c101), (147, c147)]
def nat_Cmp_lh : LH
 | _ => none
theorem nat_Cmp_eq (a_0 : List Int) (b_1 : List Int) : fnF tb (envL e119) Tryz.f119 nat_Cmp_lh c119.ps c119.rs (T := Int) (fun y => (y.2.1)) (a_0, b_1, ()) = nat_Cmp a_0 b_1 := by kernel_rfl
abbrev e120 : List (Nat × Ctr) := [(101, c101), (147, c147), (150, c150)]
def nat_Sub_lh : LH
 | _ => none
theorem nat_Sub_eq (a_0 : List Int) (b_1 : List Int) : fnF tb (envL e120) Tryz.f120 nat_Sub_lh c120.ps c120.rs (T := (List Int) × Int) (fun y => (y.2.1, y.2.2.1)) (a_0, b_1, ()) = nat_Sub a_0 b_1 := by kernel_rfl
abbrev e73 : List (Nat × Ctr) := [(100, c100), (117, c117), (118, c118), (119, c119), (120, c120)]
def whole_Add_lh : LH
 | _ => none
theorem whole_Add_eq (a_0 : WH) (b_1 : WH) : fnF tb (envL e73) Tryz.f73 whole_Add_lh c73.ps c73.rs (T := WH) (fun y => (y.2.1)) (a_0, b_1, ()) = whole_Add a_0 b_1 := by kernel_rfl
abbrev e76 : List (Nat × Ctr) := [(101, c101), (114, c114)]
def nat_Mul_lh : LH
 | 16 => some ⟨nat_Mul_i8, nat_Mul_o8, lp nat_Mul_s8 K0⟩
 | 8 => some ⟨nat_Mul_i4, nat_Mul_o4, lp nat_Mul_s4 K0⟩
 | _ => none
theorem nat_Mul_l8 (g : nat_Mul_i8.V → Option (OT nat_Mul_o8)) (v : nat_Mul_i8.V) : loopStep tb (envL e76) 67 nat_Mul_lh (loopAt 8 (bodyOf Tryz.f76) .skip) nat_Mul_i8 nat_Mul_o8 g v = nat_Mul_s8 g v := by kernel_rfl
theorem nat_Mul_l4 (g : nat_Mul_i4.V → Option (OT nat_Mul_o4)) (v : nat_Mul_i4.V) : loopStep tb (envL e76) 67 nat_Mul_lh (loopAt 4 (bodyOf Tryz.f76) .skip) nat_Mul_i4 nat_Mul_o4 g v = nat_Mul_s4 g v := by kernel_rfl
theorem nat_Mul_eq (a_0 : List Int) (a_1 : List Int) : fnF tb (envL e76) Tryz.f76 nat_Mul_lh c76.ps c76.rs (T := (List Int)) (fun y => (y.2.1)) (a_0, a_1, ()) = nat_Mul a_0 a_1 := by kernel_rfl
abbrev e74 : List (Nat × Ctr) := [(76, c76), (100, c100), (117, c117)]
def whole_Mul_lh : LH
 | _ => none
theorem whole_Mul_eq (a_0 : WH) (b_1 : WH) : fnF tb (envL e74) Tryz.f74 whole_Mul_lh c74.ps c74.rs (T := WH) (fun y => (y.2.1)) (a_0, b_1, ()) = whole_Mul a_0 b_1 := by kernel_rfl
abbrev e75 : List (Nat × Ctr) := []
def ratio_den_lh : LH
 | _ => none
theorem ratio_den_eq (a_0 : RAT) : fnF tb (envL e75) Tryz.f75 ratio_den_lh c75.ps c75.rs (T := WH) (fun y => (y.2.1)) (a_0, ()) = ratio_den a_0 := by kernel_rfl
abbrev e26 : List (Nat × Ctr) := [(55, c55), (72, c72), (73, c73), (74, c74), (75, c75), (76, c76)]
def ratio_Add_lh : LH
 | _ => none
theorem ratio_Add_eq (a_0 : RAT) (b_1 : RAT) : fnF tb (envL e26) Tryz.f26 ratio_Add_lh c26.ps c26.rs (T := RAT) (fun y => (y.2.1)) (a_0, b_1, ()) = ratio_Add a_0 b_1 := by kernel_rfl
abbrev e27 : List (Nat × Ctr) := [(55, c55), (72, c72), (74, c74), (76, c76)]
def ratio_Mul_lh : LH
 | _ => none
theorem ratio_Mul_eq (a_0 : RAT) (b_1 : RAT) : fnF tb (envL e27) Tryz.f27 ratio_Mul_lh c27.ps c27.rs (T := RAT) (fun y => (y.2.1)) (a_0, b_1, ()) = ratio_Mul a_0 b_1 := by kernel_rfl
abbrev e54 : List (Nat × Ctr) := [(100, c100)]
def whole_Sign_lh : LH
 | _ => none
theorem whole_Sign_eq (a_0 : WH) : fnF tb (envL e54) Tryz.f54 whole_Sign_lh c54.ps c54.rs (T := Int) (fun y => (y.2.1)) (a_0, ()) = whole_Sign a_0 := by kernel_rfl
abbrev e15 : List (Nat × Ctr) := [(54, c54), (55, c55)]
def ratio_Sign_lh : LH
 | _ => none
theorem ratio_Sign_eq (a_0 : RAT) : fnF tb (envL e15) Tryz.f15 ratio_Sign_lh c15.ps c15.rs (T := Int) (fun y => (y.2.1)) (a_0, ()) = ratio_Sign a_0 := by kernel_rfl
abbrev e99 : List (Nat × Ctr) := [(15, c15)]
def poly_trim_lh : LH
 | 4 => some ⟨poly_trim_i2, poly_trim_o2, lp poly_trim_s2 K0⟩
 | _ => none
theorem poly_trim_l2 (g : poly_trim_i2.V → Option (OT poly_trim_o2)) (v : poly_trim_i2.V) : loopStep tb (envL e99) 23 poly_trim_lh (loopAt 2 (bodyOf Tryz.f99) .skip) poly_trim_i2 poly_trim_o2 g v = poly_trim_s2 g v := by kernel_rfl
theorem poly_trim_eq (p_0 : List RAT) : fnF tb (envL e99) Tryz.f99 poly_trim_lh c99.ps c99.rs (T := (List RAT)) (fun y => (y.2.1)) (p_0, ()) = poly_trim p_0 := by kernel_rfl
abbrev e97 : List (Nat × Ctr) := [(55, c55), (99, c99)]
def poly_Clean_lh : LH
 | 6 => some ⟨poly_Clean_i3, poly_Clean_o3, lp poly_Clean_s3 K0⟩
 | _ => none
theorem poly_Clean_l3 (g : poly_Clean_i3.V → Option (OT poly_Clean_o3)) (v : poly_Clean_i3.V) : loopStep tb (envL e97) 24 poly_Clean_lh (loopAt 3 (bodyOf Tryz.f97) .skip) poly_Clean_i3 poly_Clean_o3 g v = poly_Clean_s3 g v := by kernel_rfl
theorem poly_Clean_eq (p_0 : List RAT) : fnF tb (envL e97) Tryz.f97 poly_Clean_lh c97.ps c97.rs (T := (List RAT)) (fun y => (y.2.1)) (p_0, ()) = poly_Clean p_0 := by kernel_rfl
abbrev e71 : List (Nat × Ctr) := [(24, c24), (26, c26), (27, c27), (97, c97), (99, c99)]
def poly_Mul_lh : LH
 | 28 => some ⟨poly_Mul_i14, poly_Mul_o14, lp poly_Mul_s14 K0⟩
 | 12 => some ⟨poly_Mul_i6, poly_Mul_o6, lp poly_Mul_s6 K0⟩
 | 22 => some ⟨poly_Mul_i11, poly_Mul_o11, lp poly_Mul_s11 K0⟩
 | _ => none
theorem poly_Mul_l14 (g : poly_Mul_i14.V → Option (OT poly_Mul_o14)) (v : poly_Mul_i14.V) : loopStep tb (envL e71) 73 poly_Mul_lh (loopAt 14 (bodyOf Tryz.f71) .skip) poly_Mul_i14 poly_Mul_o14 g v = poly_Mul_s14 g v := by kernel_rfl
theorem poly_Mul_l6 (g : poly_Mul_i6.V → Option (OT poly_Mul_o6)) (v : poly_Mul_i6.V) : loopStep tb (envL e71) 73 poly_Mul_lh (loopAt 6 (bodyOf Tryz.f71) .skip) poly_Mul_i6 poly_Mul_o6 g v = poly_Mul_s6 g v := by kernel_rfl
theorem poly_Mul_l11 (g : poly_Mul_i11.V → Option (OT poly_Mul_o11)) (v : poly_Mul_i11.V) : loopStep tb (envL e71) 73 poly_Mul_lh (loopAt 11 (bodyOf Tryz.f71) .skip) poly_Mul_i11 poly_Mul_o11 g v = poly_Mul_s11 g v := by kernel_rfl
theorem poly_Mul_eq (a_0 : List RAT) (a_1 : List RAT) : fnF tb (envL e71) Tryz.f71 poly_Mul_lh c71.ps c71.rs (T := (List RAT)) (fun y => (y.2.1)) (a_0, a_1, ()) = poly_Mul a_0 a_1 := by kernel_rfl
abbrev e84 : List (Nat × Ctr) := [(100, c100), (117, c117)]
def whole_Neg_lh : LH
 | _ => none
theorem whole_Neg_eq (a_0 : WH) : fnF tb (envL e84) Tryz.f84 whole_Neg_lh c84.ps c84.rs (T := WH) (fun y => (y.2.1)) (a_0, ()) = whole_Neg a_0 := by kernel_rfl
abbrev e35 : List (Nat × Ctr) := [(55, c55), (84, c84)]
def ratio_Neg_lh : LH
 | _ => none
theorem ratio_Neg_eq (a_0 : RAT) : fnF tb (envL e35) Tryz.f35 ratio_Neg_lh c35.ps c35.rs (T := RAT) (fun y => (y.2.1)) (a_0, ()) = ratio_Neg a_0 := by kernel_rfl
abbrev e50 : List (Nat × Ctr) := [(26, c26), (35, c35)]
def ratio_Sub_lh : LH
 | _ => none
theorem ratio_Sub_eq (a_0 : RAT) (b_1 : RAT) : fnF tb (envL e50) Tryz.f50 ratio_Sub_lh c50.ps c50.rs (T := RAT) (fun y => (y.2.1)) (a_0, b_1, ()) = ratio_Sub a_0 b_1 := by kernel_rfl
abbrev e86 : List (Nat × Ctr) := [(54, c54), (72, c72), (84, c84), (100, c100)]
def ratio_Make_lh : LH
 | _ => none
theorem ratio_Make_eq (num_0 : WH) (den_1 : WH) : fnF tb (envL e86) Tryz.f86 ratio_Make_lh c86.ps c86.rs (T := RAT × Int) (fun y => (y.2.1, y.2.2.1)) (num_0, den_1, ()) = ratio_Make num_0 den_1 := by kernel_rfl
abbrev e63 : List (Nat × Ctr) := []
def weigh_New_lh : LH
 | _ => none
theorem weigh_New_eq  : fnFB tb (envL e63) Tryz.f63 weigh_New_lh w63 c63.ps c63.rs (T := Int × Int × Int × (List WH)) (fun y => (y.2.1, y.2.2.1, y.2.2.2.1, y.2.2.2.2.1)) () = weigh_New  := by kernel_rfl
abbrev e172 : List (Nat × Ctr) := [(74, c74), (87, c87)]
def weigh_products_lh : LH
 | 8 => some ⟨weigh_products_i4, weigh_products_o4, lp weigh_products_s4 K0⟩
 | _ => none
theorem weigh_products_l4 (g : weigh_products_i4.V → Option (OT weigh_products_o4)) (v : weigh_products_i4.V) : loopStep tb (envL e172) 21 weigh_products_lh (loopAt 4 (bodyOf Tryz.f172) .skip) weigh_products_i4 weigh_products_o4 g v = weigh_products_s4 g v := by kernel_rfl
theorem weigh_products_eq  : fnF tb (envL e172) Tryz.f172 weigh_products_lh c172.ps c172.rs (T := (List WH)) (fun y => (y.2.1)) () = weigh_products  := by kernel_rfl
abbrev e171 : List (Nat × Ctr) := [(172, c172)]
def weigh_Table_at_c1_lh : LH
 | _ => none
theorem weigh_Table_at_c1_eq (b_0 : Int) (b_1 : Int) (b_2 : Int) (b_3 : List WH) : fnFB tb (envL e171) Tryz.f171 weigh_Table_at_c1_lh w171 c171.ps c171.rs (T := Int × Int × Int × (List WH)) (fun y => (y.2.1, y.2.2.1, y.2.2.2.1, y.2.2.2.2.1)) (b_0, b_1, b_2, b_3, ()) = weigh_Table_at_c1 b_0 b_1 b_2 b_3 := by kernel_rfl
abbrev e127 : List (Nat × Ctr) := [(74, c74), (86, c86), (161, c161)]
def weigh_Table_quotient_lh : LH
 | _ => none
theorem weigh_Table_quotient_eq (a_0 : Int) (b_1 : Int) (c_2 : Int) (b_3 : Int) (b_4 : Int) (b_5 : Int) (b_6 : List WH) : fnFB tb (envL e127) Tryz.f127 weigh_Table_quotient_lh w127 c127.ps c127.rs (T := RAT × Int × Int × Int × (List WH)) (fun y => (y.2.1, y.2.2.1, y.2.2.2.1, y.2.2.2.2.1, y.2.2.2.2.2.1)) (a_0, b_1, c_2, b_3, b_4, b_5, b_6, ()) = weigh_Table_quotient a_0 b_1 c_2 b_3 b_4 b_5 b_6 := by kernel_rfl
abbrev e91 : List (Nat × Ctr) := [(127, c127)]
def weigh_Table_Weight_lh : LH
 | _ => none
theorem weigh_Table_Weight_eq (s_0 : Int) (n_1 : Int) (b_2 : Int) (b_3 : Int) (b_4 : Int) (b_5 : List WH) : fnFB tb (envL e91) Tryz.f91 weigh_Table_Weight_lh w91 c91.ps c91.rs (T := RAT × Int × Int × Int × Int × (List WH)) (fun y => (y.2.1, y.2.2.1, y.2.2.2.1, y.2.2.2.2.1, y.2.2.2.2.2.1, y.2.2.2.2.2.2.1)) (s_0, n_1, b_2, b_3, b_4, b_5, ()) = weigh_Table_Weight s_0 n_1 b_2 b_3 b_4 b_5 := by kernel_rfl
abbrev e64 : List (Nat × Ctr) := [(91, c91)]
def weigh_Table_All_lh : LH
 | 14 => some ⟨weigh_Table_All_i7, weigh_Table_All_o7, lp weigh_Table_All_s7 K0⟩
 | _ => none
theorem weigh_Table_All_l7 (g : weigh_Table_All_i7.V → Option (OT weigh_Table_All_o7)) (v : weigh_Table_All_i7.V) : loopStep tb (envL e64) 35 weigh_Table_All_lh (loopAt 7 (bodyOf Tryz.f64) .skip) weigh_Table_All_i7 weigh_Table_All_o7 g v = weigh_Table_All_s7 g v := by kernel_rfl
theorem weigh_Table_All_eq (n_0 : Int) (b_1 : Int) (b_2 : Int) (b_3 : Int) (b_4 : List WH) : fnFB tb (envL e64) Tryz.f64 weigh_Table_All_lh w64 c64.ps c64.rs (T := (List RAT) × Int × Int × Int × Int × (List WH)) (fun y => (y.2.1, y.2.2.1, y.2.2.2.1, y.2.2.2.2.1, y.2.2.2.2.2.1, y.2.2.2.2.2.2.1)) (n_0, b_1, b_2, b_3, b_4, ()) = weigh_Table_All n_0 b_1 b_2 b_3 b_4 := by kernel_rfl
abbrev e20 : List (Nat × Ctr) := [(24, c24), (26, c26), (27, c27), (63, c63), (64, c64)]
def linear_Weigh_lh : LH
 | 16 => some ⟨linear_Weigh_i8, linear_Weigh_o8, lp linear_Weigh_s8 K0⟩
 | _ => none
theorem linear_Weigh_l8 (g : linear_Weigh_i8.V → Option (OT linear_Weigh_o8)) (v : linear_Weigh_i8.V) : loopStep tb (envL e20) 44 linear_Weigh_lh (loopAt 8 (bodyOf Tryz.f20) .skip) linear_Weigh_i8 linear_Weigh_o8 g v = linear_Weigh_s8 g v := by kernel_rfl
theorem linear_Weigh_eq (p_0 : List RAT) (n_1 : Int) : fnF tb (envL e20) Tryz.f20 linear_Weigh_lh c20.ps c20.rs (T := RAT × Int) (fun y => (y.2.1, y.2.2.1)) (p_0, n_1, ()) = linear_Weigh p_0 n_1 := by kernel_rfl
abbrev e124 : List (Nat × Ctr) := [(100, c100), (119, c119)]
def whole_Cmp_lh : LH
 | _ => none
theorem whole_Cmp_eq (a_0 : WH) (b_1 : WH) : fnF tb (envL e124) Tryz.f124 whole_Cmp_lh c124.ps c124.rs (T := Int) (fun y => (y.2.1)) (a_0, b_1, ()) = whole_Cmp a_0 b_1 := by kernel_rfl
abbrev e80 : List (Nat × Ctr) := [(55, c55), (74, c74), (75, c75), (124, c124)]
def ratio_Cmp_lh : LH
 | _ => none
theorem ratio_Cmp_eq (a_0 : RAT) (b_1 : RAT) : fnF tb (envL e80) Tryz.f80 ratio_Cmp_lh c80.ps c80.rs (T := Int) (fun y => (y.2.1)) (a_0, b_1, ()) = ratio_Cmp a_0 b_1 := by kernel_rfl
abbrev e30 : List (Nat × Ctr) := [(80, c80)]
def ratio_Same_lh : LH
 | _ => none
theorem ratio_Same_eq (a_0 : RAT) (b_1 : RAT) : fnF tb (envL e30) Tryz.f30 ratio_Same_lh c30.ps c30.rs (T := Bool) (fun y => (y.2.1)) (a_0, b_1, ()) = ratio_Same a_0 b_1 := by kernel_rfl
abbrev e14 : List (Nat × Ctr) := [(20, c20), (30, c30), (53, c53)]
def dendronlaw16_awake_lh : LH
 | _ => none
theorem dendronlaw16_awake_eq  : fnF tb (envL e14) Tryz.f14 dendronlaw16_awake_lh c14.ps c14.rs (T := Bool) (fun y => (y.2.1)) () = dendronlaw16_awake  := by kernel_rfl
abbrev e102 : List (Nat × Ctr) := [(24, c24)]
def poly_at_lh : LH
 | _ => none
theorem poly_at_eq (p_0 : List RAT) (i_1 : Int) : fnF tb (envL e102) Tryz.f102 poly_at_lh c102.ps c102.rs (T := RAT) (fun y => (y.2.1)) (p_0, i_1, ()) = poly_at p_0 i_1 := by kernel_rfl
abbrev e60 : List (Nat × Ctr) := [(26, c26), (99, c99), (102, c102)]
def poly_Add_lh : LH
 | 6 => some ⟨poly_Add_i3, poly_Add_o3, lp poly_Add_s3 K0⟩
 | _ => none
theorem poly_Add_l3 (g : poly_Add_i3.V → Option (OT poly_Add_o3)) (v : poly_Add_i3.V) : loopStep tb (envL e60) 28 poly_Add_lh (loopAt 3 (bodyOf Tryz.f60) .skip) poly_Add_i3 poly_Add_o3 g v = poly_Add_s3 g v := by kernel_rfl
theorem poly_Add_eq (a_0 : List RAT) (b_1 : List RAT) : fnF tb (envL e60) Tryz.f60 poly_Add_lh c60.ps c60.rs (T := (List RAT)) (fun y => (y.2.1)) (a_0, b_1, ()) = poly_Add a_0 b_1 := by kernel_rfl
abbrev e61 : List (Nat × Ctr) := [(27, c27), (99, c99)]
def poly_Scale_lh : LH
 | 6 => some ⟨poly_Scale_i3, poly_Scale_o3, lp poly_Scale_s3 K0⟩
 | _ => none
theorem poly_Scale_l3 (g : poly_Scale_i3.V → Option (OT poly_Scale_o3)) (v : poly_Scale_i3.V) : loopStep tb (envL e61) 23 poly_Scale_lh (loopAt 3 (bodyOf Tryz.f61) .skip) poly_Scale_i3 poly_Scale_o3 g v = poly_Scale_s3 g v := by kernel_rfl
theorem poly_Scale_eq (p_0 : List RAT) (by_1 : RAT) : fnF tb (envL e61) Tryz.f61 poly_Scale_lh c61.ps c61.rs (T := (List RAT)) (fun y => (y.2.1)) (p_0, by_1, ()) = poly_Scale p_0 by_1 := by kernel_rfl
abbrev e18 : List (Nat × Ctr) := [(31, c31)]
def dendronlaw16_few_lh : LH
 | 6 => some ⟨dendronlaw16_few_i3, dendronlaw16_few_o3, lp dendronlaw16_few_s3 K0⟩
 | _ => none
theorem dendronlaw16_few_l3 (g : dendronlaw16_few_i3.V → Option (OT dendronlaw16_few_o3)) (v : dendronlaw16_few_i3.V) : loopStep tb (envL e18) 29 dendronlaw16_few_lh (loopAt 3 (bodyOf Tryz.f18) .skip) dendronlaw16_few_i3 dendronlaw16_few_o3 g v = dendronlaw16_few_s3 g v := by kernel_rfl
theorem dendronlaw16_few_eq (p_0 : List RAT) : fnF tb (envL e18) Tryz.f18 dendronlaw16_few_lh c18.ps c18.rs (T := (List RAT)) (fun y => (y.2.1)) (p_0, ()) = dendronlaw16_few p_0 := by kernel_rfl
abbrev e59 : List (Nat × Ctr) := [(53, c53), (71, c71)]
def poly_Pow_lh : LH
 | 10 => some ⟨poly_Pow_i5, poly_Pow_o5, lp poly_Pow_s5 K0⟩
 | _ => none
theorem poly_Pow_l5 (g : poly_Pow_i5.V → Option (OT poly_Pow_o5)) (v : poly_Pow_i5.V) : loopStep tb (envL e59) 23 poly_Pow_lh (loopAt 5 (bodyOf Tryz.f59) .skip) poly_Pow_i5 poly_Pow_o5 g v = poly_Pow_s5 g v := by kernel_rfl
theorem poly_Pow_eq (p_0 : List RAT) (n_1 : Int) : fnF tb (envL e59) Tryz.f59 poly_Pow_lh c59.ps c59.rs (T := (List RAT) × Int) (fun y => (y.2.1, y.2.2.1)) (p_0, n_1, ()) = poly_Pow p_0 n_1 := by kernel_rfl
abbrev e39 : List (Nat × Ctr) := [(55, c55), (86, c86), (87, c87)]
def ratio_Frac_lh : LH
 | _ => none
theorem ratio_Frac_eq (n_0 : Int) (d_1 : Int) : fnF tb (envL e39) Tryz.f39 ratio_Frac_lh c39.ps c39.rs (T := RAT) (fun y => (y.2.1)) (n_0, d_1, ()) = ratio_Frac n_0 d_1 := by kernel_rfl
abbrev e103 : List (Nat × Ctr) := [(24, c24), (27, c27), (39, c39), (99, c99)]
def poly_Area_lh : LH
 | 6 => some ⟨poly_Area_i3, poly_Area_o3, lp poly_Area_s3 K0⟩
 | _ => none
theorem poly_Area_l3 (g : poly_Area_i3.V → Option (OT poly_Area_o3)) (v : poly_Area_i3.V) : loopStep tb (envL e103) 26 poly_Area_lh (loopAt 3 (bodyOf Tryz.f103) .skip) poly_Area_i3 poly_Area_o3 g v = poly_Area_s3 g v := by kernel_rfl
theorem poly_Area_eq (p_0 : List RAT) : fnF tb (envL e103) Tryz.f103 poly_Area_lh c103.ps c103.rs (T := (List RAT)) (fun y => (y.2.1)) (p_0, ()) = poly_Area p_0 := by kernel_rfl
abbrev e104 : List (Nat × Ctr) := [(24, c24), (26, c26), (27, c27)]
def poly_Eval_lh : LH
 | 6 => some ⟨poly_Eval_i3, poly_Eval_o3, lp poly_Eval_s3 K0⟩
 | _ => none
theorem poly_Eval_l3 (g : poly_Eval_i3.V → Option (OT poly_Eval_o3)) (v : poly_Eval_i3.V) : loopStep tb (envL e104) 24 poly_Eval_lh (loopAt 3 (bodyOf Tryz.f104) .skip) poly_Eval_i3 poly_Eval_o3 g v = poly_Eval_s3 g v := by kernel_rfl
theorem poly_Eval_eq (p_0 : List RAT) (x_1 : RAT) : fnF tb (envL e104) Tryz.f104 poly_Eval_lh c104.ps c104.rs (T := RAT) (fun y => (y.2.1)) (p_0, x_1, ()) = poly_Eval p_0 x_1 := by kernel_rfl
abbrev e62 : List (Nat × Ctr) := [(50, c50), (103, c103), (104, c104)]
def poly_Between_lh : LH
 | _ => none
theorem poly_Between_eq (p_0 : List RAT) (from_1 : RAT) (to_2 : RAT) : fnF tb (envL e62) Tryz.f62 poly_Between_lh c62.ps c62.rs (T := RAT) (fun y => (y.2.1)) (p_0, from_1, to_2, ()) = poly_Between p_0 from_1 to_2 := by kernel_rfl
abbrev e19 : List (Nat × Ctr) := [(24, c24), (53, c53), (58, c58), (59, c59), (60, c60), (61, c61), (62, c62)]
def linear_ByArea_lh : LH
 | 16 => some ⟨linear_ByArea_i8, linear_ByArea_o8, lp linear_ByArea_s8 K0⟩
 | _ => none
theorem linear_ByArea_l8 (g : linear_ByArea_i8.V → Option (OT linear_ByArea_o8)) (v : linear_ByArea_i8.V) : loopStep tb (envL e19) 58 linear_ByArea_lh (loopAt 8 (bodyOf Tryz.f19) .skip) linear_ByArea_i8 linear_ByArea_o8 g v = linear_ByArea_s8 g v := by kernel_rfl
theorem linear_ByArea_eq (p_0 : List RAT) (n_1 : Int) : fnF tb (envL e19) Tryz.f19 linear_ByArea_lh c19.ps c19.rs (T := RAT × Int) (fun y => (y.2.1, y.2.2.1)) (p_0, n_1, ()) = linear_ByArea p_0 n_1 := by kernel_rfl
abbrev e134 : List (Nat × Ctr) := []
def dendronref01_Small_lh : LH
 | 4 => some ⟨dendronref01_Small_i2, dendronref01_Small_o2, lp dendronref01_Small_s2 K0⟩
 | _ => none
theorem dendronref01_Small_l2 (g : dendronref01_Small_i2.V → Option (OT dendronref01_Small_o2)) (v : dendronref01_Small_i2.V) : loopStep tb (envL e134) 14 dendronref01_Small_lh (loopAt 2 (bodyOf Tryz.f134) .skip) dendronref01_Small_i2 dendronref01_Small_o2 g v = dendronref01_Small_s2 g v := by kernel_rfl
theorem dendronref01_Small_eq (n_0 : Int) : fnF tb (envL e134) Tryz.f134 dendronref01_Small_lh c134.ps c134.rs (T := (List Int)) (fun y => (y.2.1)) (n_0, ()) = dendronref01_Small n_0 := by kernel_rfl
abbrev e164 : List (Nat × Ctr) := []
def dendronref01_digit_lh : LH
 | _ => none
theorem dendronref01_digit_eq (a_0 : List Int) (i_1 : Int) : fnF tb (envL e164) Tryz.f164 dendronref01_digit_lh c164.ps c164.rs (T := Int) (fun y => (y.2.1)) (a_0, i_1, ()) = dendronref01_digit a_0 i_1 := by kernel_rfl
abbrev e138 : List (Nat × Ctr) := [(164, c164)]
def dendronref01_Plus_lh : LH
 | 8 => some ⟨dendronref01_Plus_i4, dendronref01_Plus_o4, lp dendronref01_Plus_s4 K0⟩
 | _ => none
theorem dendronref01_Plus_l4 (g : dendronref01_Plus_i4.V → Option (OT dendronref01_Plus_o4)) (v : dendronref01_Plus_i4.V) : loopStep tb (envL e138) 41 dendronref01_Plus_lh (loopAt 4 (bodyOf Tryz.f138) .skip) dendronref01_Plus_i4 dendronref01_Plus_o4 g v = dendronref01_Plus_s4 g v := by kernel_rfl
theorem dendronref01_Plus_eq (a_0 : List Int) (b_1 : List Int) : fnF tb (envL e138) Tryz.f138 dendronref01_Plus_lh c138.ps c138.rs (T := (List Int)) (fun y => (y.2.1)) (a_0, b_1, ()) = dendronref01_Plus a_0 b_1 := by kernel_rfl
abbrev e165 : List (Nat × Ctr) := []
def dendronref01_Trim_lh : LH
 | 4 => some ⟨dendronref01_Trim_i2, dendronref01_Trim_o2, lp dendronref01_Trim_s2 K0⟩
 | _ => none
theorem dendronref01_Trim_l2 (g : dendronref01_Trim_i2.V → Option (OT dendronref01_Trim_o2)) (v : dendronref01_Trim_i2.V) : loopStep tb (envL e165) 21 dendronref01_Trim_lh (loopAt 2 (bodyOf Tryz.f165) .skip) dendronref01_Trim_i2 dendronref01_Trim_o2 g v = dendronref01_Trim_s2 g v := by kernel_rfl
theorem dendronref01_Trim_eq (a_0 : List Int) : fnF tb (envL e165) Tryz.f165 dendronref01_Trim_lh c165.ps c165.rs (T := (List Int)) (fun y => (y.2.1)) (a_0, ()) = dendronref01_Trim a_0 := by kernel_rfl
abbrev e139 : List (Nat × Ctr) := [(165, c165)]
def dendronref01_Times_lh : LH
 | 14 => some ⟨dendronref01_Times_i7, dendronref01_Times_o7, lp dendronref01_Times_s7 K0⟩
 | 6 => some ⟨dendronref01_Times_i3, dendronref01_Times_o3, lp dendronref01_Times_s3 K0⟩
 | _ => none
theorem dendronref01_Times_l7 (g : dendronref01_Times_i7.V → Option (OT dendronref01_Times_o7)) (v : dendronref01_Times_i7.V) : loopStep tb (envL e139) 63 dendronref01_Times_lh (loopAt 7 (bodyOf Tryz.f139) .skip) dendronref01_Times_i7 dendronref01_Times_o7 g v = dendronref01_Times_s7 g v := by kernel_rfl
theorem dendronref01_Times_l3 (g : dendronref01_Times_i3.V → Option (OT dendronref01_Times_o3)) (v : dendronref01_Times_i3.V) : loopStep tb (envL e139) 63 dendronref01_Times_lh (loopAt 3 (bodyOf Tryz.f139) .skip) dendronref01_Times_i3 dendronref01_Times_o3 g v = dendronref01_Times_s3 g v := by kernel_rfl
theorem dendronref01_Times_eq (a_0 : List Int) (b_1 : List Int) : fnF tb (envL e139) Tryz.f139 dendronref01_Times_lh c139.ps c139.rs (T := (List Int)) (fun y => (y.2.1)) (a_0, b_1, ()) = dendronref01_Times a_0 b_1 := by kernel_rfl
abbrev e107 : List (Nat × Ctr) := [(134, c134), (138, c138), (139, c139)]
def dendronref01_From_lh : LH
 | 8 => some ⟨dendronref01_From_i4, dendronref01_From_o4, lp dendronref01_From_s4 K0⟩
 | _ => none
theorem dendronref01_From_l4 (g : dendronref01_From_i4.V → Option (OT dendronref01_From_o4)) (v : dendronref01_From_i4.V) : loopStep tb (envL e107) 26 dendronref01_From_lh (loopAt 4 (bodyOf Tryz.f107) .skip) dendronref01_From_i4 dendronref01_From_o4 g v = dendronref01_From_s4 g v := by kernel_rfl
theorem dendronref01_From_eq (a_0 : List Int) : fnF tb (envL e107) Tryz.f107 dendronref01_From_lh c107.ps c107.rs (T := (List Int)) (fun y => (y.2.1)) (a_0, ()) = dendronref01_From a_0 := by kernel_rfl
abbrev e141 : List (Nat × Ctr) := []
def dendronref02_Make_lh : LH
 | _ => none
theorem dendronref02_Make_eq (neg_0 : Bool) (n_1 : List Int) : fnF tb (envL e141) Tryz.f141 dendronref02_Make_lh c141.ps c141.rs (T := (Bool × List Int)) (fun y => (y.2.1)) (neg_0, n_1, ()) = dendronref02_Make neg_0 n_1 := by kernel_rfl
abbrev e140 : List (Nat × Ctr) := [(134, c134), (138, c138), (141, c141)]
def dendronref02_Small_lh : LH
 | _ => none
theorem dendronref02_Small_eq (n_0 : Int) : fnF tb (envL e140) Tryz.f140 dendronref02_Small_lh c140.ps c140.rs (T := (Bool × List Int)) (fun y => (y.2.1)) (n_0, ()) = dendronref02_Small n_0 := by kernel_rfl
abbrev e108 : List (Nat × Ctr) := [(134, c134), (140, c140)]
def dendronref03_Small_lh : LH
 | _ => none
theorem dendronref03_Small_eq (n_0 : Int) (d_1 : Int) : fnF tb (envL e108) Tryz.f108 dendronref03_Small_lh c108.ps c108.rs (T := ((Bool × List Int) × List Int)) (fun y => (y.2.1)) (n_0, d_1, ()) = dendronref03_Small n_0 d_1 := by kernel_rfl
abbrev e109 : List (Nat × Ctr) := [(107, c107), (141, c141)]
def dendronref02_From_lh : LH
 | _ => none
theorem dendronref02_From_eq (a_0 : WH) : fnF tb (envL e109) Tryz.f109 dendronref02_From_lh c109.ps c109.rs (T := (Bool × List Int)) (fun y => (y.2.1)) (a_0, ()) = dendronref02_From a_0 := by kernel_rfl
abbrev e66 : List (Nat × Ctr) := [(107, c107), (108, c108), (109, c109)]
def dendronref03_From_lh : LH
 | _ => none
theorem dendronref03_From_eq (a_0 : RAT) : fnF tb (envL e66) Tryz.f66 dendronref03_From_lh c66.ps c66.rs (T := ((Bool × List Int) × List Int)) (fun y => (y.2.1)) (a_0, ()) = dendronref03_From a_0 := by kernel_rfl
abbrev e131 : List (Nat × Ctr) := []
def dendronref01_Right_lh : LH
 | 4 => some ⟨dendronref01_Right_i2, dendronref01_Right_o2, lp dendronref01_Right_s2 K0⟩
 | _ => none
theorem dendronref01_Right_l2 (g : dendronref01_Right_i2.V → Option (OT dendronref01_Right_o2)) (v : dendronref01_Right_i2.V) : loopStep tb (envL e131) 27 dendronref01_Right_lh (loopAt 2 (bodyOf Tryz.f131) .skip) dendronref01_Right_i2 dendronref01_Right_o2 g v = dendronref01_Right_s2 g v := by kernel_rfl
theorem dendronref01_Right_eq (a_0 : List Int) : fnF tb (envL e131) Tryz.f131 dendronref01_Right_lh c131.ps c131.rs (T := Bool) (fun y => (y.2.1)) (a_0, ()) = dendronref01_Right a_0 := by kernel_rfl
abbrev e133 : List (Nat × Ctr) := []
def dendronref01_Order_lh : LH
 | 12 => some ⟨dendronref01_Order_i6, dendronref01_Order_o6, lp dendronref01_Order_s6 K0⟩
 | _ => none
theorem dendronref01_Order_l6 (g : dendronref01_Order_i6.V → Option (OT dendronref01_Order_o6)) (v : dendronref01_Order_i6.V) : loopStep tb (envL e133) 41 dendronref01_Order_lh (loopAt 6 (bodyOf Tryz.f133) .skip) dendronref01_Order_i6 dendronref01_Order_o6 g v = dendronref01_Order_s6 g v := by kernel_rfl
theorem dendronref01_Order_eq (a_0 : List Int) (b_1 : List Int) : fnF tb (envL e133) Tryz.f133 dendronref01_Order_lh c133.ps c133.rs (T := Int) (fun y => (y.2.1)) (a_0, b_1, ()) = dendronref01_Order a_0 b_1 := by kernel_rfl
abbrev e173 : List (Nat × Ctr) := [(164, c164), (165, c165)]
def dendronref01_Minus_lh : LH
 | 8 => some ⟨dendronref01_Minus_i4, dendronref01_Minus_o4, lp dendronref01_Minus_s4 K0⟩
 | _ => none
theorem dendronref01_Minus_l4 (g : dendronref01_Minus_i4.V → Option (OT dendronref01_Minus_o4)) (v : dendronref01_Minus_i4.V) : loopStep tb (envL e173) 35 dendronref01_Minus_lh (loopAt 4 (bodyOf Tryz.f173) .skip) dendronref01_Minus_i4 dendronref01_Minus_o4 g v = dendronref01_Minus_s4 g v := by kernel_rfl
theorem dendronref01_Minus_eq (a_0 : List Int) (b_1 : List Int) : fnF tb (envL e173) Tryz.f173 dendronref01_Minus_lh c173.ps c173.rs (T := (List Int)) (fun y => (y.2.1)) (a_0, b_1, ()) = dendronref01_Minus a_0 b_1 := by kernel_rfl
abbrev e163 : List (Nat × Ctr) := [(133, c133), (134, c134), (139, c139), (165, c165), (173, c173)]
def dendronref01_Over_lh : LH
 | 24 => some ⟨dendronref01_Over_i12, dendronref01_Over_o12, lp dendronref01_Over_s12 K0⟩
 | 8 => some ⟨dendronref01_Over_i4, dendronref01_Over_o4, lp dendronref01_Over_s4 K0⟩
 | _ => none
theorem dendronref01_Over_l12 (g : dendronref01_Over_i12.V → Option (OT dendronref01_Over_o12)) (v : dendronref01_Over_i12.V) : loopStep tb (envL e163) 65 dendronref01_Over_lh (loopAt 12 (bodyOf Tryz.f163) .skip) dendronref01_Over_i12 dendronref01_Over_o12 g v = dendronref01_Over_s12 g v := by kernel_rfl
theorem dendronref01_Over_l4 (g : dendronref01_Over_i4.V → Option (OT dendronref01_Over_o4)) (v : dendronref01_Over_i4.V) : loopStep tb (envL e163) 65 dendronref01_Over_lh (loopAt 4 (bodyOf Tryz.f163) .skip) dendronref01_Over_i4 dendronref01_Over_o4 g v = dendronref01_Over_s4 g v := by kernel_rfl
theorem dendronref01_Over_eq (a_0 : List Int) (a_1 : List Int) : fnF tb (envL e163) Tryz.f163 dendronref01_Over_lh c163.ps c163.rs (T := (List Int) × (List Int)) (fun y => (y.2.1, y.2.2.1)) (a_0, a_1, ()) = dendronref01_Over a_0 a_1 := by kernel_rfl
abbrev e132 : List (Nat × Ctr) := [(163, c163)]
def dendronref01_Gcd_lh : LH
 | 2 => some ⟨dendronref01_Gcd_i1, dendronref01_Gcd_o1, lp dendronref01_Gcd_s1 K0⟩
 | _ => none
theorem dendronref01_Gcd_l1 (g : dendronref01_Gcd_i1.V → Option (OT dendronref01_Gcd_o1)) (v : dendronref01_Gcd_i1.V) : loopStep tb (envL e132) 19 dendronref01_Gcd_lh (loopAt 1 (bodyOf Tryz.f132) .skip) dendronref01_Gcd_i1 dendronref01_Gcd_o1 g v = dendronref01_Gcd_s1 g v := by kernel_rfl
theorem dendronref01_Gcd_eq (a_0 : List Int) (b_1 : List Int) : fnF tb (envL e132) Tryz.f132 dendronref01_Gcd_lh c132.ps c132.rs (T := (List Int)) (fun y => (y.2.1)) (a_0, b_1, ()) = dendronref01_Gcd a_0 b_1 := by kernel_rfl
abbrev e105 : List (Nat × Ctr) := [(107, c107), (131, c131), (132, c132), (133, c133), (134, c134)]
def dendronref03_Right_lh : LH
 | _ => none
theorem dendronref03_Right_eq (a_0 : RAT) : fnF tb (envL e105) Tryz.f105 dendronref03_Right_lh c105.ps c105.rs (T := Bool) (fun y => (y.2.1)) (a_0, ()) = dendronref03_Right a_0 := by kernel_rfl
abbrev e135 : List (Nat × Ctr) := [(133, c133)]
def dendronref02_Order_lh : LH
 | _ => none
theorem dendronref02_Order_eq (a_0 : Bool × List Int) (b_1 : Bool × List Int) : fnF tb (envL e135) Tryz.f135 dendronref02_Order_lh c135.ps c135.rs (T := Int) (fun y => (y.2.1)) (a_0, b_1, ()) = dendronref02_Order a_0 b_1 := by kernel_rfl
abbrev e136 : List (Nat × Ctr) := [(139, c139), (141, c141)]
def dendronref02_Times_lh : LH
 | _ => none
theorem dendronref02_Times_eq (a_0 : Bool × List Int) (b_1 : Bool × List Int) : fnF tb (envL e136) Tryz.f136 dendronref02_Times_lh c136.ps c136.rs (T := (Bool × List Int)) (fun y => (y.2.1)) (a_0, b_1, ()) = dendronref02_Times a_0 b_1 := by kernel_rfl
abbrev e137 : List (Nat × Ctr) := [(141, c141)]
def dendronref03_den_lh : LH
 | _ => none
theorem dendronref03_den_eq (a_0 : (Bool × List Int) × List Int) : fnF tb (envL e137) Tryz.f137 dendronref03_den_lh c137.ps c137.rs (T := (Bool × List Int)) (fun y => (y.2.1)) (a_0, ()) = dendronref03_den a_0 := by kernel_rfl
abbrev e106 : List (Nat × Ctr) := [(135, c135), (136, c136), (137, c137)]
def dendronref03_Order_lh : LH
 | _ => none
theorem dendronref03_Order_eq (a_0 : (Bool × List Int) × List Int) (b_1 : (Bool × List Int) × List Int) : fnF tb (envL e106) Tryz.f106 dendronref03_Order_lh c106.ps c106.rs (T := Int) (fun y => (y.2.1)) (a_0, b_1, ()) = dendronref03_Order a_0 b_1 := by kernel_rfl
abbrev e65 : List (Nat × Ctr) := [(66, c66), (105, c105), (106, c106)]
def dendronref03_Is_lh : LH
 | _ => none
theorem dendronref03_Is_eq (a_0 : RAT) (x_1 : (Bool × List Int) × List Int) : fnF tb (envL e65) Tryz.f65 dendronref03_Is_lh c65.ps c65.rs (T := Bool) (fun y => (y.2.1)) (a_0, x_1, ()) = dendronref03_Is a_0 x_1 := by kernel_rfl
abbrev e21 : List (Nat × Ctr) := [(65, c65), (66, c66)]
def dendronref10_Is_lh : LH
 | _ => none
theorem dendronref10_Is_eq (a_0 : RAT) (b_1 : RAT) : fnF tb (envL e21) Tryz.f21 dendronref10_Is_lh c21.ps c21.rs (T := Bool) (fun y => (y.2.1)) (a_0, b_1, ()) = dendronref10_Is a_0 b_1 := by kernel_rfl
abbrev e4 : List (Nat × Ctr) := [(14, c14), (18, c18), (19, c19), (20, c20), (21, c21)]
def dendronlaw16_LinearAreas_lh : LH
 | _ => none
theorem dendronlaw16_LinearAreas_eq (p_0 : List RAT) (n_1 : Int) : fnF tb (envL e4) Tryz.f4 dendronlaw16_LinearAreas_lh c4.ps c4.rs (T := Bool) (fun y => (y.2.1)) (p_0, n_1, ()) = dendronlaw16_LinearAreas p_0 n_1 := by kernel_rfl
end Go.Proofs.YtaonkcmflkmncaaGreatDoor.X
