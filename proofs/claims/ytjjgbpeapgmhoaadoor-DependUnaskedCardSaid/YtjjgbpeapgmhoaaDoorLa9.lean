/- Own work: part of the proof; the first line of each part says what it tells. -/
import Derived.Test.YtjjgbpeapgmhoaaDoorLa6


namespace Go.Proofs.YtjjgbpeapgmhoaaDoor.X
open Go
set_option linter.unusedVariables false
set_option linter.unusedSimpArgs false
set_option maxRecDepth 100000
abbrev e58 : List (Nat × Ctr) := []
def dendronlaw07_number_lh : LH
 | _ => none
theorem dendronlaw07_number_eq (a_0 : RAT) : fnF tb (envL e58) Tryd.f58 dendronlaw07_number_lh c58.ps c58.rs (T := RAT) (fun y => (y.2.1)) (a_0, ()) = dendronlaw07_number a_0 := by kernel_rfl
abbrev e19 : List (Nat × Ctr) := [(58, c58)]
def dendronlaw07_Few_lh : LH
 | 14 => some ⟨dendronlaw07_Few_i7, dendronlaw07_Few_o7, lp dendronlaw07_Few_s7 K0⟩
 | 6 => some ⟨dendronlaw07_Few_i3, dendronlaw07_Few_o3, lp dendronlaw07_Few_s3 K0⟩
 | _ => none
theorem dendronlaw07_Few_l7 (g : dendronlaw07_Few_i7.V → Option (OT dendronlaw07_Few_o7)) (v : dendronlaw07_Few_i7.V) : loopStep tb (envL e19) 67 dendronlaw07_Few_lh (loopAt 7 (bodyOf Tryd.f19) .skip) dendronlaw07_Few_i7 dendronlaw07_Few_o7 g v = dendronlaw07_Few_s7 g v := by kernel_rfl
theorem dendronlaw07_Few_l3 (g : dendronlaw07_Few_i3.V → Option (OT dendronlaw07_Few_o3)) (v : dendronlaw07_Few_i3.V) : loopStep tb (envL e19) 67 dendronlaw07_Few_lh (loopAt 3 (bodyOf Tryd.f19) .skip) dendronlaw07_Few_i3 dendronlaw07_Few_o3 g v = dendronlaw07_Few_s3 g v := by kernel_rfl
theorem dendronlaw07_Few_eq (a_0 : MODEL) : fnF tb (envL e19) Tryd.f19 dendronlaw07_Few_lh c19.ps c19.rs (T := MODEL) (fun y => (y.2.1)) (a_0, ()) = dendronlaw07_Few a_0 := by kernel_rfl
abbrev e59 : List (Nat × Ctr) := []
def dendronlaw09_number_lh : LH
 | _ => none
theorem dendronlaw09_number_eq (a_0 : RAT) : fnF tb (envL e59) Tryd.f59 dendronlaw09_number_lh c59.ps c59.rs (T := RAT) (fun y => (y.2.1)) (a_0, ()) = dendronlaw09_number a_0 := by kernel_rfl
abbrev e20 : List (Nat × Ctr) := [(59, c59)]
def dendronlaw09_Few_lh : LH
 | 6 => some ⟨dendronlaw09_Few_i3, dendronlaw09_Few_o3, lp dendronlaw09_Few_s3 K0⟩
 | _ => none
theorem dendronlaw09_Few_l3 (g : dendronlaw09_Few_i3.V → Option (OT dendronlaw09_Few_o3)) (v : dendronlaw09_Few_i3.V) : loopStep tb (envL e20) 32 dendronlaw09_Few_lh (loopAt 3 (bodyOf Tryd.f20) .skip) dendronlaw09_Few_i3 dendronlaw09_Few_o3 g v = dendronlaw09_Few_s3 g v := by kernel_rfl
theorem dendronlaw09_Few_eq (l_0 : List CELL) (n_1 : Int) : fnF tb (envL e20) Tryd.f20 dendronlaw09_Few_lh c20.ps c20.rs (T := (List CELL)) (fun y => (y.2.1)) (l_0, n_1, ()) = dendronlaw09_Few l_0 n_1 := by kernel_rfl
abbrev e8 : List (Nat × Ctr) := [(19, c19), (20, c20)]
def dendronlaw11_Small_lh : LH
 | _ => none
theorem dendronlaw11_Small_eq (m_0 : MODEL) (row_1 : List CELL) : fnF tb (envL e8) Tryd.f8 dendronlaw11_Small_lh c8.ps c8.rs (T := MODEL × (List CELL)) (fun y => (y.2.1, y.2.2.1)) (m_0, row_1, ()) = dendronlaw11_Small m_0 row_1 := by kernel_rfl
abbrev e107 : List (Nat × Ctr) := []
def nat_trim_lh : LH
 | 4 => some ⟨nat_trim_i2, nat_trim_o2, lp nat_trim_s2 K0⟩
 | _ => none
theorem nat_trim_l2 (g : nat_trim_i2.V → Option (OT nat_trim_o2)) (v : nat_trim_i2.V) : loopStep tb (envL e107) 23 nat_trim_lh (loopAt 2 (bodyOf Tryd.f107) .skip) nat_trim_i2 nat_trim_o2 g v = nat_trim_s2 g v := by kernel_rfl
theorem nat_trim_eq (a_0 : List Int) : fnF tb (envL e107) Tryd.f107 nat_trim_lh c107.ps c107.rs (T := (List Int)) (fun y => (y.2.1)) (a_0, ()) = nat_trim a_0 := by kernel_rfl
abbrev e83 : List (Nat × Ctr) := [(107, c107)]
def nat_Of_lh : LH
 | _ => none
theorem nat_Of_eq (n_0 : Int) : fnF tb (envL e83) Tryd.f83 nat_Of_lh c83.ps c83.rs (T := (List Int)) (fun y => (y.2.1)) (n_0, ()) = nat_Of n_0 := by kernel_rfl
abbrev e51 : List (Nat × Ctr) := [(83, c83)]
def ratio_Zero_lh : LH
 | _ => none
theorem ratio_Zero_eq  : fnF tb (envL e51) Tryd.f51 ratio_Zero_lh c51.ps c51.rs (T := RAT) (fun y => (y.2.1)) () = ratio_Zero  := by kernel_rfl
abbrev e88 : List (Nat × Ctr) := [(107, c107)]
def nat_Clean_lh : LH
 | 6 => some ⟨nat_Clean_i3, nat_Clean_o3, lp nat_Clean_s3 K0⟩
 | _ => none
theorem nat_Clean_l3 (g : nat_Clean_i3.V → Option (OT nat_Clean_o3)) (v : nat_Clean_i3.V) : loopStep tb (envL e88) 24 nat_Clean_lh (loopAt 3 (bodyOf Tryd.f88) .skip) nat_Clean_i3 nat_Clean_o3 g v = nat_Clean_s3 g v := by kernel_rfl
theorem nat_Clean_eq (a_0 : List Int) : fnF tb (envL e88) Tryd.f88 nat_Clean_lh c88.ps c88.rs (T := (List Int)) (fun y => (y.2.1)) (a_0, ()) = nat_Clean a_0 := by kernel_rfl
abbrev e133 : List (Nat × Ctr) := [(88, c88)]
def nat_To_lh : LH
 | _ => none
theorem nat_To_eq (a_0 : List Int) : fnF tb (envL e133) Tryd.f133 nat_To_lh c133.ps c133.rs (T := Int × Bool) (fun y => (y.2.1, y.2.2.1)) (a_0, ()) = nat_To a_0 := by kernel_rfl
abbrev e119 : List (Nat × Ctr) := [(83, c83), (133, c133)]
def nat_euclid_lh : LH
 | 6 => some ⟨nat_euclid_i3, nat_euclid_o3, lp nat_euclid_s3 K0⟩
 | _ => none
theorem nat_euclid_l3 (g : nat_euclid_i3.V → Option (OT nat_euclid_o3)) (v : nat_euclid_i3.V) : loopStep tb (envL e119) 27 nat_euclid_lh (loopAt 3 (bodyOf Tryd.f119) .skip) nat_euclid_i3 nat_euclid_o3 g v = nat_euclid_s3 g v := by kernel_rfl
theorem nat_euclid_eq (a_0 : List Int) (b_1 : List Int) : fnF tb (envL e119) Tryd.f119 nat_euclid_lh c119.ps c119.rs (T := (List Int)) (fun y => (y.2.1)) (a_0, b_1, ()) = nat_euclid a_0 b_1 := by kernel_rfl
abbrev e120 : List (Nat × Ctr) := [(134, c134)]
def nat_zeros_lh : LH
 | 6 => some ⟨nat_zeros_i3, nat_zeros_o3, lp nat_zeros_s3 K0⟩
 | _ => none
theorem nat_zeros_l3 (g : nat_zeros_i3.V → Option (OT nat_zeros_o3)) (v : nat_zeros_i3.V) : loopStep tb (envL e120) 24 nat_zeros_lh (loopAt 3 (bodyOf Tryd.f120) .skip) nat_zeros_i3 nat_zeros_o3 g v = nat_zeros_s3 g v := by kernel_rfl
theorem nat_zeros_eq (a_0 : List Int) : fnF tb (envL e120) Tryd.f120 nat_zeros_lh c120.ps c120.rs (T := Int) (fun y => (y.2.1)) (a_0, ()) = nat_zeros a_0 := by kernel_rfl
abbrev e132 : List (Nat × Ctr) := []
def nat_limb_lh : LH
 | _ => none
theorem nat_limb_eq (a_0 : List Int) (i_1 : Int) : fnF tb (envL e132) Tryd.f132 nat_limb_lh c132.ps c132.rs (T := Int) (fun y => (y.2.1)) (a_0, i_1, ()) = nat_limb a_0 i_1 := by kernel_rfl
abbrev e121 : List (Nat × Ctr) := [(107, c107), (132, c132)]
def nat_shr_lh : LH
 | 12 => some ⟨nat_shr_i6, nat_shr_o6, lp nat_shr_s6 K0⟩
 | _ => none
theorem nat_shr_l6 (g : nat_shr_i6.V → Option (OT nat_shr_o6)) (v : nat_shr_i6.V) : loopStep tb (envL e121) 50 nat_shr_lh (loopAt 6 (bodyOf Tryd.f121) .skip) nat_shr_i6 nat_shr_o6 g v = nat_shr_s6 g v := by kernel_rfl
theorem nat_shr_eq (a_0 : List Int) (n_1 : Int) : fnF tb (envL e121) Tryd.f121 nat_shr_lh c121.ps c121.rs (T := (List Int)) (fun y => (y.2.1)) (a_0, n_1, ()) = nat_shr a_0 n_1 := by kernel_rfl
abbrev e122 : List (Nat × Ctr) := []
def nat_order_lh : LH
 | 12 => some ⟨nat_order_i6, nat_order_o6, lp nat_order_s6 K0⟩
 | _ => none
theorem nat_order_l6 (g : nat_order_i6.V → Option (OT nat_order_o6)) (v : nat_order_i6.V) : loopStep tb (envL e122) 45 nat_order_lh (loopAt 6 (bodyOf Tryd.f122) .skip) nat_order_i6 nat_order_o6 g v = nat_order_s6 g v := by kernel_rfl
theorem nat_order_eq (a_0 : List Int) (b_1 : List Int) : fnF tb (envL e122) Tryd.f122 nat_order_lh c122.ps c122.rs (T := Int) (fun y => (y.2.1)) (a_0, b_1, ()) = nat_order a_0 b_1 := by kernel_rfl
abbrev e123 : List (Nat × Ctr) := [(107, c107)]
def nat_shl_lh : LH
 | 8 => some ⟨nat_shl_i4, nat_shl_o4, lp nat_shl_s4 K0⟩
 | _ => none
theorem nat_shl_l4 (g : nat_shl_i4.V → Option (OT nat_shl_o4)) (v : nat_shl_i4.V) : loopStep tb (envL e123) 51 nat_shl_lh (loopAt 4 (bodyOf Tryd.f123) .skip) nat_shl_i4 nat_shl_o4 g v = nat_shl_s4 g v := by kernel_rfl
theorem nat_shl_eq (a_0 : List Int) (n_1 : Int) : fnF tb (envL e123) Tryd.f123 nat_shl_lh c123.ps c123.rs (T := (List Int)) (fun y => (y.2.1)) (a_0, n_1, ()) = nat_shl a_0 n_1 := by kernel_rfl
abbrev e126 : List (Nat × Ctr) := [(107, c107)]
def nat_small_lh : LH
 | 8 => some ⟨nat_small_i4, nat_small_o4, lp nat_small_s4 K0⟩
 | _ => none
theorem nat_small_l4 (g : nat_small_i4.V → Option (OT nat_small_o4)) (v : nat_small_i4.V) : loopStep tb (envL e126) 38 nat_small_lh (loopAt 4 (bodyOf Tryd.f126) .skip) nat_small_i4 nat_small_o4 g v = nat_small_s4 g v := by kernel_rfl
theorem nat_small_eq (a_0 : List Int) (d_1 : Int) : fnF tb (envL e126) Tryd.f126 nat_small_lh c126.ps c126.rs (T := (List Int) × Int) (fun y => (y.2.1, y.2.2.1)) (a_0, d_1, ()) = nat_small a_0 d_1 := by kernel_rfl
abbrev e135 : List (Nat × Ctr) := [(141, c141)]
def bits_LeadingZeros32_lh : LH
 | _ => none
theorem bits_LeadingZeros32_eq (x_0 : Int) : fnF tb (envL e135) Tryd.f135 bits_LeadingZeros32_lh c135.ps c135.rs (T := Int) (fun y => (y.2.1)) (x_0, ()) = bits_LeadingZeros32 x_0 := by kernel_rfl
abbrev e142 : List (Nat × Ctr) := [(132, c132)]
def nat_take_lh : LH
 | 6 => some ⟨nat_take_i3, nat_take_o3, lp nat_take_s3 K0⟩
 | _ => none
theorem nat_take_l3 (g : nat_take_i3.V → Option (OT nat_take_o3)) (v : nat_take_i3.V) : loopStep tb (envL e142) 46 nat_take_lh (loopAt 3 (bodyOf Tryd.f142) .skip) nat_take_i3 nat_take_o3 g v = nat_take_s3 g v := by kernel_rfl
theorem nat_take_eq (u_0 : List Int) (v_1 : List Int) (times_2 : Int) : fnF tb (envL e142) Tryd.f142 nat_take_lh c142.ps c142.rs (T := (List Int) × Bool) (fun y => (y.1.1, y.2.1)) (u_0, v_1, times_2, ()) = nat_take u_0 v_1 times_2 := by kernel_rfl
abbrev e143 : List (Nat × Ctr) := [(132, c132)]
def nat_give_lh : LH
 | 4 => some ⟨nat_give_i2, nat_give_o2, lp nat_give_s2 K0⟩
 | _ => none
theorem nat_give_l2 (g : nat_give_i2.V → Option (OT nat_give_o2)) (v : nat_give_i2.V) : loopStep tb (envL e143) 29 nat_give_lh (loopAt 2 (bodyOf Tryd.f143) .skip) nat_give_i2 nat_give_o2 g v = nat_give_s2 g v := by kernel_rfl
theorem nat_give_eq (u_0 : List Int) (v_1 : List Int) : fnF tb (envL e143) Tryd.f143 nat_give_lh c143.ps c143.rs (T := (List Int)) (fun y => (y.1.1)) (u_0, v_1, ()) = nat_give u_0 v_1 := by kernel_rfl
abbrev e136 : List (Nat × Ctr) := [(142, c142), (143, c143)]
def nat_digit_lh : LH
 | 8 => some ⟨nat_digit_i4, nat_digit_o4, lp nat_digit_s4 K0⟩
 | _ => none
theorem nat_digit_l4 (g : nat_digit_i4.V → Option (OT nat_digit_o4)) (v : nat_digit_i4.V) : loopStep tb (envL e136) 77 nat_digit_lh (loopAt 4 (bodyOf Tryd.f136) .skip) nat_digit_i4 nat_digit_o4 g v = nat_digit_s4 g v := by kernel_rfl
theorem nat_digit_eq (a_0 : List Int) (a_1 : List Int) : fnF tb (envL e136) Tryd.f136 nat_digit_lh c136.ps c136.rs (T := (List Int) × Int) (fun y => (y.1.1, y.2.1)) (a_0, a_1, ()) = nat_digit a_0 a_1 := by kernel_rfl
abbrev e127 : List (Nat × Ctr) := [(107, c107), (121, c121), (123, c123), (135, c135), (136, c136)]
def nat_long_lh : LH
 | 14 => some ⟨nat_long_i7, nat_long_o7, lp nat_long_s7 K0⟩
 | _ => none
theorem nat_long_l7 (g : nat_long_i7.V → Option (OT nat_long_o7)) (v : nat_long_i7.V) : loopStep tb (envL e127) 64 nat_long_lh (loopAt 7 (bodyOf Tryd.f127) .skip) nat_long_i7 nat_long_o7 g v = nat_long_s7 g v := by kernel_rfl
theorem nat_long_eq (a_0 : List Int) (b_1 : List Int) : fnF tb (envL e127) Tryd.f127 nat_long_lh c127.ps c127.rs (T := (List Int) × (List Int)) (fun y => (y.2.1, y.2.2.1)) (a_0, b_1, ()) = nat_long a_0 b_1 := by kernel_rfl
abbrev e105 : List (Nat × Ctr) := [(83, c83), (88, c88), (122, c122), (126, c126), (127, c127)]
def nat_DivMod_lh : LH
 | _ => none
theorem nat_DivMod_eq (a_0 : List Int) (b_1 : List Int) : fnF tb (envL e105) Tryd.f105 nat_DivMod_lh c105.ps c105.rs (T := (List Int) × (List Int) × Int) (fun y => (y.2.1, y.2.2.1, y.2.2.2.1)) (a_0, b_1, ()) = nat_DivMod a_0 b_1 := by kernel_rfl
abbrev e124 : List (Nat × Ctr) := [(105, c105)]
def nat_rest_lh : LH
 | _ => none
theorem nat_rest_eq (a_0 : List Int) (b_1 : List Int) : fnF tb (envL e124) Tryd.f124 nat_rest_lh c124.ps c124.rs (T := (List Int) × (List Int)) (fun y => (y.2.1, y.2.2.1)) (a_0, b_1, ()) = nat_rest a_0 b_1 := by kernel_rfl
abbrev e125 : List (Nat × Ctr) := [(107, c107), (132, c132)]
def nat_minus_lh : LH
 | 8 => some ⟨nat_minus_i4, nat_minus_o4, lp nat_minus_s4 K0⟩
 | _ => none
theorem nat_minus_l4 (g : nat_minus_i4.V → Option (OT nat_minus_o4)) (v : nat_minus_i4.V) : loopStep tb (envL e125) 39 nat_minus_lh (loopAt 4 (bodyOf Tryd.f125) .skip) nat_minus_i4 nat_minus_o4 g v = nat_minus_s4 g v := by kernel_rfl
theorem nat_minus_eq (a_0 : List Int) (b_1 : List Int) : fnF tb (envL e125) Tryd.f125 nat_minus_lh c125.ps c125.rs (T := (List Int)) (fun y => (y.2.1)) (a_0, b_1, ()) = nat_minus a_0 b_1 := by kernel_rfl
abbrev e104 : List (Nat × Ctr) := [(88, c88), (119, c119), (120, c120), (121, c121), (122, c122), (123, c123), (124, c124), (125, c125)]
def nat_Gcd_lh : LH
 | 20 => some ⟨nat_Gcd_i10, nat_Gcd_o10, lp nat_Gcd_s10 K0⟩
 | _ => none
theorem nat_Gcd_l10 (g : nat_Gcd_i10.V → Option (OT nat_Gcd_o10)) (v : nat_Gcd_i10.V) : loopStep tb (envL e104) 86 nat_Gcd_lh (loopAt 10 (bodyOf Tryd.f104) .skip) nat_Gcd_i10 nat_Gcd_o10 g v = nat_Gcd_s10 g v := by kernel_rfl
theorem nat_Gcd_eq (a_0 : List Int) (a_1 : List Int) : fnF tb (envL e104) Tryd.f104 nat_Gcd_lh c104.ps c104.rs (T := (List Int)) (fun y => (y.2.1)) (a_0, a_1, ()) = nat_Gcd a_0 a_1 := by kernel_rfl
abbrev e69 : List (Nat × Ctr) := [(83, c83), (104, c104), (105, c105)]
def ratio_form_lh : LH
 | _ => none
theorem ratio_form_eq (num_0 : WH) (den_1 : List Int) : fnF tb (envL e69) Tryd.f69 ratio_form_lh c69.ps c69.rs (T := RAT) (fun y => (y.2.1)) (num_0, den_1, ()) = ratio_form num_0 den_1 := by kernel_rfl
abbrev e106 : List (Nat × Ctr) := []
def whole_sign_lh : LH
 | _ => none
theorem whole_sign_eq (neg_0 : Bool) (abs_1 : List Int) : fnF tb (envL e106) Tryd.f106 whole_sign_lh c106.ps c106.rs (T := WH) (fun y => (y.2.1)) (neg_0, abs_1, ()) = whole_sign neg_0 abs_1 := by kernel_rfl
abbrev e87 : List (Nat × Ctr) := [(88, c88), (106, c106)]
def whole_Clean_lh : LH
 | _ => none
theorem whole_Clean_eq (a_0 : WH) : fnF tb (envL e87) Tryd.f87 whole_Clean_lh c87.ps c87.rs (T := WH) (fun y => (y.2.1)) (a_0, ()) = whole_Clean a_0 := by kernel_rfl
abbrev e55 : List (Nat × Ctr) := [(51, c51), (69, c69), (87, c87), (88, c88)]
def ratio_Clean_lh : LH
 | _ => none
theorem ratio_Clean_eq (a_0 : RAT) : fnF tb (envL e55) Tryd.f55 ratio_Clean_lh c55.ps c55.rs (T := RAT) (fun y => (y.2.1)) (a_0, ()) = ratio_Clean a_0 := by kernel_rfl
abbrev e71 : List (Nat × Ctr) := [(88, c88), (107, c107)]
def nat_Mul_lh : LH
 | 16 => some ⟨nat_Mul_i8, nat_Mul_o8, lp nat_Mul_s8 K0⟩
 | 8 => some ⟨nat_Mul_i4, nat_Mul_o4, lp nat_Mul_s4 K0⟩
 | _ => none
theorem nat_Mul_l8 (g : nat_Mul_i8.V → Option (OT nat_Mul_o8)) (v : nat_Mul_i8.V) : loopStep tb (envL e71) 67 nat_Mul_lh (loopAt 8 (bodyOf Tryd.f71) .skip) nat_Mul_i8 nat_Mul_o8 g v = nat_Mul_s8 g v := by kernel_rfl
theorem nat_Mul_l4 (g : nat_Mul_i4.V → Option (OT nat_Mul_o4)) (v : nat_Mul_i4.V) : loopStep tb (envL e71) 67 nat_Mul_lh (loopAt 4 (bodyOf Tryd.f71) .skip) nat_Mul_i4 nat_Mul_o4 g v = nat_Mul_s4 g v := by kernel_rfl
theorem nat_Mul_eq (a_0 : List Int) (a_1 : List Int) : fnF tb (envL e71) Tryd.f71 nat_Mul_lh c71.ps c71.rs (T := (List Int)) (fun y => (y.2.1)) (a_0, a_1, ()) = nat_Mul a_0 a_1 := by kernel_rfl
abbrev e70 : List (Nat × Ctr) := [(71, c71), (87, c87), (106, c106)]
def whole_Mul_lh : LH
 | _ => none
theorem whole_Mul_eq (a_0 : WH) (b_1 : WH) : fnF tb (envL e70) Tryd.f70 whole_Mul_lh c70.ps c70.rs (T := WH) (fun y => (y.2.1)) (a_0, b_1, ()) = whole_Mul a_0 b_1 := by kernel_rfl
abbrev e114 : List (Nat × Ctr) := [(88, c88), (107, c107), (132, c132)]
def nat_Add_lh : LH
 | 10 => some ⟨nat_Add_i5, nat_Add_o5, lp nat_Add_s5 K0⟩
 | _ => none
theorem nat_Add_l5 (g : nat_Add_i5.V → Option (OT nat_Add_o5)) (v : nat_Add_i5.V) : loopStep tb (envL e114) 43 nat_Add_lh (loopAt 5 (bodyOf Tryd.f114) .skip) nat_Add_i5 nat_Add_o5 g v = nat_Add_s5 g v := by kernel_rfl
theorem nat_Add_eq (a_0 : List Int) (b_1 : List Int) : fnF tb (envL e114) Tryd.f114 nat_Add_lh c114.ps c114.rs (T := (List Int)) (fun y => (y.2.1)) (a_0, b_1, ()) = nat_Add a_0 b_1 := by kernel_rfl
abbrev e115 : List (Nat × Ctr) := [(88, c88), (122, c122)]
def nat_Cmp_lh : LH
 | _ => none
theorem nat_Cmp_eq (a_0 : List Int) (b_1 : List Int) : fnF tb (envL e115) Tryd.f115 nat_Cmp_lh c115.ps c115.rs (T := Int) (fun y => (y.2.1)) (a_0, b_1, ()) = nat_Cmp a_0 b_1 := by kernel_rfl
abbrev e116 : List (Nat × Ctr) := [(88, c88), (122, c122), (125, c125)]
def nat_Sub_lh : LH
 | _ => none
theorem nat_Sub_eq (a_0 : List Int) (b_1 : List Int) : fnF tb (envL e116) Tryd.f116 nat_Sub_lh c116.ps c116.rs (T := (List Int) × Int) (fun y => (y.2.1, y.2.2.1)) (a_0, b_1, ()) = nat_Sub a_0 b_1 := by kernel_rfl
abbrev e80 : List (Nat × Ctr) := [(87, c87), (106, c106), (114, c114), (115, c115), (116, c116)]
def whole_Add_lh : LH
 | _ => none
theorem whole_Add_eq (a_0 : WH) (b_1 : WH) : fnF tb (envL e80) Tryd.f80 whole_Add_lh c80.ps c80.rs (T := WH) (fun y => (y.2.1)) (a_0, b_1, ()) = whole_Add a_0 b_1 := by kernel_rfl
abbrev e81 : List (Nat × Ctr) := []
def ratio_den_lh : LH
 | _ => none
theorem ratio_den_eq (a_0 : RAT) : fnF tb (envL e81) Tryd.f81 ratio_den_lh c81.ps c81.rs (T := WH) (fun y => (y.2.1)) (a_0, ()) = ratio_den a_0 := by kernel_rfl
abbrev e46 : List (Nat × Ctr) := [(55, c55), (69, c69), (70, c70), (71, c71), (80, c80), (81, c81)]
def ratio_Add_lh : LH
 | _ => none
theorem ratio_Add_eq (a_0 : RAT) (b_1 : RAT) : fnF tb (envL e46) Tryd.f46 ratio_Add_lh c46.ps c46.rs (T := RAT) (fun y => (y.2.1)) (a_0, b_1, ()) = ratio_Add a_0 b_1 := by kernel_rfl
abbrev e90 : List (Nat × Ctr) := [(87, c87), (106, c106)]
def whole_Neg_lh : LH
 | _ => none
theorem whole_Neg_eq (a_0 : WH) : fnF tb (envL e90) Tryd.f90 whole_Neg_lh c90.ps c90.rs (T := WH) (fun y => (y.2.1)) (a_0, ()) = whole_Neg a_0 := by kernel_rfl
abbrev e57 : List (Nat × Ctr) := [(55, c55), (90, c90)]
def ratio_Neg_lh : LH
 | _ => none
theorem ratio_Neg_eq (a_0 : RAT) : fnF tb (envL e57) Tryd.f57 ratio_Neg_lh c57.ps c57.rs (T := RAT) (fun y => (y.2.1)) (a_0, ()) = ratio_Neg a_0 := by kernel_rfl
abbrev e18 : List (Nat × Ctr) := [(46, c46), (57, c57)]
def ratio_Sub_lh : LH
 | _ => none
theorem ratio_Sub_eq (a_0 : RAT) (b_1 : RAT) : fnF tb (envL e18) Tryd.f18 ratio_Sub_lh c18.ps c18.rs (T := RAT) (fun y => (y.2.1)) (a_0, b_1, ()) = ratio_Sub a_0 b_1 := by kernel_rfl
abbrev e92 : List (Nat × Ctr) := []
def model_Fits_lh : LH
 | 18 => some ⟨model_Fits_i9, model_Fits_o9, lp model_Fits_s9 K0⟩
 | 8 => some ⟨model_Fits_i4, model_Fits_o4, lp model_Fits_s4 K0⟩
 | _ => none
theorem model_Fits_l9 (g : model_Fits_i9.V → Option (OT model_Fits_o9)) (v : model_Fits_i9.V) : loopStep tb (envL e92) 72 model_Fits_lh (loopAt 9 (bodyOf Tryd.f92) .skip) model_Fits_i9 model_Fits_o9 g v = model_Fits_s9 g v := by kernel_rfl
theorem model_Fits_l4 (g : model_Fits_i4.V → Option (OT model_Fits_o4)) (v : model_Fits_i4.V) : loopStep tb (envL e92) 72 model_Fits_lh (loopAt 4 (bodyOf Tryd.f92) .skip) model_Fits_i4 model_Fits_o4 g v = model_Fits_s4 g v := by kernel_rfl
theorem model_Fits_eq (a_0 : MODEL) : fnF tb (envL e92) Tryd.f92 model_Fits_lh c92.ps c92.rs (T := Bool) (fun y => (y.2.1)) (a_0, ()) = model_Fits a_0 := by kernel_rfl
abbrev e93 : List (Nat × Ctr) := []
def valid_ranges_lh : LH
 | 4 => some ⟨valid_ranges_i2, valid_ranges_o2, lp valid_ranges_s2 K0⟩
 | _ => none
theorem valid_ranges_l2 (g : valid_ranges_i2.V → Option (OT valid_ranges_o2)) (v : valid_ranges_i2.V) : loopStep tb (envL e93) 52 valid_ranges_lh (loopAt 2 (bodyOf Tryd.f93) .skip) valid_ranges_i2 valid_ranges_o2 g v = valid_ranges_s2 g v := by kernel_rfl
theorem valid_ranges_eq (t_0 : List NODE) (features_1 : Int) : fnF tb (envL e93) Tryd.f93 valid_ranges_lh c93.ps c93.rs (T := Int × Int) (fun y => (y.2.1, y.2.2.1)) (t_0, features_1, ()) = valid_ranges t_0 features_1 := by kernel_rfl
abbrev e94 : List (Nat × Ctr) := []
def valid_shape_lh : LH
 | 6 => some ⟨valid_shape_i3, valid_shape_o3, lp valid_shape_s3 K0⟩
 | 20 => some ⟨valid_shape_i10, valid_shape_o10, lp valid_shape_s10 K0⟩
 | 34 => some ⟨valid_shape_i17, valid_shape_o17, lp valid_shape_s17 K0⟩
 | 50 => some ⟨valid_shape_i25, valid_shape_o25, lp valid_shape_s25 K0⟩
 | _ => none
theorem valid_shape_l3 (g : valid_shape_i3.V → Option (OT valid_shape_o3)) (v : valid_shape_i3.V) : loopStep tb (envL e94) 103 valid_shape_lh (loopAt 3 (bodyOf Tryd.f94) .skip) valid_shape_i3 valid_shape_o3 g v = valid_shape_s3 g v := by kernel_rfl
theorem valid_shape_l10 (g : valid_shape_i10.V → Option (OT valid_shape_o10)) (v : valid_shape_i10.V) : loopStep tb (envL e94) 103 valid_shape_lh (loopAt 10 (bodyOf Tryd.f94) .skip) valid_shape_i10 valid_shape_o10 g v = valid_shape_s10 g v := by kernel_rfl
theorem valid_shape_l17 (g : valid_shape_i17.V → Option (OT valid_shape_o17)) (v : valid_shape_i17.V) : loopStep tb (envL e94) 103 valid_shape_lh (loopAt 17 (bodyOf Tryd.f94) .skip) valid_shape_i17 valid_shape_o17 g v = valid_shape_s17 g v := by kernel_rfl
theorem valid_shape_l25 (g : valid_shape_i25.V → Option (OT valid_shape_o25)) (v : valid_shape_i25.V) : loopStep tb (envL e94) 103 valid_shape_lh (loopAt 25 (bodyOf Tryd.f94) .skip) valid_shape_i25 valid_shape_o25 g v = valid_shape_s25 g v := by kernel_rfl
theorem valid_shape_eq (a_0 : List NODE) : fnF tb (envL e94) Tryd.f94 valid_shape_lh c94.ps c94.rs (T := Int × Int) (fun y => (y.2.1, y.2.2.1)) (a_0, ()) = valid_shape a_0 := by kernel_rfl
abbrev e54 : List (Nat × Ctr) := [(87, c87)]
def whole_Sign_lh : LH
 | _ => none
theorem whole_Sign_eq (a_0 : WH) : fnF tb (envL e54) Tryd.f54 whole_Sign_lh c54.ps c54.rs (T := Int) (fun y => (y.2.1)) (a_0, ()) = whole_Sign a_0 := by kernel_rfl
abbrev e15 : List (Nat × Ctr) := [(54, c54), (55, c55)]
def ratio_Sign_lh : LH
 | _ => none
theorem ratio_Sign_eq (a_0 : RAT) : fnF tb (envL e15) Tryd.f15 ratio_Sign_lh c15.ps c15.rs (T := Int) (fun y => (y.2.1)) (a_0, ()) = ratio_Sign a_0 := by kernel_rfl
abbrev e95 : List (Nat × Ctr) := [(15, c15)]
def valid_covers_lh : LH
 | 4 => some ⟨valid_covers_i2, valid_covers_o2, lp valid_covers_s2 K0⟩
 | _ => none
theorem valid_covers_l2 (g : valid_covers_i2.V → Option (OT valid_covers_o2)) (v : valid_covers_i2.V) : loopStep tb (envL e95) 19 valid_covers_lh (loopAt 2 (bodyOf Tryd.f95) .skip) valid_covers_i2 valid_covers_o2 g v = valid_covers_s2 g v := by kernel_rfl
theorem valid_covers_eq (t_0 : List NODE) : fnF tb (envL e95) Tryd.f95 valid_covers_lh c95.ps c95.rs (T := Int × Int) (fun y => (y.2.1, y.2.2.1)) (t_0, ()) = valid_covers t_0 := by kernel_rfl
abbrev e89 : List (Nat × Ctr) := [(87, c87), (115, c115)]
def whole_Cmp_lh : LH
 | _ => none
theorem whole_Cmp_eq (a_0 : WH) (b_1 : WH) : fnF tb (envL e89) Tryd.f89 whole_Cmp_lh c89.ps c89.rs (T := Int) (fun y => (y.2.1)) (a_0, b_1, ()) = whole_Cmp a_0 b_1 := by kernel_rfl
abbrev e56 : List (Nat × Ctr) := [(55, c55), (70, c70), (81, c81), (89, c89)]
def ratio_Cmp_lh : LH
 | _ => none
theorem ratio_Cmp_eq (a_0 : RAT) (b_1 : RAT) : fnF tb (envL e56) Tryd.f56 ratio_Cmp_lh c56.ps c56.rs (T := Int) (fun y => (y.2.1)) (a_0, b_1, ()) = ratio_Cmp a_0 b_1 := by kernel_rfl
abbrev e16 : List (Nat × Ctr) := [(56, c56)]
def ratio_Same_lh : LH
 | _ => none
theorem ratio_Same_eq (a_0 : RAT) (b_1 : RAT) : fnF tb (envL e16) Tryd.f16 ratio_Same_lh c16.ps c16.rs (T := Bool) (fun y => (y.2.1)) (a_0, b_1, ()) = ratio_Same a_0 b_1 := by kernel_rfl
abbrev e96 : List (Nat × Ctr) := [(16, c16), (46, c46)]
def valid_sums_lh : LH
 | 4 => some ⟨valid_sums_i2, valid_sums_o2, lp valid_sums_s2 K0⟩
 | _ => none
theorem valid_sums_l2 (g : valid_sums_i2.V → Option (OT valid_sums_o2)) (v : valid_sums_i2.V) : loopStep tb (envL e96) 37 valid_sums_lh (loopAt 2 (bodyOf Tryd.f96) .skip) valid_sums_i2 valid_sums_o2 g v = valid_sums_s2 g v := by kernel_rfl
theorem valid_sums_eq (t_0 : List NODE) : fnF tb (envL e96) Tryd.f96 valid_sums_lh c96.ps c96.rs (T := Int × Int) (fun y => (y.2.1, y.2.2.1)) (t_0, ()) = valid_sums t_0 := by kernel_rfl
abbrev e97 : List (Nat × Ctr) := []
def valid_fault_lh : LH
 | _ => none
theorem valid_fault_eq (e_0 : Int) (tree_1 : Int) (node_2 : Int) : fnF tb (envL e97) Tryd.f97 valid_fault_lh c97.ps c97.rs (T := (Int × Int × Int × Int)) (fun y => (y.2.1)) (e_0, tree_1, node_2, ()) = valid_fault e_0 tree_1 node_2 := by kernel_rfl
abbrev e65 : List (Nat × Ctr) := [(92, c92), (93, c93), (94, c94), (95, c95), (96, c96), (97, c97)]
def valid_Check_lh : LH
 | 14 => some ⟨valid_Check_i7, valid_Check_o7, lp valid_Check_s7 K0⟩
 | 8 => some ⟨valid_Check_i4, valid_Check_o4, lp valid_Check_s4 K0⟩
 | _ => none
theorem valid_Check_l7 (g : valid_Check_i7.V → Option (OT valid_Check_o7)) (v : valid_Check_i7.V) : loopStep tb (envL e65) 63 valid_Check_lh (loopAt 7 (bodyOf Tryd.f65) .skip) valid_Check_i7 valid_Check_o7 g v = valid_Check_s7 g v := by kernel_rfl
theorem valid_Check_l4 (g : valid_Check_i4.V → Option (OT valid_Check_o4)) (v : valid_Check_i4.V) : loopStep tb (envL e65) 63 valid_Check_lh (loopAt 4 (bodyOf Tryd.f65) .skip) valid_Check_i4 valid_Check_o4 g v = valid_Check_s4 g v := by kernel_rfl
theorem valid_Check_eq (m_0 : MODEL) : fnF tb (envL e65) Tryd.f65 valid_Check_lh c65.ps c65.rs (T := (Int × Int × Int × Int)) (fun y => (y.2.1)) (m_0, ()) = valid_Check m_0 := by kernel_rfl
abbrev e27 : List (Nat × Ctr) := [(65, c65)]
def valid_Ok_lh : LH
 | _ => none
theorem valid_Ok_eq (m_0 : MODEL) : fnF tb (envL e27) Tryd.f27 valid_Ok_lh c27.ps c27.rs (T := Bool) (fun y => (y.2.1)) (m_0, ()) = valid_Ok m_0 := by kernel_rfl
abbrev e50 : List (Nat × Ctr) := [(27, c27)]
def route_fits_lh : LH
 | _ => none
theorem route_fits_eq (m_0 : MODEL) (row_1 : List CELL) : fnF tb (envL e50) Tryd.f50 route_fits_lh c50.ps c50.rs (T := Int) (fun y => (y.2.1)) (m_0, row_1, ()) = route_fits m_0 row_1 := by kernel_rfl
abbrev e77 : List (Nat × Ctr) := [(50, c50)]
def route_Fits_lh : LH
 | _ => none
theorem route_Fits_eq (m_0 : MODEL) (row_1 : List CELL) : fnF tb (envL e77) Tryd.f77 route_Fits_lh c77.ps c77.rs (T := Int) (fun y => (y.2.1)) (m_0, row_1, ()) = route_Fits m_0 row_1 := by kernel_rfl
abbrev e117 : List (Nat × Ctr) := [(56, c56)]
def route_goes_lh : LH
 | _ => none
theorem route_goes_eq (n_0 : NODE) (c_1 : CELL) : fnF tb (envL e117) Tryd.f117 route_goes_lh c117.ps c117.rs (T := Bool) (fun y => (y.2.1)) (n_0, c_1, ()) = route_goes n_0 c_1 := by kernel_rfl
abbrev e85 : List (Nat × Ctr) := [(117, c117)]
def route_next_lh : LH
 | _ => none
theorem route_next_eq (n_0 : NODE) (row_1 : List CELL) : fnF tb (envL e85) Tryd.f85 route_next_lh c85.ps c85.rs (T := Int) (fun y => (y.2.1)) (n_0, row_1, ()) = route_next n_0 row_1 := by kernel_rfl
abbrev e111 : List (Nat × Ctr) := [(27, c27)]
def valid_Tree_lh : LH
 | _ => none
theorem valid_Tree_eq (t_0 : List NODE) (features_1 : Int) : fnF tb (envL e111) Tryd.f111 valid_Tree_lh c111.ps c111.rs (T := Bool) (fun y => (y.2.1)) (t_0, features_1, ()) = valid_Tree t_0 features_1 := by kernel_rfl
abbrev e78 : List (Nat × Ctr) := [(85, c85), (111, c111)]
def route_Way_lh : LH
 | 10 => some ⟨route_Way_i5, route_Way_o5, lp route_Way_s5 K0⟩
 | _ => none
theorem route_Way_l5 (g : route_Way_i5.V → Option (OT route_Way_o5)) (v : route_Way_i5.V) : loopStep tb (envL e78) 31 route_Way_lh (loopAt 5 (bodyOf Tryd.f78) .skip) route_Way_i5 route_Way_o5 g v = route_Way_s5 g v := by kernel_rfl
theorem route_Way_eq (t_0 : List NODE) (row_1 : List CELL) : fnF tb (envL e78) Tryd.f78 route_Way_lh c78.ps c78.rs (T := (List Int) × Int) (fun y => (y.2.1, y.2.2.1)) (t_0, row_1, ()) = route_Way t_0 row_1 := by kernel_rfl
abbrev e112 : List (Nat × Ctr) := []
def expect_down_lh : LH
 | 6 => some ⟨expect_down_i3, expect_down_o3, lp expect_down_s3 K0⟩
 | _ => none
theorem expect_down_l3 (g : expect_down_i3.V → Option (OT expect_down_o3)) (v : expect_down_i3.V) : loopStep tb (envL e112) 31 expect_down_lh (loopAt 3 (bodyOf Tryd.f112) .skip) expect_down_i3 expect_down_o3 g v = expect_down_s3 g v := by kernel_rfl
theorem expect_down_eq (t_0 : List NODE) : fnF tb (envL e112) Tryd.f112 expect_down_lh c112.ps c112.rs (T := (List Int)) (fun y => (y.2.1)) (t_0, ()) = expect_down t_0 := by kernel_rfl
abbrev e31 : List (Nat × Ctr) := [(55, c55), (69, c69), (70, c70), (71, c71)]
def ratio_Mul_lh : LH
 | _ => none
theorem ratio_Mul_eq (a_0 : RAT) (b_1 : RAT) : fnF tb (envL e31) Tryd.f31 ratio_Mul_lh c31.ps c31.rs (T := RAT) (fun y => (y.2.1)) (a_0, b_1, ()) = ratio_Mul a_0 b_1 := by kernel_rfl
abbrev e84 : List (Nat × Ctr) := [(54, c54), (69, c69), (87, c87), (90, c90)]
def ratio_Make_lh : LH
 | _ => none
theorem ratio_Make_eq (num_0 : WH) (den_1 : WH) : fnF tb (envL e84) Tryd.f84 ratio_Make_lh c84.ps c84.rs (T := RAT × Int) (fun y => (y.2.1, y.2.2.1)) (num_0, den_1, ()) = ratio_Make num_0 den_1 := by kernel_rfl
abbrev e109 : List (Nat × Ctr) := [(55, c55), (81, c81), (84, c84)]
def ratio_Inv_lh : LH
 | _ => none
theorem ratio_Inv_eq (a_0 : RAT) : fnF tb (envL e109) Tryd.f109 ratio_Inv_lh c109.ps c109.rs (T := RAT × Int) (fun y => (y.2.1, y.2.2.1)) (a_0, ()) = ratio_Inv a_0 := by kernel_rfl
abbrev e103 : List (Nat × Ctr) := [(31, c31), (109, c109)]
def ratio_Div_lh : LH
 | _ => none
theorem ratio_Div_eq (a_0 : RAT) (b_1 : RAT) : fnF tb (envL e103) Tryd.f103 ratio_Div_lh c103.ps c103.rs (T := RAT × Int) (fun y => (y.2.1, y.2.2.1)) (a_0, b_1, ()) = ratio_Div a_0 b_1 := by kernel_rfl
abbrev e131 : List (Nat × Ctr) := [(103, c103)]
def expect_over_lh : LH
 | _ => none
theorem expect_over_eq (a_0 : RAT) (b_1 : RAT) : fnF tb (envL e131) Tryd.f131 expect_over_lh c131.ps c131.rs (T := RAT) (fun y => (y.2.1)) (a_0, b_1, ()) = expect_over a_0 b_1 := by kernel_rfl
abbrev e113 : List (Nat × Ctr) := [(31, c31), (46, c46), (131, c131)]
def expect_mean_lh : LH
 | _ => none
theorem expect_mean_eq (t_0 : List NODE) (n_1 : NODE) (a_2 : RAT) (b_3 : RAT) : fnF tb (envL e113) Tryd.f113 expect_mean_lh c113.ps c113.rs (T := RAT) (fun y => (y.2.1)) (t_0, n_1, a_2, b_3, ()) = expect_mean t_0 n_1 a_2 b_3 := by kernel_rfl
abbrev e79 : List (Nat × Ctr) := [(55, c55), (111, c111), (112, c112), (113, c113)]
def expect_Nodes_lh : LH
 | 12 => some ⟨expect_Nodes_i6, expect_Nodes_o6, lp expect_Nodes_s6 K0⟩
 | _ => none
theorem expect_Nodes_l6 (g : expect_Nodes_i6.V → Option (OT expect_Nodes_o6)) (v : expect_Nodes_i6.V) : loopStep tb (envL e79) 64 expect_Nodes_lh (loopAt 6 (bodyOf Tryd.f79) .skip) expect_Nodes_i6 expect_Nodes_o6 g v = expect_Nodes_s6 g v := by kernel_rfl
theorem expect_Nodes_eq (t_0 : List NODE) (features_1 : Int) : fnF tb (envL e79) Tryd.f79 expect_Nodes_lh c79.ps c79.rs (T := (List RAT) × Int) (fun y => (y.2.1, y.2.2.1)) (t_0, features_1, ()) = expect_Nodes t_0 features_1 := by kernel_rfl
abbrev e44 : List (Nat × Ctr) := [(18, c18), (77, c77), (78, c78), (79, c79)]
def saabas_Steps_lh : LH
 | 22 => some ⟨saabas_Steps_i11, saabas_Steps_o11, lp saabas_Steps_s11 K0⟩
 | 12 => some ⟨saabas_Steps_i6, saabas_Steps_o6, lp saabas_Steps_s6 K0⟩
 | _ => none
theorem saabas_Steps_l11 (g : saabas_Steps_i11.V → Option (OT saabas_Steps_o11)) (v : saabas_Steps_i11.V) : loopStep tb (envL e44) 85 saabas_Steps_lh (loopAt 11 (bodyOf Tryd.f44) .skip) saabas_Steps_i11 saabas_Steps_o11 g v = saabas_Steps_s11 g v := by kernel_rfl
theorem saabas_Steps_l6 (g : saabas_Steps_i6.V → Option (OT saabas_Steps_o6)) (v : saabas_Steps_i6.V) : loopStep tb (envL e44) 85 saabas_Steps_lh (loopAt 6 (bodyOf Tryd.f44) .skip) saabas_Steps_i6 saabas_Steps_o6 g v = saabas_Steps_s6 g v := by kernel_rfl
theorem saabas_Steps_eq (a_0 : MODEL) (a_1 : List CELL) : fnF tb (envL e44) Tryd.f44 saabas_Steps_lh c44.ps c44.rs (T := (List (Int × Int × Int × RAT)) × Int) (fun y => (y.2.1, y.2.2.1)) (a_0, a_1, ()) = saabas_Steps a_0 a_1 := by kernel_rfl
abbrev e45 : List (Nat × Ctr) := [(51, c51)]
def saabas_zeros_lh : LH
 | 6 => some ⟨saabas_zeros_i3, saabas_zeros_o3, lp saabas_zeros_s3 K0⟩
 | _ => none
theorem saabas_zeros_l3 (g : saabas_zeros_i3.V → Option (OT saabas_zeros_o3)) (v : saabas_zeros_i3.V) : loopStep tb (envL e45) 13 saabas_zeros_lh (loopAt 3 (bodyOf Tryd.f45) .skip) saabas_zeros_i3 saabas_zeros_o3 g v = saabas_zeros_s3 g v := by kernel_rfl
theorem saabas_zeros_eq (n_0 : Int) : fnF tb (envL e45) Tryd.f45 saabas_zeros_lh c45.ps c45.rs (T := (List RAT)) (fun y => (y.2.1)) (n_0, ()) = saabas_zeros n_0 := by kernel_rfl
abbrev e9 : List (Nat × Ctr) := [(44, c44), (45, c45), (46, c46)]
def saabas_Values_lh : LH
 | 12 => some ⟨saabas_Values_i6, saabas_Values_o6, lp saabas_Values_s6 K0⟩
 | _ => none
theorem saabas_Values_l6 (g : saabas_Values_i6.V → Option (OT saabas_Values_o6)) (v : saabas_Values_i6.V) : loopStep tb (envL e9) 43 saabas_Values_lh (loopAt 6 (bodyOf Tryd.f9) .skip) saabas_Values_i6 saabas_Values_o6 g v = saabas_Values_s6 g v := by kernel_rfl
theorem saabas_Values_eq (m_0 : MODEL) (row_1 : List CELL) : fnF tb (envL e9) Tryd.f9 saabas_Values_lh c9.ps c9.rs (T := (List RAT) × Int) (fun y => (y.2.1, y.2.2.1)) (m_0, row_1, ()) = saabas_Values m_0 row_1 := by kernel_rfl
abbrev e10 : List (Nat × Ctr) := [(27, c27)]
def dendronlaw10_Why_lh : LH
 | _ => none
theorem dendronlaw10_Why_eq (m_0 : MODEL) (row_1 : List CELL) : fnF tb (envL e10) Tryd.f10 dendronlaw10_Why_lh c10.ps c10.rs (T := Int) (fun y => (y.2.1)) (m_0, row_1, ()) = dendronlaw10_Why m_0 row_1 := by kernel_rfl
abbrev e82 : List (Nat × Ctr) := [(83, c83), (106, c106)]
def whole_Of_lh : LH
 | _ => none
theorem whole_Of_eq (n_0 : Int) : fnF tb (envL e82) Tryd.f82 whole_Of_lh c82.ps c82.rs (T := WH) (fun y => (y.2.1)) (n_0, ()) = whole_Of n_0 := by kernel_rfl
abbrev e47 : List (Nat × Ctr) := [(82, c82), (83, c83)]
def ratio_Of_lh : LH
 | _ => none
theorem ratio_Of_eq (n_0 : Int) : fnF tb (envL e47) Tryd.f47 ratio_Of_lh c47.ps c47.rs (T := RAT) (fun y => (y.2.1)) (n_0, ()) = ratio_Of n_0 := by kernel_rfl
abbrev e48 : List (Nat × Ctr) := [(47, c47)]
def ratio_One_lh : LH
 | _ => none
theorem ratio_One_eq  : fnF tb (envL e48) Tryd.f48 ratio_One_lh c48.ps c48.rs (T := RAT) (fun y => (y.2.1)) () = ratio_One  := by kernel_rfl
abbrev e49 : List (Nat × Ctr) := [(55, c55), (82, c82), (84, c84)]
def ratio_Frac_lh : LH
 | _ => none
theorem ratio_Frac_eq (n_0 : Int) (d_1 : Int) : fnF tb (envL e49) Tryd.f49 ratio_Frac_lh c49.ps c49.rs (T := RAT) (fun y => (y.2.1)) (n_0, d_1, ()) = ratio_Frac n_0 d_1 := by kernel_rfl
abbrev e11 : List (Nat × Ctr) := [(9, c9), (16, c16), (47, c47), (48, c48), (49, c49)]
def dendronlaw12_awake_lh : LH
 | _ => none
theorem dendronlaw12_awake_eq  : fnF tb (envL e11) Tryd.f11 dendronlaw12_awake_lh c11.ps c11.rs (T := Bool) (fun y => (y.2.1)) () = dendronlaw12_awake  := by kernel_rfl
abbrev e52 : List (Nat × Ctr) := [(55, c55), (85, c85)]
def route_value_lh : LH
 | 4 => some ⟨route_value_i2, route_value_o2, lp route_value_s2 K0⟩
 | _ => none
theorem route_value_l2 (g : route_value_i2.V → Option (OT route_value_o2)) (v : route_value_i2.V) : loopStep tb (envL e52) 24 route_value_lh (loopAt 2 (bodyOf Tryd.f52) .skip) route_value_i2 route_value_o2 g v = route_value_s2 g v := by kernel_rfl
theorem route_value_eq (t_0 : List NODE) (row_1 : List CELL) : fnF tb (envL e52) Tryd.f52 route_value_lh c52.ps c52.rs (T := RAT) (fun y => (y.2.1)) (t_0, row_1, ()) = route_value t_0 row_1 := by kernel_rfl
abbrev e12 : List (Nat × Ctr) := [(46, c46), (50, c50), (51, c51), (52, c52)]
def route_Predict_lh : LH
 | 12 => some ⟨route_Predict_i6, route_Predict_o6, lp route_Predict_s6 K0⟩
 | _ => none
theorem route_Predict_l6 (g : route_Predict_i6.V → Option (OT route_Predict_o6)) (v : route_Predict_i6.V) : loopStep tb (envL e12) 32 route_Predict_lh (loopAt 6 (bodyOf Tryd.f12) .skip) route_Predict_i6 route_Predict_o6 g v = route_Predict_s6 g v := by kernel_rfl
theorem route_Predict_eq (m_0 : MODEL) (row_1 : List CELL) : fnF tb (envL e12) Tryd.f12 route_Predict_lh c12.ps c12.rs (T := RAT × Int) (fun y => (y.2.1, y.2.2.1)) (m_0, row_1, ()) = route_Predict m_0 row_1 := by kernel_rfl
abbrev e102 : List (Nat × Ctr) := [(117, c117)]
def route_Left_lh : LH
 | _ => none
theorem route_Left_eq (n_0 : NODE) (c_1 : CELL) : fnF tb (envL e102) Tryd.f102 route_Left_lh c102.ps c102.rs (T := Bool) (fun y => (y.2.1)) (n_0, c_1, ()) = route_Left n_0 c_1 := by kernel_rfl
abbrev e118 : List (Nat × Ctr) := []
def expect_known_lh : LH
 | _ => none
theorem expect_known_eq (set_0 : Int) (feature_1 : Int) : fnF tb (envL e118) Tryd.f118 expect_known_lh c118.ps c118.rs (T := Bool) (fun y => (y.2.1)) (set_0, feature_1, ()) = expect_known set_0 feature_1 := by kernel_rfl
abbrev e86 (n : Nat) : List (Nat × Ctr) := [(55, c55), (86, (c86 n)), (102, c102), (113, c113), (118, c118)]
def expect_value_lh (n : Nat) : LH
 | _ => none
theorem expect_value_eq (n : Nat) (t_0 : List NODE) (at_1 : Int) (row_2 : List CELL) (set_3 : Int) : fnF tb (envL (e86 n)) Tryd.f86 (expect_value_lh n) (c86 n).ps (c86 n).rs (T := RAT) (fun y => (y.2.1)) (t_0, at_1, row_2, set_3, ()) = expect_value (n + 1) t_0 at_1 row_2 set_3 := by kernel_rfl
abbrev e53 : List (Nat × Ctr) := [(46, c46), (51, c51), (77, c77), (86, (c86 R0))]
def expect_Value_lh : LH
 | 12 => some ⟨expect_Value_i6, expect_Value_o6, lp expect_Value_s6 K0⟩
 | _ => none
theorem expect_Value_l6 (g : expect_Value_i6.V → Option (OT expect_Value_o6)) (v : expect_Value_i6.V) : loopStep tb (envL e53) 35 expect_Value_lh (loopAt 6 (bodyOf Tryd.f53) .skip) expect_Value_i6 expect_Value_o6 g v = expect_Value_s6 g v := by kernel_rfl
theorem expect_Value_eq (m_0 : MODEL) (row_1 : List CELL) (set_2 : Int) : fnF tb (envL e53) Tryd.f53 expect_Value_lh c53.ps c53.rs (T := RAT × Int) (fun y => (y.2.1, y.2.2.1)) (m_0, row_1, set_2, ()) = expect_Value m_0 row_1 set_2 := by kernel_rfl
abbrev e13 : List (Nat × Ctr) := [(27, c27), (53, c53)]
def expect_Base_lh : LH
 | _ => none
theorem expect_Base_eq (m_0 : MODEL) : fnF tb (envL e13) Tryd.f13 expect_Base_lh c13.ps c13.rs (T := RAT × Int) (fun y => (y.2.1, y.2.2.1)) (m_0, ()) = expect_Base m_0 := by kernel_rfl
abbrev e17 : List (Nat × Ctr) := [(46, c46), (51, c51)]
def ratio_Sum_lh : LH
 | 6 => some ⟨ratio_Sum_i3, ratio_Sum_o3, lp ratio_Sum_s3 K0⟩
 | _ => none
theorem ratio_Sum_l3 (g : ratio_Sum_i3.V → Option (OT ratio_Sum_o3)) (v : ratio_Sum_i3.V) : loopStep tb (envL e17) 18 ratio_Sum_lh (loopAt 3 (bodyOf Tryd.f17) .skip) ratio_Sum_i3 ratio_Sum_o3 g v = ratio_Sum_s3 g v := by kernel_rfl
theorem ratio_Sum_eq (l_0 : List RAT) : fnF tb (envL e17) Tryd.f17 ratio_Sum_lh c17.ps c17.rs (T := RAT) (fun y => (y.2.1)) (l_0, ()) = ratio_Sum l_0 := by kernel_rfl
abbrev e3 : List (Nat × Ctr) := [(8, c8), (9, c9), (10, c10), (11, c11), (12, c12), (13, c13), (14, c14), (15, c15), (16, c16), (17, c17), (18, c18)]
def dendronlaw12_SaabasAdds_lh : LH
 | 22 => some ⟨dendronlaw12_SaabasAdds_i11, dendronlaw12_SaabasAdds_o11, lp dendronlaw12_SaabasAdds_s11 K0⟩
 | _ => none
theorem dendronlaw12_SaabasAdds_l11 (g : dendronlaw12_SaabasAdds_i11.V → Option (OT dendronlaw12_SaabasAdds_o11)) (v : dendronlaw12_SaabasAdds_i11.V) : loopStep tb (envL e3) 89 dendronlaw12_SaabasAdds_lh (loopAt 11 (bodyOf Tryd.f3) .skip) dendronlaw12_SaabasAdds_i11 dendronlaw12_SaabasAdds_o11 g v = dendronlaw12_SaabasAdds_s11 g v := by kernel_rfl
theorem dendronlaw12_SaabasAdds_eq (a_0 : MODEL) (a_1 : List CELL) : fnF tb (envL e3) Tryd.f3 dendronlaw12_SaabasAdds_lh c3.ps c3.rs (T := Bool) (fun y => (y.2.1)) (a_0, a_1, ()) = dendronlaw12_SaabasAdds a_0 a_1 := by kernel_rfl
abbrev e60 : List (Nat × Ctr) := [(27, c27)]
def depend_feature_lh : LH
 | _ => none
theorem depend_feature_eq (m_0 : MODEL) (i_1 : Int) : fnF tb (envL e60) Tryd.f60 depend_feature_lh c60.ps c60.rs (T := Int) (fun y => (y.2.1)) (m_0, i_1, ()) = depend_feature m_0 i_1 := by kernel_rfl
abbrev e21 : List (Nat × Ctr) := [(60, c60)]
def depend_Unasked_lh : LH
 | 16 => some ⟨depend_Unasked_i8, depend_Unasked_o8, lp depend_Unasked_s8 K0⟩
 | 10 => some ⟨depend_Unasked_i5, depend_Unasked_o5, lp depend_Unasked_s5 K0⟩
 | _ => none
theorem depend_Unasked_l8 (g : depend_Unasked_i8.V → Option (OT depend_Unasked_o8)) (v : depend_Unasked_i8.V) : loopStep tb (envL e21) 41 depend_Unasked_lh (loopAt 8 (bodyOf Tryd.f21) .skip) depend_Unasked_i8 depend_Unasked_o8 g v = depend_Unasked_s8 g v := by kernel_rfl
theorem depend_Unasked_l5 (g : depend_Unasked_i5.V → Option (OT depend_Unasked_o5)) (v : depend_Unasked_i5.V) : loopStep tb (envL e21) 41 depend_Unasked_lh (loopAt 5 (bodyOf Tryd.f21) .skip) depend_Unasked_i5 depend_Unasked_o5 g v = depend_Unasked_s5 g v := by kernel_rfl
theorem depend_Unasked_eq (m_0 : MODEL) (i_1 : Int) : fnF tb (envL e21) Tryd.f21 depend_Unasked_lh c21.ps c21.rs (T := Bool × Int) (fun y => (y.2.1, y.2.2.1)) (m_0, i_1, ()) = depend_Unasked m_0 i_1 := by kernel_rfl
abbrev e22 : List (Nat × Ctr) := [(27, c27)]
def dendronlaw13_why_lh : LH
 | _ => none
theorem dendronlaw13_why_eq (m_0 : MODEL) (i_1 : Int) : fnF tb (envL e22) Tryd.f22 dendronlaw13_why_lh c22.ps c22.rs (T := Int) (fun y => (y.2.1)) (m_0, i_1, ()) = dendronlaw13_why m_0 i_1 := by kernel_rfl
abbrev e61 : List (Nat × Ctr) := [(56, c56)]
def depend_At_lh : LH
 | 6 => some ⟨depend_At_i3, depend_At_o3, lp depend_At_s3 K0⟩
 | _ => none
theorem depend_At_l3 (g : depend_At_i3.V → Option (OT depend_At_o3)) (v : depend_At_i3.V) : loopStep tb (envL e61) 22 depend_At_lh (loopAt 3 (bodyOf Tryd.f61) .skip) depend_At_i3 depend_At_o3 g v = depend_At_s3 g v := by kernel_rfl
theorem depend_At_eq (steps_0 : List RAT) (z_1 : RAT) : fnF tb (envL e61) Tryd.f61 depend_At_lh c61.ps c61.rs (T := Int) (fun y => (y.2.1)) (steps_0, z_1, ()) = depend_At steps_0 z_1 := by kernel_rfl
abbrev e23 : List (Nat × Ctr) := [(47, c47), (49, c49), (61, c61)]
def dendronlaw13_awake_lh : LH
 | _ => none
theorem dendronlaw13_awake_eq  : fnF tb (envL e23) Tryd.f23 dendronlaw13_awake_lh c23.ps c23.rs (T := Bool) (fun y => (y.2.1)) () = dendronlaw13_awake  := by kernel_rfl
abbrev e24 : List (Nat × Ctr) := [(53, c53), (60, c60)]
def depend_Cover_lh : LH
 | _ => none
theorem depend_Cover_eq (m_0 : MODEL) (i_1 : Int) (z_2 : CELL) : fnF tb (envL e24) Tryd.f24 depend_Cover_lh c24.ps c24.rs (T := RAT × Int) (fun y => (y.2.1, y.2.2.1)) (m_0, i_1, z_2, ()) = depend_Cover m_0 i_1 z_2 := by kernel_rfl
abbrev e4 : List (Nat × Ctr) := [(13, c13), (14, c14), (16, c16), (19, c19), (20, c20), (21, c21), (22, c22), (23, c23), (24, c24)]
def dendronlaw13_DependUnasked_lh : LH
 | _ => none
theorem dendronlaw13_DependUnasked_eq (a_0 : MODEL) (a_1 : Int) (a_2 : CELL) : fnF tb (envL e4) Tryd.f4 dendronlaw13_DependUnasked_lh c4.ps c4.rs (T := Bool) (fun y => (y.2.1)) (a_0, a_1, a_2, ()) = dendronlaw13_DependUnasked a_0 a_1 a_2 := by kernel_rfl
end Go.Proofs.YtjjgbpeapgmhoaaDoor.X
