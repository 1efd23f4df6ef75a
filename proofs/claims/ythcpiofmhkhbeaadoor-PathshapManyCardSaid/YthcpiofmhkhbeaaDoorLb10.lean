/- Own work: part of the proof; the first line of each part says what it tells. -/
import Derived.Test.YthcpiofmhkhbeaaDoorLb6


namespace Go.Proofs.YthcpiofmhkhbeaaDoor.X
open Go
set_option linter.unusedVariables false
set_option linter.unusedSimpArgs false
set_option maxRecDepth 100000
abbrev e25:List (Nat × Ctr):=[]
def dendronlaw09_number_lh:LH
 | _=>none
theorem dendronlaw09_number_eq (a_0:RAT):fnF tb (envL e25) Tryd.f25 dendronlaw09_number_lh c25.ps c25.rs (T:=RAT) (fun y=>(y.2.1)) (a_0,()) = dendronlaw09_number a_0:=by kernel_rfl
abbrev e6:List (Nat × Ctr):=[(25,c25)]
def dendronlaw09_Few_lh:LH
 | 6=>some ⟨dendronlaw09_Few_i3,dendronlaw09_Few_o3,lp dendronlaw09_Few_s3 K0⟩
 | _=>none
theorem dendronlaw09_Few_l3 (g:dendronlaw09_Few_i3.V → Option (OT dendronlaw09_Few_o3)) (v:dendronlaw09_Few_i3.V):loopStep tb (envL e6) 32 dendronlaw09_Few_lh (loopAt 3 (bodyOf Tryd.f6) .skip) dendronlaw09_Few_i3 dendronlaw09_Few_o3 g v = dendronlaw09_Few_s3 g v:=by kernel_rfl
theorem dendronlaw09_Few_eq (l_0:List CELL) (n_1:Int):fnF tb (envL e6) Tryd.f6 dendronlaw09_Few_lh c6.ps c6.rs (T:=(List CELL)) (fun y=>(y.2.1)) (l_0,n_1,()) = dendronlaw09_Few l_0 n_1:=by kernel_rfl
abbrev e26:List (Nat × Ctr):=[]
def dendronlaw07_number_lh:LH
 | _=>none
theorem dendronlaw07_number_eq (a_0:RAT):fnF tb (envL e26) Tryd.f26 dendronlaw07_number_lh c26.ps c26.rs (T:=RAT) (fun y=>(y.2.1)) (a_0,()) = dendronlaw07_number a_0:=by kernel_rfl
abbrev e7:List (Nat × Ctr):=[(26,c26)]
def dendronlaw07_Few_lh:LH
 | 14=>some ⟨dendronlaw07_Few_i7,dendronlaw07_Few_o7,lp dendronlaw07_Few_s7 K0⟩
 | 6=>some ⟨dendronlaw07_Few_i3,dendronlaw07_Few_o3,lp dendronlaw07_Few_s3 K0⟩
 | _=>none
theorem dendronlaw07_Few_l7 (g:dendronlaw07_Few_i7.V → Option (OT dendronlaw07_Few_o7)) (v:dendronlaw07_Few_i7.V):loopStep tb (envL e7) 67 dendronlaw07_Few_lh (loopAt 7 (bodyOf Tryd.f7) .skip) dendronlaw07_Few_i7 dendronlaw07_Few_o7 g v = dendronlaw07_Few_s7 g v:=by kernel_rfl
theorem dendronlaw07_Few_l3 (g:dendronlaw07_Few_i3.V → Option (OT dendronlaw07_Few_o3)) (v:dendronlaw07_Few_i3.V):loopStep tb (envL e7) 67 dendronlaw07_Few_lh (loopAt 3 (bodyOf Tryd.f7) .skip) dendronlaw07_Few_i3 dendronlaw07_Few_o3 g v = dendronlaw07_Few_s3 g v:=by kernel_rfl
theorem dendronlaw07_Few_eq (a_0:MODEL):fnF tb (envL e7) Tryd.f7 dendronlaw07_Few_lh c7.ps c7.rs (T:=MODEL) (fun y=>(y.2.1)) (a_0,()) = dendronlaw07_Few a_0:=by kernel_rfl
abbrev e65:List (Nat × Ctr):=[]
def model_Fits_lh:LH
 | 18=>some ⟨model_Fits_i9,model_Fits_o9,lp model_Fits_s9 K0⟩
 | 8=>some ⟨model_Fits_i4,model_Fits_o4,lp model_Fits_s4 K0⟩
 | _=>none
theorem model_Fits_l9 (g:model_Fits_i9.V → Option (OT model_Fits_o9)) (v:model_Fits_i9.V):loopStep tb (envL e65) 72 model_Fits_lh (loopAt 9 (bodyOf Tryd.f65) .skip) model_Fits_i9 model_Fits_o9 g v = model_Fits_s9 g v:=by kernel_rfl
theorem model_Fits_l4 (g:model_Fits_i4.V → Option (OT model_Fits_o4)) (v:model_Fits_i4.V):loopStep tb (envL e65) 72 model_Fits_lh (loopAt 4 (bodyOf Tryd.f65) .skip) model_Fits_i4 model_Fits_o4 g v = model_Fits_s4 g v:=by kernel_rfl
theorem model_Fits_eq (a_0:MODEL):fnF tb (envL e65) Tryd.f65 model_Fits_lh c65.ps c65.rs (T:=Bool) (fun y=>(y.2.1)) (a_0,()) = model_Fits a_0:=by kernel_rfl
abbrev e66:List (Nat × Ctr):=[]
def valid_ranges_lh:LH
 | 4=>some ⟨valid_ranges_i2,valid_ranges_o2,lp valid_ranges_s2 K0⟩
 | _=>none
theorem valid_ranges_l2 (g:valid_ranges_i2.V → Option (OT valid_ranges_o2)) (v:valid_ranges_i2.V):loopStep tb (envL e66) 52 valid_ranges_lh (loopAt 2 (bodyOf Tryd.f66) .skip) valid_ranges_i2 valid_ranges_o2 g v = valid_ranges_s2 g v:=by kernel_rfl
theorem valid_ranges_eq (t_0:List NODE) (features_1:Int):fnF tb (envL e66) Tryd.f66 valid_ranges_lh c66.ps c66.rs (T:=Int × Int) (fun y=>(y.2.1,y.2.2.1)) (t_0,features_1,()) = valid_ranges t_0 features_1:=by kernel_rfl
abbrev e67:List (Nat × Ctr):=[]
def valid_shape_lh:LH
 | 6=>some ⟨valid_shape_i3,valid_shape_o3,lp valid_shape_s3 K0⟩
 | 20=>some ⟨valid_shape_i10,valid_shape_o10,lp valid_shape_s10 K0⟩
 | 34=>some ⟨valid_shape_i17,valid_shape_o17,lp valid_shape_s17 K0⟩
 | 50=>some ⟨valid_shape_i25,valid_shape_o25,lp valid_shape_s25 K0⟩
 | _=>none
theorem valid_shape_l3 (g:valid_shape_i3.V → Option (OT valid_shape_o3)) (v:valid_shape_i3.V):loopStep tb (envL e67) 103 valid_shape_lh (loopAt 3 (bodyOf Tryd.f67) .skip) valid_shape_i3 valid_shape_o3 g v = valid_shape_s3 g v:=by kernel_rfl
theorem valid_shape_l10 (g:valid_shape_i10.V → Option (OT valid_shape_o10)) (v:valid_shape_i10.V):loopStep tb (envL e67) 103 valid_shape_lh (loopAt 10 (bodyOf Tryd.f67) .skip) valid_shape_i10 valid_shape_o10 g v = valid_shape_s10 g v:=by kernel_rfl
theorem valid_shape_l17 (g:valid_shape_i17.V → Option (OT valid_shape_o17)) (v:valid_shape_i17.V):loopStep tb (envL e67) 103 valid_shape_lh (loopAt 17 (bodyOf Tryd.f67) .skip) valid_shape_i17 valid_shape_o17 g v = valid_shape_s17 g v:=by kernel_rfl
theorem valid_shape_l25 (g:valid_shape_i25.V → Option (OT valid_shape_o25)) (v:valid_shape_i25.V):loopStep tb (envL e67) 103 valid_shape_lh (loopAt 25 (bodyOf Tryd.f67) .skip) valid_shape_i25 valid_shape_o25 g v = valid_shape_s25 g v:=by kernel_rfl
theorem valid_shape_eq (a_0:List NODE):fnF tb (envL e67) Tryd.f67 valid_shape_lh c67.ps c67.rs (T:=Int × Int) (fun y=>(y.2.1,y.2.2.1)) (a_0,()) = valid_shape a_0:=by kernel_rfl
abbrev e49:List (Nat × Ctr):=[]
def nat_trim_lh:LH
 | 4=>some ⟨nat_trim_i2,nat_trim_o2,lp nat_trim_s2 K0⟩
 | _=>none
theorem nat_trim_l2 (g:nat_trim_i2.V → Option (OT nat_trim_o2)) (v:nat_trim_i2.V):loopStep tb (envL e49) 23 nat_trim_lh (loopAt 2 (bodyOf Tryd.f49) .skip) nat_trim_i2 nat_trim_o2 g v = nat_trim_s2 g v:=by kernel_rfl
theorem nat_trim_eq (a_0:List Int):fnF tb (envL e49) Tryd.f49 nat_trim_lh c49.ps c49.rs (T:=(List Int)) (fun y=>(y.2.1)) (a_0,()) = nat_trim a_0:=by kernel_rfl
abbrev e61:List (Nat × Ctr):=[(49,c49)]
def nat_Clean_lh:LH
 | 6=>some ⟨nat_Clean_i3,nat_Clean_o3,lp nat_Clean_s3 K0⟩
 | _=>none
theorem nat_Clean_l3 (g:nat_Clean_i3.V → Option (OT nat_Clean_o3)) (v:nat_Clean_i3.V):loopStep tb (envL e61) 24 nat_Clean_lh (loopAt 3 (bodyOf Tryd.f61) .skip) nat_Clean_i3 nat_Clean_o3 g v = nat_Clean_s3 g v:=by kernel_rfl
theorem nat_Clean_eq (a_0:List Int):fnF tb (envL e61) Tryd.f61 nat_Clean_lh c61.ps c61.rs (T:=(List Int)) (fun y=>(y.2.1)) (a_0,()) = nat_Clean a_0:=by kernel_rfl
abbrev e71:List (Nat × Ctr):=[]
def whole_sign_lh:LH
 | _=>none
theorem whole_sign_eq (neg_0:Bool) (abs_1:List Int):fnF tb (envL e71) Tryd.f71 whole_sign_lh c71.ps c71.rs (T:=WH) (fun y=>(y.2.1)) (neg_0,abs_1,()) = whole_sign neg_0 abs_1:=by kernel_rfl
abbrev e60:List (Nat × Ctr):=[(61,c61),(71,c71)]
def whole_Clean_lh:LH
 | _=>none
theorem whole_Clean_eq (a_0:WH):fnF tb (envL e60) Tryd.f60 whole_Clean_lh c60.ps c60.rs (T:=WH) (fun y=>(y.2.1)) (a_0,()) = whole_Clean a_0:=by kernel_rfl
abbrev e39:List (Nat × Ctr):=[(60,c60)]
def whole_Sign_lh:LH
 | _=>none
theorem whole_Sign_eq (a_0:WH):fnF tb (envL e39) Tryd.f39 whole_Sign_lh c39.ps c39.rs (T:=Int) (fun y=>(y.2.1)) (a_0,()) = whole_Sign a_0:=by kernel_rfl
abbrev e31:List (Nat × Ctr):=[(49,c49)]
def nat_Of_lh:LH
 | _=>none
theorem nat_Of_eq (n_0:Int):fnF tb (envL e31) Tryd.f31 nat_Of_lh c31.ps c31.rs (T:=(List Int)) (fun y=>(y.2.1)) (n_0,()) = nat_Of n_0:=by kernel_rfl
abbrev e11:List (Nat × Ctr):=[(31,c31)]
def ratio_Zero_lh:LH
 | _=>none
theorem ratio_Zero_eq :fnF tb (envL e11) Tryd.f11 ratio_Zero_lh c11.ps c11.rs (T:=RAT) (fun y=>(y.2.1)) () = ratio_Zero :=by kernel_rfl
abbrev e85:List (Nat × Ctr):=[]
def nat_order_lh:LH
 | 12=>some ⟨nat_order_i6,nat_order_o6,lp nat_order_s6 K0⟩
 | _=>none
theorem nat_order_l6 (g:nat_order_i6.V → Option (OT nat_order_o6)) (v:nat_order_i6.V):loopStep tb (envL e85) 45 nat_order_lh (loopAt 6 (bodyOf Tryd.f85) .skip) nat_order_i6 nat_order_o6 g v = nat_order_s6 g v:=by kernel_rfl
theorem nat_order_eq (a_0:List Int) (b_1:List Int):fnF tb (envL e85) Tryd.f85 nat_order_lh c85.ps c85.rs (T:=Int) (fun y=>(y.2.1)) (a_0,b_1,()) = nat_order a_0 b_1:=by kernel_rfl
abbrev e105:List (Nat × Ctr):=[(61,c61)]
def nat_To_lh:LH
 | _=>none
theorem nat_To_eq (a_0:List Int):fnF tb (envL e105) Tryd.f105 nat_To_lh c105.ps c105.rs (T:=Int × Bool) (fun y=>(y.2.1,y.2.2.1)) (a_0,()) = nat_To a_0:=by kernel_rfl
abbrev e93:List (Nat × Ctr):=[(31,c31),(105,c105)]
def nat_euclid_lh:LH
 | 6=>some ⟨nat_euclid_i3,nat_euclid_o3,lp nat_euclid_s3 K0⟩
 | _=>none
theorem nat_euclid_l3 (g:nat_euclid_i3.V → Option (OT nat_euclid_o3)) (v:nat_euclid_i3.V):loopStep tb (envL e93) 27 nat_euclid_lh (loopAt 3 (bodyOf Tryd.f93) .skip) nat_euclid_i3 nat_euclid_o3 g v = nat_euclid_s3 g v:=by kernel_rfl
theorem nat_euclid_eq (a_0:List Int) (b_1:List Int):fnF tb (envL e93) Tryd.f93 nat_euclid_lh c93.ps c93.rs (T:=(List Int)) (fun y=>(y.2.1)) (a_0,b_1,()) = nat_euclid a_0 b_1:=by kernel_rfl
abbrev e94:List (Nat × Ctr):=[(106,c106)]
def nat_zeros_lh:LH
 | 6=>some ⟨nat_zeros_i3,nat_zeros_o3,lp nat_zeros_s3 K0⟩
 | _=>none
theorem nat_zeros_l3 (g:nat_zeros_i3.V → Option (OT nat_zeros_o3)) (v:nat_zeros_i3.V):loopStep tb (envL e94) 24 nat_zeros_lh (loopAt 3 (bodyOf Tryd.f94) .skip) nat_zeros_i3 nat_zeros_o3 g v = nat_zeros_s3 g v:=by kernel_rfl
theorem nat_zeros_eq (a_0:List Int):fnF tb (envL e94) Tryd.f94 nat_zeros_lh c94.ps c94.rs (T:=Int) (fun y=>(y.2.1)) (a_0,()) = nat_zeros a_0:=by kernel_rfl
abbrev e101:List (Nat × Ctr):=[]
def nat_limb_lh:LH
 | _=>none
theorem nat_limb_eq (a_0:List Int) (i_1:Int):fnF tb (envL e101) Tryd.f101 nat_limb_lh c101.ps c101.rs (T:=Int) (fun y=>(y.2.1)) (a_0,i_1,()) = nat_limb a_0 i_1:=by kernel_rfl
abbrev e95:List (Nat × Ctr):=[(49,c49),(101,c101)]
def nat_shr_lh:LH
 | 12=>some ⟨nat_shr_i6,nat_shr_o6,lp nat_shr_s6 K0⟩
 | _=>none
theorem nat_shr_l6 (g:nat_shr_i6.V → Option (OT nat_shr_o6)) (v:nat_shr_i6.V):loopStep tb (envL e95) 50 nat_shr_lh (loopAt 6 (bodyOf Tryd.f95) .skip) nat_shr_i6 nat_shr_o6 g v = nat_shr_s6 g v:=by kernel_rfl
theorem nat_shr_eq (a_0:List Int) (n_1:Int):fnF tb (envL e95) Tryd.f95 nat_shr_lh c95.ps c95.rs (T:=(List Int)) (fun y=>(y.2.1)) (a_0,n_1,()) = nat_shr a_0 n_1:=by kernel_rfl
abbrev e96:List (Nat × Ctr):=[(49,c49)]
def nat_shl_lh:LH
 | 8=>some ⟨nat_shl_i4,nat_shl_o4,lp nat_shl_s4 K0⟩
 | _=>none
theorem nat_shl_l4 (g:nat_shl_i4.V → Option (OT nat_shl_o4)) (v:nat_shl_i4.V):loopStep tb (envL e96) 51 nat_shl_lh (loopAt 4 (bodyOf Tryd.f96) .skip) nat_shl_i4 nat_shl_o4 g v = nat_shl_s4 g v:=by kernel_rfl
theorem nat_shl_eq (a_0:List Int) (n_1:Int):fnF tb (envL e96) Tryd.f96 nat_shl_lh c96.ps c96.rs (T:=(List Int)) (fun y=>(y.2.1)) (a_0,n_1,()) = nat_shl a_0 n_1:=by kernel_rfl
abbrev e99:List (Nat × Ctr):=[(49,c49)]
def nat_small_lh:LH
 | 8=>some ⟨nat_small_i4,nat_small_o4,lp nat_small_s4 K0⟩
 | _=>none
theorem nat_small_l4 (g:nat_small_i4.V → Option (OT nat_small_o4)) (v:nat_small_i4.V):loopStep tb (envL e99) 38 nat_small_lh (loopAt 4 (bodyOf Tryd.f99) .skip) nat_small_i4 nat_small_o4 g v = nat_small_s4 g v:=by kernel_rfl
theorem nat_small_eq (a_0:List Int) (d_1:Int):fnF tb (envL e99) Tryd.f99 nat_small_lh c99.ps c99.rs (T:=(List Int) × Int) (fun y=>(y.2.1,y.2.2.1)) (a_0,d_1,()) = nat_small a_0 d_1:=by kernel_rfl
abbrev e107:List (Nat × Ctr):=[(109,c109)]
def bits_LeadingZeros32_lh:LH
 | _=>none
theorem bits_LeadingZeros32_eq (x_0:Int):fnF tb (envL e107) Tryd.f107 bits_LeadingZeros32_lh c107.ps c107.rs (T:=Int) (fun y=>(y.2.1)) (x_0,()) = bits_LeadingZeros32 x_0:=by kernel_rfl
abbrev e110:List (Nat × Ctr):=[(101,c101)]
def nat_take_lh:LH
 | 6=>some ⟨nat_take_i3,nat_take_o3,lp nat_take_s3 K0⟩
 | _=>none
theorem nat_take_l3 (g:nat_take_i3.V → Option (OT nat_take_o3)) (v:nat_take_i3.V):loopStep tb (envL e110) 46 nat_take_lh (loopAt 3 (bodyOf Tryd.f110) .skip) nat_take_i3 nat_take_o3 g v = nat_take_s3 g v:=by kernel_rfl
theorem nat_take_eq (u_0:List Int) (v_1:List Int) (times_2:Int):fnF tb (envL e110) Tryd.f110 nat_take_lh c110.ps c110.rs (T:=(List Int) × Bool) (fun y=>(y.1.1,y.2.1)) (u_0,v_1,times_2,()) = nat_take u_0 v_1 times_2:=by kernel_rfl
abbrev e111:List (Nat × Ctr):=[(101,c101)]
def nat_give_lh:LH
 | 4=>some ⟨nat_give_i2,nat_give_o2,lp nat_give_s2 K0⟩
 | _=>none
theorem nat_give_l2 (g:nat_give_i2.V → Option (OT nat_give_o2)) (v:nat_give_i2.V):loopStep tb (envL e111) 29 nat_give_lh (loopAt 2 (bodyOf Tryd.f111) .skip) nat_give_i2 nat_give_o2 g v = nat_give_s2 g v:=by kernel_rfl
theorem nat_give_eq (u_0:List Int) (v_1:List Int):fnF tb (envL e111) Tryd.f111 nat_give_lh c111.ps c111.rs (T:=(List Int)) (fun y=>(y.1.1)) (u_0,v_1,()) = nat_give u_0 v_1:=by kernel_rfl
abbrev e108:List (Nat × Ctr):=[(110,c110),(111,c111)]
def nat_digit_lh:LH
 | 8=>some ⟨nat_digit_i4,nat_digit_o4,lp nat_digit_s4 K0⟩
 | _=>none
theorem nat_digit_l4 (g:nat_digit_i4.V → Option (OT nat_digit_o4)) (v:nat_digit_i4.V):loopStep tb (envL e108) 77 nat_digit_lh (loopAt 4 (bodyOf Tryd.f108) .skip) nat_digit_i4 nat_digit_o4 g v = nat_digit_s4 g v:=by kernel_rfl
theorem nat_digit_eq (a_0:List Int) (a_1:List Int):fnF tb (envL e108) Tryd.f108 nat_digit_lh c108.ps c108.rs (T:=(List Int) × Int) (fun y=>(y.1.1,y.2.1)) (a_0,a_1,()) = nat_digit a_0 a_1:=by kernel_rfl
abbrev e100:List (Nat × Ctr):=[(49,c49),(95,c95),(96,c96),(107,c107),(108,c108)]
def nat_long_lh:LH
 | 14=>some ⟨nat_long_i7,nat_long_o7,lp nat_long_s7 K0⟩
 | _=>none
theorem nat_long_l7 (g:nat_long_i7.V → Option (OT nat_long_o7)) (v:nat_long_i7.V):loopStep tb (envL e100) 64 nat_long_lh (loopAt 7 (bodyOf Tryd.f100) .skip) nat_long_i7 nat_long_o7 g v = nat_long_s7 g v:=by kernel_rfl
theorem nat_long_eq (a_0:List Int) (b_1:List Int):fnF tb (envL e100) Tryd.f100 nat_long_lh c100.ps c100.rs (T:=(List Int) × (List Int)) (fun y=>(y.2.1,y.2.2.1)) (a_0,b_1,()) = nat_long a_0 b_1:=by kernel_rfl
abbrev e78:List (Nat × Ctr):=[(31,c31),(61,c61),(85,c85),(99,c99),(100,c100)]
def nat_DivMod_lh:LH
 | _=>none
theorem nat_DivMod_eq (a_0:List Int) (b_1:List Int):fnF tb (envL e78) Tryd.f78 nat_DivMod_lh c78.ps c78.rs (T:=(List Int) × (List Int) × Int) (fun y=>(y.2.1,y.2.2.1,y.2.2.2.1)) (a_0,b_1,()) = nat_DivMod a_0 b_1:=by kernel_rfl
abbrev e97:List (Nat × Ctr):=[(78,c78)]
def nat_rest_lh:LH
 | _=>none
theorem nat_rest_eq (a_0:List Int) (b_1:List Int):fnF tb (envL e97) Tryd.f97 nat_rest_lh c97.ps c97.rs (T:=(List Int) × (List Int)) (fun y=>(y.2.1,y.2.2.1)) (a_0,b_1,()) = nat_rest a_0 b_1:=by kernel_rfl
abbrev e98:List (Nat × Ctr):=[(49,c49),(101,c101)]
def nat_minus_lh:LH
 | 8=>some ⟨nat_minus_i4,nat_minus_o4,lp nat_minus_s4 K0⟩
 | _=>none
theorem nat_minus_l4 (g:nat_minus_i4.V → Option (OT nat_minus_o4)) (v:nat_minus_i4.V):loopStep tb (envL e98) 39 nat_minus_lh (loopAt 4 (bodyOf Tryd.f98) .skip) nat_minus_i4 nat_minus_o4 g v = nat_minus_s4 g v:=by kernel_rfl
theorem nat_minus_eq (a_0:List Int) (b_1:List Int):fnF tb (envL e98) Tryd.f98 nat_minus_lh c98.ps c98.rs (T:=(List Int)) (fun y=>(y.2.1)) (a_0,b_1,()) = nat_minus a_0 b_1:=by kernel_rfl
abbrev e77:List (Nat × Ctr):=[(61,c61),(85,c85),(93,c93),(94,c94),(95,c95),(96,c96),(97,c97),(98,c98)]
def nat_Gcd_lh:LH
 | 20=>some ⟨nat_Gcd_i10,nat_Gcd_o10,lp nat_Gcd_s10 K0⟩
 | _=>none
theorem nat_Gcd_l10 (g:nat_Gcd_i10.V → Option (OT nat_Gcd_o10)) (v:nat_Gcd_i10.V):loopStep tb (envL e77) 86 nat_Gcd_lh (loopAt 10 (bodyOf Tryd.f77) .skip) nat_Gcd_i10 nat_Gcd_o10 g v = nat_Gcd_s10 g v:=by kernel_rfl
theorem nat_Gcd_eq (a_0:List Int) (a_1:List Int):fnF tb (envL e77) Tryd.f77 nat_Gcd_lh c77.ps c77.rs (T:=(List Int)) (fun y=>(y.2.1)) (a_0,a_1,()) = nat_Gcd a_0 a_1:=by kernel_rfl
abbrev e55:List (Nat × Ctr):=[(31,c31),(77,c77),(78,c78)]
def ratio_form_lh:LH
 | _=>none
theorem ratio_form_eq (num_0:WH) (den_1:List Int):fnF tb (envL e55) Tryd.f55 ratio_form_lh c55.ps c55.rs (T:=RAT) (fun y=>(y.2.1)) (num_0,den_1,()) = ratio_form num_0 den_1:=by kernel_rfl
abbrev e40:List (Nat × Ctr):=[(11,c11),(55,c55),(60,c60),(61,c61)]
def ratio_Clean_lh:LH
 | _=>none
theorem ratio_Clean_eq (a_0:RAT):fnF tb (envL e40) Tryd.f40 ratio_Clean_lh c40.ps c40.rs (T:=RAT) (fun y=>(y.2.1)) (a_0,()) = ratio_Clean a_0:=by kernel_rfl
abbrev e19:List (Nat × Ctr):=[(39,c39),(40,c40)]
def ratio_Sign_lh:LH
 | _=>none
theorem ratio_Sign_eq (a_0:RAT):fnF tb (envL e19) Tryd.f19 ratio_Sign_lh c19.ps c19.rs (T:=Int) (fun y=>(y.2.1)) (a_0,()) = ratio_Sign a_0:=by kernel_rfl
abbrev e68:List (Nat × Ctr):=[(19,c19)]
def valid_covers_lh:LH
 | 4=>some ⟨valid_covers_i2,valid_covers_o2,lp valid_covers_s2 K0⟩
 | _=>none
theorem valid_covers_l2 (g:valid_covers_i2.V → Option (OT valid_covers_o2)) (v:valid_covers_i2.V):loopStep tb (envL e68) 19 valid_covers_lh (loopAt 2 (bodyOf Tryd.f68) .skip) valid_covers_i2 valid_covers_o2 g v = valid_covers_s2 g v:=by kernel_rfl
theorem valid_covers_eq (t_0:List NODE):fnF tb (envL e68) Tryd.f68 valid_covers_lh c68.ps c68.rs (T:=Int × Int) (fun y=>(y.2.1,y.2.2.1)) (t_0,()) = valid_covers t_0:=by kernel_rfl
abbrev e72:List (Nat × Ctr):=[(61,c61),(85,c85)]
def nat_Cmp_lh:LH
 | _=>none
theorem nat_Cmp_eq (a_0:List Int) (b_1:List Int):fnF tb (envL e72) Tryd.f72 nat_Cmp_lh c72.ps c72.rs (T:=Int) (fun y=>(y.2.1)) (a_0,b_1,()) = nat_Cmp a_0 b_1:=by kernel_rfl
abbrev e50:List (Nat × Ctr):=[(60,c60),(72,c72)]
def whole_Cmp_lh:LH
 | _=>none
theorem whole_Cmp_eq (a_0:WH) (b_1:WH):fnF tb (envL e50) Tryd.f50 whole_Cmp_lh c50.ps c50.rs (T:=Int) (fun y=>(y.2.1)) (a_0,b_1,()) = whole_Cmp a_0 b_1:=by kernel_rfl
abbrev e57:List (Nat × Ctr):=[(49,c49),(61,c61)]
def nat_Mul_lh:LH
 | 16=>some ⟨nat_Mul_i8,nat_Mul_o8,lp nat_Mul_s8 K0⟩
 | 8=>some ⟨nat_Mul_i4,nat_Mul_o4,lp nat_Mul_s4 K0⟩
 | _=>none
theorem nat_Mul_l8 (g:nat_Mul_i8.V → Option (OT nat_Mul_o8)) (v:nat_Mul_i8.V):loopStep tb (envL e57) 67 nat_Mul_lh (loopAt 8 (bodyOf Tryd.f57) .skip) nat_Mul_i8 nat_Mul_o8 g v = nat_Mul_s8 g v:=by kernel_rfl
theorem nat_Mul_l4 (g:nat_Mul_i4.V → Option (OT nat_Mul_o4)) (v:nat_Mul_i4.V):loopStep tb (envL e57) 67 nat_Mul_lh (loopAt 4 (bodyOf Tryd.f57) .skip) nat_Mul_i4 nat_Mul_o4 g v = nat_Mul_s4 g v:=by kernel_rfl
theorem nat_Mul_eq (a_0:List Int) (a_1:List Int):fnF tb (envL e57) Tryd.f57 nat_Mul_lh c57.ps c57.rs (T:=(List Int)) (fun y=>(y.2.1)) (a_0,a_1,()) = nat_Mul a_0 a_1:=by kernel_rfl
abbrev e51:List (Nat × Ctr):=[(57,c57),(60,c60),(71,c71)]
def whole_Mul_lh:LH
 | _=>none
theorem whole_Mul_eq (a_0:WH) (b_1:WH):fnF tb (envL e51) Tryd.f51 whole_Mul_lh c51.ps c51.rs (T:=WH) (fun y=>(y.2.1)) (a_0,b_1,()) = whole_Mul a_0 b_1:=by kernel_rfl
abbrev e52:List (Nat × Ctr):=[]
def ratio_den_lh:LH
 | _=>none
theorem ratio_den_eq (a_0:RAT):fnF tb (envL e52) Tryd.f52 ratio_den_lh c52.ps c52.rs (T:=WH) (fun y=>(y.2.1)) (a_0,()) = ratio_den a_0:=by kernel_rfl
abbrev e32:List (Nat × Ctr):=[(40,c40),(50,c50),(51,c51),(52,c52)]
def ratio_Cmp_lh:LH
 | _=>none
theorem ratio_Cmp_eq (a_0:RAT) (b_1:RAT):fnF tb (envL e32) Tryd.f32 ratio_Cmp_lh c32.ps c32.rs (T:=Int) (fun y=>(y.2.1)) (a_0,b_1,()) = ratio_Cmp a_0 b_1:=by kernel_rfl
abbrev e12:List (Nat × Ctr):=[(32,c32)]
def ratio_Same_lh:LH
 | _=>none
theorem ratio_Same_eq (a_0:RAT) (b_1:RAT):fnF tb (envL e12) Tryd.f12 ratio_Same_lh c12.ps c12.rs (T:=Bool) (fun y=>(y.2.1)) (a_0,b_1,()) = ratio_Same a_0 b_1:=by kernel_rfl
abbrev e79:List (Nat × Ctr):=[(49,c49),(61,c61),(101,c101)]
def nat_Add_lh:LH
 | 10=>some ⟨nat_Add_i5,nat_Add_o5,lp nat_Add_s5 K0⟩
 | _=>none
theorem nat_Add_l5 (g:nat_Add_i5.V → Option (OT nat_Add_o5)) (v:nat_Add_i5.V):loopStep tb (envL e79) 43 nat_Add_lh (loopAt 5 (bodyOf Tryd.f79) .skip) nat_Add_i5 nat_Add_o5 g v = nat_Add_s5 g v:=by kernel_rfl
theorem nat_Add_eq (a_0:List Int) (b_1:List Int):fnF tb (envL e79) Tryd.f79 nat_Add_lh c79.ps c79.rs (T:=(List Int)) (fun y=>(y.2.1)) (a_0,b_1,()) = nat_Add a_0 b_1:=by kernel_rfl
abbrev e80:List (Nat × Ctr):=[(61,c61),(85,c85),(98,c98)]
def nat_Sub_lh:LH
 | _=>none
theorem nat_Sub_eq (a_0:List Int) (b_1:List Int):fnF tb (envL e80) Tryd.f80 nat_Sub_lh c80.ps c80.rs (T:=(List Int) × Int) (fun y=>(y.2.1,y.2.2.1)) (a_0,b_1,()) = nat_Sub a_0 b_1:=by kernel_rfl
abbrev e56:List (Nat × Ctr):=[(60,c60),(71,c71),(72,c72),(79,c79),(80,c80)]
def whole_Add_lh:LH
 | _=>none
theorem whole_Add_eq (a_0:WH) (b_1:WH):fnF tb (envL e56) Tryd.f56 whole_Add_lh c56.ps c56.rs (T:=WH) (fun y=>(y.2.1)) (a_0,b_1,()) = whole_Add a_0 b_1:=by kernel_rfl
abbrev e36:List (Nat × Ctr):=[(40,c40),(51,c51),(52,c52),(55,c55),(56,c56),(57,c57)]
def ratio_Add_lh:LH
 | _=>none
theorem ratio_Add_eq (a_0:RAT) (b_1:RAT):fnF tb (envL e36) Tryd.f36 ratio_Add_lh c36.ps c36.rs (T:=RAT) (fun y=>(y.2.1)) (a_0,b_1,()) = ratio_Add a_0 b_1:=by kernel_rfl
abbrev e69:List (Nat × Ctr):=[(12,c12),(36,c36)]
def valid_sums_lh:LH
 | 4=>some ⟨valid_sums_i2,valid_sums_o2,lp valid_sums_s2 K0⟩
 | _=>none
theorem valid_sums_l2 (g:valid_sums_i2.V → Option (OT valid_sums_o2)) (v:valid_sums_i2.V):loopStep tb (envL e69) 37 valid_sums_lh (loopAt 2 (bodyOf Tryd.f69) .skip) valid_sums_i2 valid_sums_o2 g v = valid_sums_s2 g v:=by kernel_rfl
theorem valid_sums_eq (t_0:List NODE):fnF tb (envL e69) Tryd.f69 valid_sums_lh c69.ps c69.rs (T:=Int × Int) (fun y=>(y.2.1,y.2.2.1)) (t_0,()) = valid_sums t_0:=by kernel_rfl
abbrev e70:List (Nat × Ctr):=[]
def valid_fault_lh:LH
 | _=>none
theorem valid_fault_eq (e_0:Int) (tree_1:Int) (node_2:Int):fnF tb (envL e70) Tryd.f70 valid_fault_lh c70.ps c70.rs (T:=(Int × Int × Int × Int)) (fun y=>(y.2.1)) (e_0,tree_1,node_2,()) = valid_fault e_0 tree_1 node_2:=by kernel_rfl
abbrev e46:List (Nat × Ctr):=[(65,c65),(66,c66),(67,c67),(68,c68),(69,c69),(70,c70)]
def valid_Check_lh:LH
 | 14=>some ⟨valid_Check_i7,valid_Check_o7,lp valid_Check_s7 K0⟩
 | 8=>some ⟨valid_Check_i4,valid_Check_o4,lp valid_Check_s4 K0⟩
 | _=>none
theorem valid_Check_l7 (g:valid_Check_i7.V → Option (OT valid_Check_o7)) (v:valid_Check_i7.V):loopStep tb (envL e46) 63 valid_Check_lh (loopAt 7 (bodyOf Tryd.f46) .skip) valid_Check_i7 valid_Check_o7 g v = valid_Check_s7 g v:=by kernel_rfl
theorem valid_Check_l4 (g:valid_Check_i4.V → Option (OT valid_Check_o4)) (v:valid_Check_i4.V):loopStep tb (envL e46) 63 valid_Check_lh (loopAt 4 (bodyOf Tryd.f46) .skip) valid_Check_i4 valid_Check_o4 g v = valid_Check_s4 g v:=by kernel_rfl
theorem valid_Check_eq (m_0:MODEL):fnF tb (envL e46) Tryd.f46 valid_Check_lh c46.ps c46.rs (T:=(Int × Int × Int × Int)) (fun y=>(y.2.1)) (m_0,()) = valid_Check m_0:=by kernel_rfl
abbrev e27:List (Nat × Ctr):=[(46,c46)]
def valid_Ok_lh:LH
 | _=>none
theorem valid_Ok_eq (m_0:MODEL):fnF tb (envL e27) Tryd.f27 valid_Ok_lh c27.ps c27.rs (T:=Bool) (fun y=>(y.2.1)) (m_0,()) = valid_Ok m_0:=by kernel_rfl
abbrev e8:List (Nat × Ctr):=[(27,c27)]
def valid_Tree_lh:LH
 | _=>none
theorem valid_Tree_eq (t_0:List NODE) (features_1:Int):fnF tb (envL e8) Tryd.f8 valid_Tree_lh c8.ps c8.rs (T:=Bool) (fun y=>(y.2.1)) (t_0,features_1,()) = valid_Tree t_0 features_1:=by kernel_rfl
abbrev e35:List (Nat × Ctr):=[(27,c27)]
def route_fits_lh:LH
 | _=>none
theorem route_fits_eq (m_0:MODEL) (row_1:List CELL):fnF tb (envL e35) Tryd.f35 route_fits_lh c35.ps c35.rs (T:=Int) (fun y=>(y.2.1)) (m_0,row_1,()) = route_fits m_0 row_1:=by kernel_rfl
abbrev e33:List (Nat × Ctr):=[(35,c35)]
def route_Fits_lh:LH
 | _=>none
theorem route_Fits_eq (m_0:MODEL) (row_1:List CELL):fnF tb (envL e33) Tryd.f33 route_Fits_lh c33.ps c33.rs (T:=Int) (fun y=>(y.2.1)) (m_0,row_1,()) = route_Fits m_0 row_1:=by kernel_rfl
abbrev e53:List (Nat × Ctr):=[(11,c11)]
def pathshap_zeros_lh:LH
 | 6=>some ⟨pathshap_zeros_i3,pathshap_zeros_o3,lp pathshap_zeros_s3 K0⟩
 | _=>none
theorem pathshap_zeros_l3 (g:pathshap_zeros_i3.V → Option (OT pathshap_zeros_o3)) (v:pathshap_zeros_i3.V):loopStep tb (envL e53) 13 pathshap_zeros_lh (loopAt 3 (bodyOf Tryd.f53) .skip) pathshap_zeros_i3 pathshap_zeros_o3 g v = pathshap_zeros_s3 g v:=by kernel_rfl
theorem pathshap_zeros_eq (n_0:Int):fnF tb (envL e53) Tryd.f53 pathshap_zeros_lh c53.ps c53.rs (T:=(List RAT)) (fun y=>(y.2.1)) (n_0,()) = pathshap_zeros n_0:=by kernel_rfl
abbrev e47:List (Nat × Ctr):=[(31,c31),(71,c71)]
def whole_Of_lh:LH
 | _=>none
theorem whole_Of_eq (n_0:Int):fnF tb (envL e47) Tryd.f47 whole_Of_lh c47.ps c47.rs (T:=WH) (fun y=>(y.2.1)) (n_0,()) = whole_Of n_0:=by kernel_rfl
abbrev e28:List (Nat × Ctr):=[(31,c31),(47,c47)]
def ratio_Of_lh:LH
 | _=>none
theorem ratio_Of_eq (n_0:Int):fnF tb (envL e28) Tryd.f28 ratio_Of_lh c28.ps c28.rs (T:=RAT) (fun y=>(y.2.1)) (n_0,()) = ratio_Of n_0:=by kernel_rfl
abbrev e29:List (Nat × Ctr):=[(28,c28)]
def ratio_One_lh:LH
 | _=>none
theorem ratio_One_eq :fnF tb (envL e29) Tryd.f29 ratio_One_lh c29.ps c29.rs (T:=RAT) (fun y=>(y.2.1)) () = ratio_One :=by kernel_rfl
abbrev e73:List (Nat × Ctr):=[(29,c29)]
def pathshap_New_lh:LH
 | _=>none
theorem pathshap_New_eq :fnFB tb (envL e73) Tryd.f73 pathshap_New_lh w73 c73.ps c73.rs (T:=(List (Int × RAT × CELL))) (fun y=>(y.2.1)) () = pathshap_New :=by kernel_rfl
abbrev e64:List (Nat × Ctr):=[(40,c40),(51,c51),(55,c55),(57,c57)]
def ratio_Mul_lh:LH
 | _=>none
theorem ratio_Mul_eq (a_0:RAT) (b_1:RAT):fnF tb (envL e64) Tryd.f64 ratio_Mul_lh c64.ps c64.rs (T:=RAT) (fun y=>(y.2.1)) (a_0,b_1,()) = ratio_Mul a_0 b_1:=by kernel_rfl
abbrev e86:List (Nat × Ctr):=[]
def pathshap_Path_Find_lh:LH
 | 8=>some ⟨pathshap_Path_Find_i4,pathshap_Path_Find_o4,lp pathshap_Path_Find_s4 K0⟩
 | _=>none
theorem pathshap_Path_Find_l4 (g:pathshap_Path_Find_i4.V → Option (OT pathshap_Path_Find_o4)) (v:pathshap_Path_Find_i4.V):loopStep tb (envL e86) 29 pathshap_Path_Find_lh (loopAt 4 (bodyOf Tryd.f86) .skip) pathshap_Path_Find_i4 pathshap_Path_Find_o4 g v = pathshap_Path_Find_s4 g v:=by kernel_rfl
theorem pathshap_Path_Find_eq (feature_0:Int) (b_1:List (Int × RAT × CELL)):fnFB tb (envL e86) Tryd.f86 pathshap_Path_Find_lh w86 c86.ps c86.rs (T:=Int × (List (Int × RAT × CELL))) (fun y=>(y.2.1,y.2.2.1)) (feature_0,b_1,()) = pathshap_Path_Find feature_0 b_1:=by kernel_rfl
abbrev e87:List (Nat × Ctr):=[]
def pathshap_Path_Parts_lh:LH
 | 10=>some ⟨pathshap_Path_Parts_i5,pathshap_Path_Parts_o5,lp pathshap_Path_Parts_s5 K0⟩
 | _=>none
theorem pathshap_Path_Parts_l5 (g:pathshap_Path_Parts_i5.V → Option (OT pathshap_Path_Parts_o5)) (v:pathshap_Path_Parts_i5.V):loopStep tb (envL e87) 32 pathshap_Path_Parts_lh (loopAt 5 (bodyOf Tryd.f87) .skip) pathshap_Path_Parts_i5 pathshap_Path_Parts_o5 g v = pathshap_Path_Parts_s5 g v:=by kernel_rfl
theorem pathshap_Path_Parts_eq (b_0:List (Int × RAT × CELL)):fnFB tb (envL e87) Tryd.f87 pathshap_Path_Parts_lh w87 c87.ps c87.rs (T:=(List PART) × (List (Int × RAT × CELL))) (fun y=>(y.2.1,y.2.2.1)) (b_0,()) = pathshap_Path_Parts b_0:=by kernel_rfl
abbrev e62:List (Nat × Ctr):=[(60,c60),(71,c71)]
def whole_Neg_lh:LH
 | _=>none
theorem whole_Neg_eq (a_0:WH):fnF tb (envL e62) Tryd.f62 whole_Neg_lh c62.ps c62.rs (T:=WH) (fun y=>(y.2.1)) (a_0,()) = whole_Neg a_0:=by kernel_rfl
abbrev e41:List (Nat × Ctr):=[(40,c40),(62,c62)]
def ratio_Neg_lh:LH
 | _=>none
theorem ratio_Neg_eq (a_0:RAT):fnF tb (envL e41) Tryd.f41 ratio_Neg_lh c41.ps c41.rs (T:=RAT) (fun y=>(y.2.1)) (a_0,()) = ratio_Neg a_0:=by kernel_rfl
abbrev e21:List (Nat × Ctr):=[(36,c36),(41,c41)]
def ratio_Sub_lh:LH
 | _=>none
theorem ratio_Sub_eq (a_0:RAT) (b_1:RAT):fnF tb (envL e21) Tryd.f21 ratio_Sub_lh c21.ps c21.rs (T:=RAT) (fun y=>(y.2.1)) (a_0,b_1,()) = ratio_Sub a_0 b_1:=by kernel_rfl
abbrev e48:List (Nat × Ctr):=[(39,c39),(55,c55),(60,c60),(62,c62)]
def ratio_Make_lh:LH
 | _=>none
theorem ratio_Make_eq (num_0:WH) (den_1:WH):fnF tb (envL e48) Tryd.f48 ratio_Make_lh c48.ps c48.rs (T:=RAT × Int) (fun y=>(y.2.1,y.2.2.1)) (num_0,den_1,()) = ratio_Make num_0 den_1:=by kernel_rfl
abbrev e30:List (Nat × Ctr):=[(40,c40),(47,c47),(48,c48)]
def ratio_Frac_lh:LH
 | _=>none
theorem ratio_Frac_eq (n_0:Int) (d_1:Int):fnF tb (envL e30) Tryd.f30 ratio_Frac_lh c30.ps c30.rs (T:=RAT) (fun y=>(y.2.1)) (n_0,d_1,()) = ratio_Frac n_0 d_1:=by kernel_rfl
abbrev e104:List (Nat × Ctr):=[(40,c40),(48,c48),(52,c52)]
def ratio_Inv_lh:LH
 | _=>none
theorem ratio_Inv_eq (a_0:RAT):fnF tb (envL e104) Tryd.f104 ratio_Inv_lh c104.ps c104.rs (T:=RAT × Int) (fun y=>(y.2.1,y.2.2.1)) (a_0,()) = ratio_Inv a_0:=by kernel_rfl
abbrev e103:List (Nat × Ctr):=[(21,c21),(30,c30),(64,c64),(104,c104)]
def pathshap_Path_without_lh:LH
 | 14=>some ⟨pathshap_Path_without_i7,pathshap_Path_without_o7,lp pathshap_Path_without_s7 K0⟩
 | _=>none
theorem pathshap_Path_without_l7 (g:pathshap_Path_without_i7.V → Option (OT pathshap_Path_without_o7)) (v:pathshap_Path_without_i7.V):loopStep tb (envL e103) 104 pathshap_Path_without_lh (loopAt 7 (bodyOf Tryd.f103) .skip) pathshap_Path_without_i7 pathshap_Path_without_o7 g v = pathshap_Path_without_s7 g v:=by kernel_rfl
theorem pathshap_Path_without_eq (a_0:Int) (b_1:List (Int × RAT × CELL)):fnFB tb (envL e103) Tryd.f103 pathshap_Path_without_lh w103 c103.ps c103.rs (T:=(List RAT) × (List (Int × RAT × CELL))) (fun y=>(y.2.1,y.2.2.1)) (a_0,b_1,()) = pathshap_Path_without a_0 b_1:=by kernel_rfl
abbrev e88:List (Nat × Ctr):=[(103,c103)]
def pathshap_Path_Unwind_lh:LH
 | 16=>some ⟨pathshap_Path_Unwind_i8,pathshap_Path_Unwind_o8,lp pathshap_Path_Unwind_s8 K0⟩
 | _=>none
theorem pathshap_Path_Unwind_l8 (g:pathshap_Path_Unwind_i8.V → Option (OT pathshap_Path_Unwind_o8)) (v:pathshap_Path_Unwind_i8.V):loopStep tb (envL e88) 66 pathshap_Path_Unwind_lh (loopAt 8 (bodyOf Tryd.f88) .skip) pathshap_Path_Unwind_i8 pathshap_Path_Unwind_o8 g v = pathshap_Path_Unwind_s8 g v:=by kernel_rfl
theorem pathshap_Path_Unwind_eq (a_0:Int) (b_1:List (Int × RAT × CELL)):fnFB tb (envL e88) Tryd.f88 pathshap_Path_Unwind_lh w88 c88.ps c88.rs (T:=Int × (List (Int × RAT × CELL))) (fun y=>(y.2.1,y.2.2.1)) (a_0,b_1,()) = pathshap_Path_Unwind a_0 b_1:=by kernel_rfl
abbrev e89:List (Nat × Ctr):=[(11,c11),(19,c19),(30,c30),(36,c36),(40,c40),(64,c64),(86,c86)]
def pathshap_Path_Extend_lh:LH
 | 20=>some ⟨pathshap_Path_Extend_i10,pathshap_Path_Extend_o10,lp pathshap_Path_Extend_s10 K0⟩
 | _=>none
theorem pathshap_Path_Extend_l10 (g:pathshap_Path_Extend_i10.V → Option (OT pathshap_Path_Extend_o10)) (v:pathshap_Path_Extend_i10.V):loopStep tb (envL e89) 113 pathshap_Path_Extend_lh (loopAt 10 (bodyOf Tryd.f89) .skip) pathshap_Path_Extend_i10 pathshap_Path_Extend_o10 g v = pathshap_Path_Extend_s10 g v:=by kernel_rfl
theorem pathshap_Path_Extend_eq (a_0:Int) (a_1:RAT) (a_2:Bool) (b_3:List (Int × RAT × CELL)):fnFB tb (envL e89) Tryd.f89 pathshap_Path_Extend_lh w89 c89.ps c89.rs (T:=Int × (List (Int × RAT × CELL))) (fun y=>(y.2.1,y.2.2.1)) (a_0,a_1,a_2,b_3,()) = pathshap_Path_Extend a_0 a_1 a_2 b_3:=by kernel_rfl
abbrev e74:List (Nat × Ctr):=[(64,c64),(86,c86),(87,c87),(88,c88),(89,c89)]
def pathshap_place_join_lh:LH
 | _=>none
theorem pathshap_place_join_eq (b_0:Int) (b_1:Bool) (b_2:List Int) (b_3:List Int) (b_4:Int) (b_5:Bool) (b_6:List Int) (b_7:List Int) (b_8:Bool) (b_9:List (Int × RAT × CELL)):fnFB tb (envL e74) Tryd.f74 pathshap_place_join_lh w74 c74.ps c74.rs (T:=Int × Bool × (List Int) × (List Int) × Int × Bool × (List Int) × (List Int) × Bool × (List (Int × RAT × CELL))) (fun y=>(y.2.1,y.2.2.1,y.2.2.2.1,y.2.2.2.2.1,y.2.2.2.2.2.1,y.2.2.2.2.2.2.1,y.2.2.2.2.2.2.2.1,y.2.2.2.2.2.2.2.2.1,y.2.2.2.2.2.2.2.2.2.1,y.2.2.2.2.2.2.2.2.2.2.1)) (b_0,b_1,b_2,b_3,b_4,b_5,b_6,b_7,b_8,b_9,()) = pathshap_place_join b_0 b_1 b_2 b_3 b_4 b_5 b_6 b_7 b_8 b_9:=by kernel_rfl
abbrev e20:List (Nat × Ctr):=[(11,c11),(36,c36)]
def ratio_Sum_lh:LH
 | 6=>some ⟨ratio_Sum_i3,ratio_Sum_o3,lp ratio_Sum_s3 K0⟩
 | _=>none
theorem ratio_Sum_l3 (g:ratio_Sum_i3.V → Option (OT ratio_Sum_o3)) (v:ratio_Sum_i3.V):loopStep tb (envL e20) 18 ratio_Sum_lh (loopAt 3 (bodyOf Tryd.f20) .skip) ratio_Sum_i3 ratio_Sum_o3 g v = ratio_Sum_s3 g v:=by kernel_rfl
theorem ratio_Sum_eq (l_0:List RAT):fnF tb (envL e20) Tryd.f20 ratio_Sum_lh c20.ps c20.rs (T:=RAT) (fun y=>(y.2.1)) (l_0,()) = ratio_Sum l_0:=by kernel_rfl
abbrev e90:List (Nat × Ctr):=[(20,c20),(103,c103)]
def pathshap_Path_Sum_lh:LH
 | _=>none
theorem pathshap_Path_Sum_eq (at_0:Int) (b_1:List (Int × RAT × CELL)):fnFB tb (envL e90) Tryd.f90 pathshap_Path_Sum_lh w90 c90.ps c90.rs (T:=RAT × Int × (List (Int × RAT × CELL))) (fun y=>(y.2.1,y.2.2.1,y.2.2.2.1)) (at_0,b_1,()) = pathshap_Path_Sum at_0 b_1:=by kernel_rfl
abbrev e75:List (Nat × Ctr):=[(29,c29),(36,c36),(41,c41),(64,c64),(87,c87),(90,c90)]
def pathshap_walker_leaf_lh:LH
 | 6=>some ⟨pathshap_walker_leaf_i3,pathshap_walker_leaf_o3,lp pathshap_walker_leaf_s3 K0⟩
 | _=>none
theorem pathshap_walker_leaf_l3 (g:pathshap_walker_leaf_i3.V → Option (OT pathshap_walker_leaf_o3)) (v:pathshap_walker_leaf_i3.V):loopStep tb (envL e75) 69 pathshap_walker_leaf_lh (loopAt 3 (bodyOf Tryd.f75) .skip) pathshap_walker_leaf_i3 pathshap_walker_leaf_o3 g v = pathshap_walker_leaf_s3 g v:=by kernel_rfl
theorem pathshap_walker_leaf_eq (a_0:Int) (a_1:Bool) (a_2:List Int) (a_3:List Int) (a_4:Int) (a_5:Bool) (a_6:List Int) (a_7:List Int) (a_8:Bool) (b_9:List NODE) (b_10:List CELL) (b_11:Int) (b_12:Bool) (b_13:List RAT) (b_14:List (Int × RAT × CELL)):fnFB tb (envL e75) Tryd.f75 pathshap_walker_leaf_lh w75 c75.ps c75.rs (T:=(List RAT) × (List NODE) × (List CELL) × Int × Bool × (List (Int × RAT × CELL))) (fun y=>(y.1.1,y.2.1,y.2.2.1,y.2.2.2.1,y.2.2.2.2.1,y.2.2.2.2.2.1)) (a_0,a_1,a_2,a_3,a_4,a_5,a_6,a_7,a_8,b_9,b_10,b_11,b_12,b_13,b_14,()) = pathshap_walker_leaf a_0 a_1 a_2 a_3 a_4 a_5 a_6 a_7 a_8 b_9 b_10 b_11 b_12 b_13 b_14:=by kernel_rfl
abbrev e81:List (Nat × Ctr):=[(32,c32)]
def route_goes_lh:LH
 | _=>none
theorem route_goes_eq (n_0:NODE) (c_1:CELL):fnF tb (envL e81) Tryd.f81 route_goes_lh c81.ps c81.rs (T:=Bool) (fun y=>(y.2.1)) (n_0,c_1,()) = route_goes n_0 c_1:=by kernel_rfl
abbrev e84:List (Nat × Ctr):=[(81,c81)]
def route_Left_lh:LH
 | _=>none
theorem route_Left_eq (n_0:NODE) (c_1:CELL):fnF tb (envL e84) Tryd.f84 route_Left_lh c84.ps c84.rs (T:=Bool) (fun y=>(y.2.1)) (n_0,c_1,()) = route_Left n_0 c_1:=by kernel_rfl
abbrev e91:List (Nat × Ctr):=[(64,c64),(104,c104)]
def ratio_Div_lh:LH
 | _=>none
theorem ratio_Div_eq (a_0:RAT) (b_1:RAT):fnF tb (envL e91) Tryd.f91 ratio_Div_lh c91.ps c91.rs (T:=RAT × Int) (fun y=>(y.2.1,y.2.2.1)) (a_0,b_1,()) = ratio_Div a_0 b_1:=by kernel_rfl
abbrev e92:List (Nat × Ctr):=[]
def pathshap_Path_Copy_lh:LH
 | _=>none
theorem pathshap_Path_Copy_eq (b_0:List (Int × RAT × CELL)):fnFB tb (envL e92) Tryd.f92 pathshap_Path_Copy_lh w92 c92.ps c92.rs (T:=(List (Int × RAT × CELL)) × (List (Int × RAT × CELL))) (fun y=>(y.2.1,y.2.2.1)) (b_0,()) = pathshap_Path_Copy b_0:=by kernel_rfl
abbrev e76:List (Nat × Ctr):=[(64,c64),(84,c84),(91,c91),(92,c92)]
def pathshap_walker_child_lh:LH
 | _=>none
theorem pathshap_walker_child_eq (a_0:Int) (a_1:Bool) (a_2:List Int) (a_3:List Int) (a_4:Int) (a_5:Bool) (a_6:List Int) (a_7:List Int) (a_8:Bool) (a_9:Int) (a_10:Bool) (b_11:List NODE) (b_12:List CELL) (b_13:Int) (b_14:Bool) (b_15:List RAT) (b_16:List (Int × RAT × CELL)):fnFB tb (envL e76) Tryd.f76 pathshap_walker_child_lh w76 c76.ps c76.rs (T:=(List RAT) × Int × Bool × (List Int) × (List Int) × Int × Bool × (List Int) × (List Int) × Bool × Bool × (List NODE) × (List CELL) × Int × Bool × (List (Int × RAT × CELL)) × (List (Int × RAT × CELL))) (fun y=>(y.1.1,y.2.1,y.2.2.1,y.2.2.2.1,y.2.2.2.2.1,y.2.2.2.2.2.1,y.2.2.2.2.2.2.1,y.2.2.2.2.2.2.2.1,y.2.2.2.2.2.2.2.2.1,y.2.2.2.2.2.2.2.2.2.1,y.2.2.2.2.2.2.2.2.2.2.1,y.2.2.2.2.2.2.2.2.2.2.2.1,y.2.2.2.2.2.2.2.2.2.2.2.2.1,y.2.2.2.2.2.2.2.2.2.2.2.2.2.1,y.2.2.2.2.2.2.2.2.2.2.2.2.2.2.1,y.2.2.2.2.2.2.2.2.2.2.2.2.2.2.2.1,y.2.2.2.2.2.2.2.2.2.2.2.2.2.2.2.2.1)) (a_0,a_1,a_2,a_3,a_4,a_5,a_6,a_7,a_8,a_9,a_10,b_11,b_12,b_13,b_14,b_15,b_16,()) = pathshap_walker_child a_0 a_1 a_2 a_3 a_4 a_5 a_6 a_7 a_8 a_9 a_10 b_11 b_12 b_13 b_14 b_15 b_16:=by kernel_rfl
abbrev e54:List (Nat × Ctr):=[(29,c29),(73,c73),(74,c74),(75,c75),(76,c76)]
def pathshap_walker_walk_lh:LH
 | 18=>some ⟨pathshap_walker_walk_i9,pathshap_walker_walk_o9,lp pathshap_walker_walk_s9 K0⟩
 | 2=>some ⟨pathshap_walker_walk_i1,pathshap_walker_walk_o1,lp pathshap_walker_walk_s1 K0⟩
 | _=>none
theorem pathshap_walker_walk_l9 (g:pathshap_walker_walk_i9.V → Option (OT pathshap_walker_walk_o9)) (v:pathshap_walker_walk_i9.V):loopStep tb (envL e54) 91 pathshap_walker_walk_lh (loopAt 9 (bodyOf Tryd.f54) .skip) pathshap_walker_walk_i9 pathshap_walker_walk_o9 g v = pathshap_walker_walk_s9 g v:=by kernel_rfl
theorem pathshap_walker_walk_l1 (g:pathshap_walker_walk_i1.V → Option (OT pathshap_walker_walk_o1)) (v:pathshap_walker_walk_i1.V):loopStep tb (envL e54) 91 pathshap_walker_walk_lh (loopAt 1 (bodyOf Tryd.f54) .skip) pathshap_walker_walk_i1 pathshap_walker_walk_o1 g v = pathshap_walker_walk_s1 g v:=by kernel_rfl
theorem pathshap_walker_walk_eq (b_0:List NODE) (b_1:List CELL) (b_2:Int) (b_3:Bool) (b_4:List RAT) (b_5:List (Int × (Option ((Option (List (Int × RAT × CELL))) × Unit)) × RAT × PART)):fnFB tb (envL e54) Tryd.f54 pathshap_walker_walk_lh w54 c54.ps c54.rs (T:=(List RAT) × (List NODE) × (List CELL) × Int × Bool × (List (Int × (Option ((Option (List (Int × RAT × CELL))) × Unit)) × RAT × PART))) (fun y=>(y.1.1,y.2.1,y.2.2.1,y.2.2.2.1,y.2.2.2.2.1,y.2.2.2.2.2.1)) (b_0,b_1,b_2,b_3,b_4,b_5,()) = pathshap_walker_walk b_0 b_1 b_2 b_3 b_4 b_5:=by kernel_rfl
abbrev e34:List (Nat × Ctr):=[(53,c53),(54,c54)]
def pathshap_all_lh:LH
 | 6=>some ⟨pathshap_all_i3,pathshap_all_o3,lp pathshap_all_s3 K0⟩
 | _=>none
theorem pathshap_all_l3 (g:pathshap_all_i3.V → Option (OT pathshap_all_o3)) (v:pathshap_all_i3.V):loopStep tb (envL e34) 34 pathshap_all_lh (loopAt 3 (bodyOf Tryd.f34) .skip) pathshap_all_i3 pathshap_all_o3 g v = pathshap_all_s3 g v:=by kernel_rfl
theorem pathshap_all_eq (m_0:MODEL) (row_1:List CELL) (fixed_2:Int) (on_3:Bool):fnF tb (envL e34) Tryd.f34 pathshap_all_lh c34.ps c34.rs (T:=(List RAT)) (fun y=>(y.2.1)) (m_0,row_1,fixed_2,on_3,()) = pathshap_all m_0 row_1 fixed_2 on_3:=by kernel_rfl
abbrev e14:List (Nat × Ctr):=[(33,c33),(34,c34)]
def pathshap_Values_lh:LH
 | _=>none
theorem pathshap_Values_eq (m_0:MODEL) (row_1:List CELL):fnF tb (envL e14) Tryd.f14 pathshap_Values_lh c14.ps c14.rs (T:=(List RAT) × Int) (fun y=>(y.2.1,y.2.2.1)) (m_0,row_1,()) = pathshap_Values m_0 row_1:=by kernel_rfl
abbrev e9:List (Nat × Ctr):=[(12,c12),(14,c14),(28,c28),(29,c29),(30,c30)]
def dendronlaw15_awake_lh:LH
 | _=>none
theorem dendronlaw15_awake_eq :fnF tb (envL e9) Tryd.f9 dendronlaw15_awake_lh c9.ps c9.rs (T:=Bool) (fun y=>(y.2.1)) () = dendronlaw15_awake :=by kernel_rfl
abbrev e10:List (Nat × Ctr):=[(14,c14)]
def pathshap_Tree_lh:LH
 | _=>none
theorem pathshap_Tree_eq (t_0:List NODE) (row_1:List CELL):fnF tb (envL e10) Tryd.f10 pathshap_Tree_lh c10.ps c10.rs (T:=(List RAT) × Int) (fun y=>(y.2.1,y.2.2.1)) (t_0,row_1,()) = pathshap_Tree t_0 row_1:=by kernel_rfl
abbrev e3:List (Nat × Ctr):=[(6,c6),(7,c7),(8,c8),(9,c9),(10,c10),(11,c11),(12,c12)]
def dendronlaw15_PathshapMany_lh:LH
 | 14=>some ⟨dendronlaw15_PathshapMany_i7,dendronlaw15_PathshapMany_o7,lp dendronlaw15_PathshapMany_s7 K0⟩
 | 32=>some ⟨dendronlaw15_PathshapMany_i16,dendronlaw15_PathshapMany_o16,lp dendronlaw15_PathshapMany_s16 K0⟩
 | 48=>some ⟨dendronlaw15_PathshapMany_i24,dendronlaw15_PathshapMany_o24,lp dendronlaw15_PathshapMany_s24 K0⟩
 | _=>none
theorem dendronlaw15_PathshapMany_l7 (g:dendronlaw15_PathshapMany_i7.V → Option (OT dendronlaw15_PathshapMany_o7)) (v:dendronlaw15_PathshapMany_i7.V):loopStep tb (envL e3) 125 dendronlaw15_PathshapMany_lh (loopAt 7 (bodyOf Tryd.f3) .skip) dendronlaw15_PathshapMany_i7 dendronlaw15_PathshapMany_o7 g v = dendronlaw15_PathshapMany_s7 g v:=by kernel_rfl
theorem dendronlaw15_PathshapMany_l16 (g:dendronlaw15_PathshapMany_i16.V → Option (OT dendronlaw15_PathshapMany_o16)) (v:dendronlaw15_PathshapMany_i16.V):loopStep tb (envL e3) 125 dendronlaw15_PathshapMany_lh (loopAt 16 (bodyOf Tryd.f3) .skip) dendronlaw15_PathshapMany_i16 dendronlaw15_PathshapMany_o16 g v = dendronlaw15_PathshapMany_s16 g v:=by kernel_rfl
theorem dendronlaw15_PathshapMany_l24 (g:dendronlaw15_PathshapMany_i24.V → Option (OT dendronlaw15_PathshapMany_o24)) (v:dendronlaw15_PathshapMany_i24.V):loopStep tb (envL e3) 125 dendronlaw15_PathshapMany_lh (loopAt 24 (bodyOf Tryd.f3) .skip) dendronlaw15_PathshapMany_i24 dendronlaw15_PathshapMany_o24 g v = dendronlaw15_PathshapMany_s24 g v:=by kernel_rfl
theorem dendronlaw15_PathshapMany_eq (a_0:List NODE) (a_1:List CELL):fnF tb (envL e3) Tryd.f3 dendronlaw15_PathshapMany_lh c3.ps c3.rs (T:=Bool) (fun y=>(y.2.1)) (a_0,a_1,()) = dendronlaw15_PathshapMany a_0 a_1:=by kernel_rfl
end Go.Proofs.YthcpiofmhkhbeaaDoor.X
