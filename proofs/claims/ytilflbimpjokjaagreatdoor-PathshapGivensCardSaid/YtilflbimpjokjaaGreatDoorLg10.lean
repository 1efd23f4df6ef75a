/- Own work: part of the proof; the first line of each part says what it tells. -/
import Derived.Test.YtilflbimpjokjaaGreatDoorLg6


namespace Go.Proofs.YtilflbimpjokjaaGreatDoor.X
open Go
set_option linter.unusedVariables false
set_option linter.unusedSimpArgs false
set_option maxRecDepth 100000
abbrev e33:List (Nat×Ctr):=[]
def dendronlaw07_number_lh:LH
 | _=>none
theorem dendronlaw07_number_eq (a_0:RAT):fnF tb (envL e33) Tryz.f33 dendronlaw07_number_lh c33.ps c33.rs (T:=RAT) (fun y=>(y.2.1)) (a_0,())=dendronlaw07_number a_0:=by kernel_rfl
abbrev e13:List (Nat×Ctr):=[(33,c33)]
def dendronlaw07_Few_lh:LH
 | 14=>some ⟨dendronlaw07_Few_i7,dendronlaw07_Few_o7,lp dendronlaw07_Few_s7 K0⟩
 | 6=>some ⟨dendronlaw07_Few_i3,dendronlaw07_Few_o3,lp dendronlaw07_Few_s3 K0⟩
 | _=>none
theorem dendronlaw07_Few_l7 (g:dendronlaw07_Few_i7.V→Option (OT dendronlaw07_Few_o7)) (v:dendronlaw07_Few_i7.V):q10q tb (envL e13) 67 dendronlaw07_Few_lh (q3q 7 (q4q Tryz.f13) .skip) dendronlaw07_Few_i7 dendronlaw07_Few_o7 g v=dendronlaw07_Few_s7 g v:=by kernel_rfl
theorem dendronlaw07_Few_l3 (g:dendronlaw07_Few_i3.V→Option (OT dendronlaw07_Few_o3)) (v:dendronlaw07_Few_i3.V):q10q tb (envL e13) 67 dendronlaw07_Few_lh (q3q 3 (q4q Tryz.f13) .skip) dendronlaw07_Few_i3 dendronlaw07_Few_o3 g v=dendronlaw07_Few_s3 g v:=by kernel_rfl
theorem dendronlaw07_Few_eq (a_0:MODEL):fnF tb (envL e13) Tryz.f13 dendronlaw07_Few_lh c13.ps c13.rs (T:=MODEL) (fun y=>(y.2.1)) (a_0,())=dendronlaw07_Few a_0:=by kernel_rfl
abbrev e34:List (Nat×Ctr):=[]
def dendronlaw09_number_lh:LH
 | _=>none
theorem dendronlaw09_number_eq (a_0:RAT):fnF tb (envL e34) Tryz.f34 dendronlaw09_number_lh c34.ps c34.rs (T:=RAT) (fun y=>(y.2.1)) (a_0,())=dendronlaw09_number a_0:=by kernel_rfl
abbrev e14:List (Nat×Ctr):=[(34,c34)]
def dendronlaw09_Few_lh:LH
 | 6=>some ⟨dendronlaw09_Few_i3,dendronlaw09_Few_o3,lp dendronlaw09_Few_s3 K0⟩
 | _=>none
theorem dendronlaw09_Few_l3 (g:dendronlaw09_Few_i3.V→Option (OT dendronlaw09_Few_o3)) (v:dendronlaw09_Few_i3.V):q10q tb (envL e14) 32 dendronlaw09_Few_lh (q3q 3 (q4q Tryz.f14) .skip) dendronlaw09_Few_i3 dendronlaw09_Few_o3 g v=dendronlaw09_Few_s3 g v:=by kernel_rfl
theorem dendronlaw09_Few_eq (l_0:List CELL) (n_1:Int):fnF tb (envL e14) Tryz.f14 dendronlaw09_Few_lh c14.ps c14.rs (T:=(List CELL)) (fun y=>(y.2.1)) (l_0,n_1,())=dendronlaw09_Few l_0 n_1:=by kernel_rfl
abbrev e5:List (Nat×Ctr):=[(13,c13),(14,c14)]
def dendronlaw11_Small_lh:LH
 | _=>none
theorem dendronlaw11_Small_eq (m_0:MODEL) (row_1:List CELL):fnF tb (envL e5) Tryz.f5 dendronlaw11_Small_lh c5.ps c5.rs (T:=MODEL×(List CELL)) (fun y=>(y.2.1,y.2.2.1)) (m_0,row_1,())=dendronlaw11_Small m_0 row_1:=by kernel_rfl
abbrev e54:List (Nat×Ctr):=[]
def model_Fits_lh:LH
 | 18=>some ⟨model_Fits_i9,model_Fits_o9,lp model_Fits_s9 K0⟩
 | 8=>some ⟨model_Fits_i4,model_Fits_o4,lp model_Fits_s4 K0⟩
 | _=>none
theorem model_Fits_l9 (g:model_Fits_i9.V→Option (OT model_Fits_o9)) (v:model_Fits_i9.V):q10q tb (envL e54) 72 model_Fits_lh (q3q 9 (q4q Tryz.f54) .skip) model_Fits_i9 model_Fits_o9 g v=model_Fits_s9 g v:=by kernel_rfl
theorem model_Fits_l4 (g:model_Fits_i4.V→Option (OT model_Fits_o4)) (v:model_Fits_i4.V):q10q tb (envL e54) 72 model_Fits_lh (q3q 4 (q4q Tryz.f54) .skip) model_Fits_i4 model_Fits_o4 g v=model_Fits_s4 g v:=by kernel_rfl
theorem model_Fits_eq (a_0:MODEL):fnF tb (envL e54) Tryz.f54 model_Fits_lh c54.ps c54.rs (T:=Bool) (fun y=>(y.2.1)) (a_0,())=model_Fits a_0:=by kernel_rfl
abbrev e55:List (Nat×Ctr):=[]
def valid_ranges_lh:LH
 | 4=>some ⟨valid_ranges_i2,valid_ranges_o2,lp valid_ranges_s2 K0⟩
 | _=>none
theorem valid_ranges_l2 (g:valid_ranges_i2.V→Option (OT valid_ranges_o2)) (v:valid_ranges_i2.V):q10q tb (envL e55) 52 valid_ranges_lh (q3q 2 (q4q Tryz.f55) .skip) valid_ranges_i2 valid_ranges_o2 g v=valid_ranges_s2 g v:=by kernel_rfl
theorem valid_ranges_eq (t_0:List NODE) (features_1:Int):fnF tb (envL e55) Tryz.f55 valid_ranges_lh c55.ps c55.rs (T:=Int×Int) (fun y=>(y.2.1,y.2.2.1)) (t_0,features_1,())=valid_ranges t_0 features_1:=by kernel_rfl
abbrev e56:List (Nat×Ctr):=[]
def valid_shape_lh:LH
 | 6=>some ⟨valid_shape_i3,valid_shape_o3,lp valid_shape_s3 K0⟩
 | 20=>some ⟨valid_shape_i10,valid_shape_o10,lp valid_shape_s10 K0⟩
 | 34=>some ⟨valid_shape_i17,valid_shape_o17,lp valid_shape_s17 K0⟩
 | 50=>some ⟨valid_shape_i25,valid_shape_o25,lp valid_shape_s25 K0⟩
 | _=>none
theorem valid_shape_l3 (g:valid_shape_i3.V→Option (OT valid_shape_o3)) (v:valid_shape_i3.V):q10q tb (envL e56) 103 valid_shape_lh (q3q 3 (q4q Tryz.f56) .skip) valid_shape_i3 valid_shape_o3 g v=valid_shape_s3 g v:=by kernel_rfl
theorem valid_shape_l10 (g:valid_shape_i10.V→Option (OT valid_shape_o10)) (v:valid_shape_i10.V):q10q tb (envL e56) 103 valid_shape_lh (q3q 10 (q4q Tryz.f56) .skip) valid_shape_i10 valid_shape_o10 g v=valid_shape_s10 g v:=by kernel_rfl
theorem valid_shape_l17 (g:valid_shape_i17.V→Option (OT valid_shape_o17)) (v:valid_shape_i17.V):q10q tb (envL e56) 103 valid_shape_lh (q3q 17 (q4q Tryz.f56) .skip) valid_shape_i17 valid_shape_o17 g v=valid_shape_s17 g v:=by kernel_rfl
theorem valid_shape_l25 (g:valid_shape_i25.V→Option (OT valid_shape_o25)) (v:valid_shape_i25.V):q10q tb (envL e56) 103 valid_shape_lh (q3q 25 (q4q Tryz.f56) .skip) valid_shape_i25 valid_shape_o25 g v=valid_shape_s25 g v:=by kernel_rfl
theorem valid_shape_eq (a_0:List NODE):fnF tb (envL e56) Tryz.f56 valid_shape_lh c56.ps c56.rs (T:=Int×Int) (fun y=>(y.2.1,y.2.2.1)) (a_0,())=valid_shape a_0:=by kernel_rfl
abbrev e61:List (Nat×Ctr):=[]
def nat_trim_lh:LH
 | 4=>some ⟨nat_trim_i2,nat_trim_o2,lp nat_trim_s2 K0⟩
 | _=>none
theorem nat_trim_l2 (g:nat_trim_i2.V→Option (OT nat_trim_o2)) (v:nat_trim_i2.V):q10q tb (envL e61) 23 nat_trim_lh (q3q 2 (q4q Tryz.f61) .skip) nat_trim_i2 nat_trim_o2 g v=nat_trim_s2 g v:=by kernel_rfl
theorem nat_trim_eq (a_0:List Int):fnF tb (envL e61) Tryz.f61 nat_trim_lh c61.ps c61.rs (T:=(List Int)) (fun y=>(y.2.1)) (a_0,())=nat_trim a_0:=by kernel_rfl
abbrev e37:List (Nat×Ctr):=[(61,c61)]
def nat_Of_lh:LH
 | _=>none
theorem nat_Of_eq (n_0:Int):fnF tb (envL e37) Tryz.f37 nat_Of_lh c37.ps c37.rs (T:=(List Int)) (fun y=>(y.2.1)) (n_0,())=nat_Of n_0:=by kernel_rfl
abbrev e25:List (Nat×Ctr):=[(37,c37)]
def ratio_Zero_lh:LH
 | _=>none
theorem ratio_Zero_eq :fnF tb (envL e25) Tryz.f25 ratio_Zero_lh c25.ps c25.rs (T:=RAT) (fun y=>(y.2.1)) ()=ratio_Zero :=by kernel_rfl
abbrev e66:List (Nat×Ctr):=[(61,c61)]
def nat_Clean_lh:LH
 | 6=>some ⟨nat_Clean_i3,nat_Clean_o3,lp nat_Clean_s3 K0⟩
 | _=>none
theorem nat_Clean_l3 (g:nat_Clean_i3.V→Option (OT nat_Clean_o3)) (v:nat_Clean_i3.V):q10q tb (envL e66) 24 nat_Clean_lh (q3q 3 (q4q Tryz.f66) .skip) nat_Clean_i3 nat_Clean_o3 g v=nat_Clean_s3 g v:=by kernel_rfl
theorem nat_Clean_eq (a_0:List Int):fnF tb (envL e66) Tryz.f66 nat_Clean_lh c66.ps c66.rs (T:=(List Int)) (fun y=>(y.2.1)) (a_0,())=nat_Clean a_0:=by kernel_rfl
abbrev e127:List (Nat×Ctr):=[(66,c66)]
def nat_To_lh:LH
 | _=>none
theorem nat_To_eq (a_0:List Int):fnF tb (envL e127) Tryz.f127 nat_To_lh c127.ps c127.rs (T:=Int×Bool) (fun y=>(y.2.1,y.2.2.1)) (a_0,())=nat_To a_0:=by kernel_rfl
abbrev e109:List (Nat×Ctr):=[(37,c37),(127,c127)]
def nat_euclid_lh:LH
 | 6=>some ⟨nat_euclid_i3,nat_euclid_o3,lp nat_euclid_s3 K0⟩
 | _=>none
theorem nat_euclid_l3 (g:nat_euclid_i3.V→Option (OT nat_euclid_o3)) (v:nat_euclid_i3.V):q10q tb (envL e109) 27 nat_euclid_lh (q3q 3 (q4q Tryz.f109) .skip) nat_euclid_i3 nat_euclid_o3 g v=nat_euclid_s3 g v:=by kernel_rfl
theorem nat_euclid_eq (a_0:List Int) (b_1:List Int):fnF tb (envL e109) Tryz.f109 nat_euclid_lh c109.ps c109.rs (T:=(List Int)) (fun y=>(y.2.1)) (a_0,b_1,())=nat_euclid a_0 b_1:=by kernel_rfl
abbrev e110:List (Nat×Ctr):=[(128,c128)]
def nat_zeros_lh:LH
 | 6=>some ⟨nat_zeros_i3,nat_zeros_o3,lp nat_zeros_s3 K0⟩
 | _=>none
theorem nat_zeros_l3 (g:nat_zeros_i3.V→Option (OT nat_zeros_o3)) (v:nat_zeros_i3.V):q10q tb (envL e110) 24 nat_zeros_lh (q3q 3 (q4q Tryz.f110) .skip) nat_zeros_i3 nat_zeros_o3 g v=nat_zeros_s3 g v:=by kernel_rfl
theorem nat_zeros_eq (a_0:List Int):fnF tb (envL e110) Tryz.f110 nat_zeros_lh c110.ps c110.rs (T:=Int) (fun y=>(y.2.1)) (a_0,())=nat_zeros a_0:=by kernel_rfl
abbrev e118:List (Nat×Ctr):=[]
def nat_limb_lh:LH
 | _=>none
theorem nat_limb_eq (a_0:List Int) (i_1:Int):fnF tb (envL e118) Tryz.f118 nat_limb_lh c118.ps c118.rs (T:=Int) (fun y=>(y.2.1)) (a_0,i_1,())=nat_limb a_0 i_1:=by kernel_rfl
abbrev e111:List (Nat×Ctr):=[(61,c61),(118,c118)]
def nat_shr_lh:LH
 | 12=>some ⟨nat_shr_i6,nat_shr_o6,lp nat_shr_s6 K0⟩
 | _=>none
theorem nat_shr_l6 (g:nat_shr_i6.V→Option (OT nat_shr_o6)) (v:nat_shr_i6.V):q10q tb (envL e111) 50 nat_shr_lh (q3q 6 (q4q Tryz.f111) .skip) nat_shr_i6 nat_shr_o6 g v=nat_shr_s6 g v:=by kernel_rfl
theorem nat_shr_eq (a_0:List Int) (n_1:Int):fnF tb (envL e111) Tryz.f111 nat_shr_lh c111.ps c111.rs (T:=(List Int)) (fun y=>(y.2.1)) (a_0,n_1,())=nat_shr a_0 n_1:=by kernel_rfl
abbrev e112:List (Nat×Ctr):=[]
def nat_order_lh:LH
 | 12=>some ⟨nat_order_i6,nat_order_o6,lp nat_order_s6 K0⟩
 | _=>none
theorem nat_order_l6 (g:nat_order_i6.V→Option (OT nat_order_o6)) (v:nat_order_i6.V):q10q tb (envL e112) 45 nat_order_lh (q3q 6 (q4q Tryz.f112) .skip) nat_order_i6 nat_order_o6 g v=nat_order_s6 g v:=by kernel_rfl
theorem nat_order_eq (a_0:List Int) (b_1:List Int):fnF tb (envL e112) Tryz.f112 nat_order_lh c112.ps c112.rs (T:=Int) (fun y=>(y.2.1)) (a_0,b_1,())=nat_order a_0 b_1:=by kernel_rfl
abbrev e113:List (Nat×Ctr):=[(61,c61)]
def nat_shl_lh:LH
 | 8=>some ⟨nat_shl_i4,nat_shl_o4,lp nat_shl_s4 K0⟩
 | _=>none
theorem nat_shl_l4 (g:nat_shl_i4.V→Option (OT nat_shl_o4)) (v:nat_shl_i4.V):q10q tb (envL e113) 51 nat_shl_lh (q3q 4 (q4q Tryz.f113) .skip) nat_shl_i4 nat_shl_o4 g v=nat_shl_s4 g v:=by kernel_rfl
theorem nat_shl_eq (a_0:List Int) (n_1:Int):fnF tb (envL e113) Tryz.f113 nat_shl_lh c113.ps c113.rs (T:=(List Int)) (fun y=>(y.2.1)) (a_0,n_1,())=nat_shl a_0 n_1:=by kernel_rfl
abbrev e116:List (Nat×Ctr):=[(61,c61)]
def nat_small_lh:LH
 | 8=>some ⟨nat_small_i4,nat_small_o4,lp nat_small_s4 K0⟩
 | _=>none
theorem nat_small_l4 (g:nat_small_i4.V→Option (OT nat_small_o4)) (v:nat_small_i4.V):q10q tb (envL e116) 38 nat_small_lh (q3q 4 (q4q Tryz.f116) .skip) nat_small_i4 nat_small_o4 g v=nat_small_s4 g v:=by kernel_rfl
theorem nat_small_eq (a_0:List Int) (d_1:Int):fnF tb (envL e116) Tryz.f116 nat_small_lh c116.ps c116.rs (T:=(List Int)×Int) (fun y=>(y.2.1,y.2.2.1)) (a_0,d_1,())=nat_small a_0 d_1:=by kernel_rfl
abbrev e129:List (Nat×Ctr):=[(136,c136)]
def bits_LeadingZeros32_lh:LH
 | _=>none
theorem bits_LeadingZeros32_eq (x_0:Int):fnF tb (envL e129) Tryz.f129 bits_LeadingZeros32_lh c129.ps c129.rs (T:=Int) (fun y=>(y.2.1)) (x_0,())=bits_LeadingZeros32 x_0:=by kernel_rfl
abbrev e137:List (Nat×Ctr):=[(118,c118)]
def nat_take_lh:LH
 | 6=>some ⟨nat_take_i3,nat_take_o3,lp nat_take_s3 K0⟩
 | _=>none
theorem nat_take_l3 (g:nat_take_i3.V→Option (OT nat_take_o3)) (v:nat_take_i3.V):q10q tb (envL e137) 46 nat_take_lh (q3q 3 (q4q Tryz.f137) .skip) nat_take_i3 nat_take_o3 g v=nat_take_s3 g v:=by kernel_rfl
theorem nat_take_eq (u_0:List Int) (v_1:List Int) (times_2:Int):fnF tb (envL e137) Tryz.f137 nat_take_lh c137.ps c137.rs (T:=(List Int)×Bool) (fun y=>(y.1.1,y.2.1)) (u_0,v_1,times_2,())=nat_take u_0 v_1 times_2:=by kernel_rfl
abbrev e138:List (Nat×Ctr):=[(118,c118)]
def nat_give_lh:LH
 | 4=>some ⟨nat_give_i2,nat_give_o2,lp nat_give_s2 K0⟩
 | _=>none
theorem nat_give_l2 (g:nat_give_i2.V→Option (OT nat_give_o2)) (v:nat_give_i2.V):q10q tb (envL e138) 29 nat_give_lh (q3q 2 (q4q Tryz.f138) .skip) nat_give_i2 nat_give_o2 g v=nat_give_s2 g v:=by kernel_rfl
theorem nat_give_eq (u_0:List Int) (v_1:List Int):fnF tb (envL e138) Tryz.f138 nat_give_lh c138.ps c138.rs (T:=(List Int)) (fun y=>(y.1.1)) (u_0,v_1,())=nat_give u_0 v_1:=by kernel_rfl
abbrev e130:List (Nat×Ctr):=[(137,c137),(138,c138)]
def nat_digit_lh:LH
 | 8=>some ⟨nat_digit_i4,nat_digit_o4,lp nat_digit_s4 K0⟩
 | _=>none
theorem nat_digit_l4 (g:nat_digit_i4.V→Option (OT nat_digit_o4)) (v:nat_digit_i4.V):q10q tb (envL e130) 77 nat_digit_lh (q3q 4 (q4q Tryz.f130) .skip) nat_digit_i4 nat_digit_o4 g v=nat_digit_s4 g v:=by kernel_rfl
theorem nat_digit_eq (a_0:List Int) (a_1:List Int):fnF tb (envL e130) Tryz.f130 nat_digit_lh c130.ps c130.rs (T:=(List Int)×Int) (fun y=>(y.1.1,y.2.1)) (a_0,a_1,())=nat_digit a_0 a_1:=by kernel_rfl
abbrev e117:List (Nat×Ctr):=[(61,c61),(111,c111),(113,c113),(129,c129),(130,c130)]
def nat_long_lh:LH
 | 14=>some ⟨nat_long_i7,nat_long_o7,lp nat_long_s7 K0⟩
 | _=>none
theorem nat_long_l7 (g:nat_long_i7.V→Option (OT nat_long_o7)) (v:nat_long_i7.V):q10q tb (envL e117) 64 nat_long_lh (q3q 7 (q4q Tryz.f117) .skip) nat_long_i7 nat_long_o7 g v=nat_long_s7 g v:=by kernel_rfl
theorem nat_long_eq (a_0:List Int) (b_1:List Int):fnF tb (envL e117) Tryz.f117 nat_long_lh c117.ps c117.rs (T:=(List Int)×(List Int)) (fun y=>(y.2.1,y.2.2.1)) (a_0,b_1,())=nat_long a_0 b_1:=by kernel_rfl
abbrev e81:List (Nat×Ctr):=[(37,c37),(66,c66),(112,c112),(116,c116),(117,c117)]
def nat_DivMod_lh:LH
 | _=>none
theorem nat_DivMod_eq (a_0:List Int) (b_1:List Int):fnF tb (envL e81) Tryz.f81 nat_DivMod_lh c81.ps c81.rs (T:=(List Int)×(List Int)×Int) (fun y=>(y.2.1,y.2.2.1,y.2.2.2.1)) (a_0,b_1,())=nat_DivMod a_0 b_1:=by kernel_rfl
abbrev e114:List (Nat×Ctr):=[(81,c81)]
def nat_rest_lh:LH
 | _=>none
theorem nat_rest_eq (a_0:List Int) (b_1:List Int):fnF tb (envL e114) Tryz.f114 nat_rest_lh c114.ps c114.rs (T:=(List Int)×(List Int)) (fun y=>(y.2.1,y.2.2.1)) (a_0,b_1,())=nat_rest a_0 b_1:=by kernel_rfl
abbrev e115:List (Nat×Ctr):=[(61,c61),(118,c118)]
def nat_minus_lh:LH
 | 8=>some ⟨nat_minus_i4,nat_minus_o4,lp nat_minus_s4 K0⟩
 | _=>none
theorem nat_minus_l4 (g:nat_minus_i4.V→Option (OT nat_minus_o4)) (v:nat_minus_i4.V):q10q tb (envL e115) 39 nat_minus_lh (q3q 4 (q4q Tryz.f115) .skip) nat_minus_i4 nat_minus_o4 g v=nat_minus_s4 g v:=by kernel_rfl
theorem nat_minus_eq (a_0:List Int) (b_1:List Int):fnF tb (envL e115) Tryz.f115 nat_minus_lh c115.ps c115.rs (T:=(List Int)) (fun y=>(y.2.1)) (a_0,b_1,())=nat_minus a_0 b_1:=by kernel_rfl
abbrev e80:List (Nat×Ctr):=[(66,c66),(109,c109),(110,c110),(111,c111),(112,c112),(113,c113),(114,c114),(115,c115)]
def nat_Gcd_lh:LH
 | 20=>some ⟨nat_Gcd_i10,nat_Gcd_o10,lp nat_Gcd_s10 K0⟩
 | _=>none
theorem nat_Gcd_l10 (g:nat_Gcd_i10.V→Option (OT nat_Gcd_o10)) (v:nat_Gcd_i10.V):q10q tb (envL e80) 86 nat_Gcd_lh (q3q 10 (q4q Tryz.f80) .skip) nat_Gcd_i10 nat_Gcd_o10 g v=nat_Gcd_s10 g v:=by kernel_rfl
theorem nat_Gcd_eq (a_0:List Int) (a_1:List Int):fnF tb (envL e80) Tryz.f80 nat_Gcd_lh c80.ps c80.rs (T:=(List Int)) (fun y=>(y.2.1)) (a_0,a_1,())=nat_Gcd a_0 a_1:=by kernel_rfl
abbrev e48:List (Nat×Ctr):=[(37,c37),(80,c80),(81,c81)]
def ratio_form_lh:LH
 | _=>none
theorem ratio_form_eq (num_0:WH) (den_1:List Int):fnF tb (envL e48) Tryz.f48 ratio_form_lh c48.ps c48.rs (T:=RAT) (fun y=>(y.2.1)) (num_0,den_1,())=ratio_form num_0 den_1:=by kernel_rfl
abbrev e60:List (Nat×Ctr):=[]
def whole_sign_lh:LH
 | _=>none
theorem whole_sign_eq (neg_0:Bool) (abs_1:List Int):fnF tb (envL e60) Tryz.f60 whole_sign_lh c60.ps c60.rs (T:=WH) (fun y=>(y.2.1)) (neg_0,abs_1,())=whole_sign neg_0 abs_1:=by kernel_rfl
abbrev e63:List (Nat×Ctr):=[(60,c60),(66,c66)]
def whole_Clean_lh:LH
 | _=>none
theorem whole_Clean_eq (a_0:WH):fnF tb (envL e63) Tryz.f63 whole_Clean_lh c63.ps c63.rs (T:=WH) (fun y=>(y.2.1)) (a_0,())=whole_Clean a_0:=by kernel_rfl
abbrev e40:List (Nat×Ctr):=[(25,c25),(48,c48),(63,c63),(66,c66)]
def ratio_Clean_lh:LH
 | _=>none
theorem ratio_Clean_eq (a_0:RAT):fnF tb (envL e40) Tryz.f40 ratio_Clean_lh c40.ps c40.rs (T:=RAT) (fun y=>(y.2.1)) (a_0,())=ratio_Clean a_0:=by kernel_rfl
abbrev e64:List (Nat×Ctr):=[(63,c63)]
def whole_Sign_lh:LH
 | _=>none
theorem whole_Sign_eq (a_0:WH):fnF tb (envL e64) Tryz.f64 whole_Sign_lh c64.ps c64.rs (T:=Int) (fun y=>(y.2.1)) (a_0,())=whole_Sign a_0:=by kernel_rfl
abbrev e85:List (Nat×Ctr):=[(40,c40),(64,c64)]
def ratio_Sign_lh:LH
 | _=>none
theorem ratio_Sign_eq (a_0:RAT):fnF tb (envL e85) Tryz.f85 ratio_Sign_lh c85.ps c85.rs (T:=Int) (fun y=>(y.2.1)) (a_0,())=ratio_Sign a_0:=by kernel_rfl
abbrev e57:List (Nat×Ctr):=[(85,c85)]
def valid_covers_lh:LH
 | 4=>some ⟨valid_covers_i2,valid_covers_o2,lp valid_covers_s2 K0⟩
 | _=>none
theorem valid_covers_l2 (g:valid_covers_i2.V→Option (OT valid_covers_o2)) (v:valid_covers_i2.V):q10q tb (envL e57) 19 valid_covers_lh (q3q 2 (q4q Tryz.f57) .skip) valid_covers_i2 valid_covers_o2 g v=valid_covers_s2 g v:=by kernel_rfl
theorem valid_covers_eq (t_0:List NODE):fnF tb (envL e57) Tryz.f57 valid_covers_lh c57.ps c57.rs (T:=Int×Int) (fun y=>(y.2.1,y.2.2.1)) (t_0,())=valid_covers t_0:=by kernel_rfl
abbrev e52:List (Nat×Ctr):=[(61,c61),(66,c66)]
def nat_Mul_lh:LH
 | 16=>some ⟨nat_Mul_i8,nat_Mul_o8,lp nat_Mul_s8 K0⟩
 | 8=>some ⟨nat_Mul_i4,nat_Mul_o4,lp nat_Mul_s4 K0⟩
 | _=>none
theorem nat_Mul_l8 (g:nat_Mul_i8.V→Option (OT nat_Mul_o8)) (v:nat_Mul_i8.V):q10q tb (envL e52) 67 nat_Mul_lh (q3q 8 (q4q Tryz.f52) .skip) nat_Mul_i8 nat_Mul_o8 g v=nat_Mul_s8 g v:=by kernel_rfl
theorem nat_Mul_l4 (g:nat_Mul_i4.V→Option (OT nat_Mul_o4)) (v:nat_Mul_i4.V):q10q tb (envL e52) 67 nat_Mul_lh (q3q 4 (q4q Tryz.f52) .skip) nat_Mul_i4 nat_Mul_o4 g v=nat_Mul_s4 g v:=by kernel_rfl
theorem nat_Mul_eq (a_0:List Int) (a_1:List Int):fnF tb (envL e52) Tryz.f52 nat_Mul_lh c52.ps c52.rs (T:=(List Int)) (fun y=>(y.2.1)) (a_0,a_1,())=nat_Mul a_0 a_1:=by kernel_rfl
abbrev e50:List (Nat×Ctr):=[(52,c52),(60,c60),(63,c63)]
def whole_Mul_lh:LH
 | _=>none
theorem whole_Mul_eq (a_0:WH) (b_1:WH):fnF tb (envL e50) Tryz.f50 whole_Mul_lh c50.ps c50.rs (T:=WH) (fun y=>(y.2.1)) (a_0,b_1,())=whole_Mul a_0 b_1:=by kernel_rfl
abbrev e51:List (Nat×Ctr):=[]
def ratio_den_lh:LH
 | _=>none
theorem ratio_den_eq (a_0:RAT):fnF tb (envL e51) Tryz.f51 ratio_den_lh c51.ps c51.rs (T:=WH) (fun y=>(y.2.1)) (a_0,())=ratio_den a_0:=by kernel_rfl
abbrev e83:List (Nat×Ctr):=[(66,c66),(112,c112)]
def nat_Cmp_lh:LH
 | _=>none
theorem nat_Cmp_eq (a_0:List Int) (b_1:List Int):fnF tb (envL e83) Tryz.f83 nat_Cmp_lh c83.ps c83.rs (T:=Int) (fun y=>(y.2.1)) (a_0,b_1,())=nat_Cmp a_0 b_1:=by kernel_rfl
abbrev e62:List (Nat×Ctr):=[(63,c63),(83,c83)]
def whole_Cmp_lh:LH
 | _=>none
theorem whole_Cmp_eq (a_0:WH) (b_1:WH):fnF tb (envL e62) Tryz.f62 whole_Cmp_lh c62.ps c62.rs (T:=Int) (fun y=>(y.2.1)) (a_0,b_1,())=whole_Cmp a_0 b_1:=by kernel_rfl
abbrev e38:List (Nat×Ctr):=[(40,c40),(50,c50),(51,c51),(62,c62)]
def ratio_Cmp_lh:LH
 | _=>none
theorem ratio_Cmp_eq (a_0:RAT) (b_1:RAT):fnF tb (envL e38) Tryz.f38 ratio_Cmp_lh c38.ps c38.rs (T:=Int) (fun y=>(y.2.1)) (a_0,b_1,())=ratio_Cmp a_0 b_1:=by kernel_rfl
abbrev e18:List (Nat×Ctr):=[(38,c38)]
def ratio_Same_lh:LH
 | _=>none
theorem ratio_Same_eq (a_0:RAT) (b_1:RAT):fnF tb (envL e18) Tryz.f18 ratio_Same_lh c18.ps c18.rs (T:=Bool) (fun y=>(y.2.1)) (a_0,b_1,())=ratio_Same a_0 b_1:=by kernel_rfl
abbrev e82:List (Nat×Ctr):=[(61,c61),(66,c66),(118,c118)]
def nat_Add_lh:LH
 | 10=>some ⟨nat_Add_i5,nat_Add_o5,lp nat_Add_s5 K0⟩
 | _=>none
theorem nat_Add_l5 (g:nat_Add_i5.V→Option (OT nat_Add_o5)) (v:nat_Add_i5.V):q10q tb (envL e82) 43 nat_Add_lh (q3q 5 (q4q Tryz.f82) .skip) nat_Add_i5 nat_Add_o5 g v=nat_Add_s5 g v:=by kernel_rfl
theorem nat_Add_eq (a_0:List Int) (b_1:List Int):fnF tb (envL e82) Tryz.f82 nat_Add_lh c82.ps c82.rs (T:=(List Int)) (fun y=>(y.2.1)) (a_0,b_1,())=nat_Add a_0 b_1:=by kernel_rfl
abbrev e84:List (Nat×Ctr):=[(66,c66),(112,c112),(115,c115)]
def nat_Sub_lh:LH
 | _=>none
theorem nat_Sub_eq (a_0:List Int) (b_1:List Int):fnF tb (envL e84) Tryz.f84 nat_Sub_lh c84.ps c84.rs (T:=(List Int)×Int) (fun y=>(y.2.1,y.2.2.1)) (a_0,b_1,())=nat_Sub a_0 b_1:=by kernel_rfl
abbrev e49:List (Nat×Ctr):=[(60,c60),(63,c63),(82,c82),(83,c83),(84,c84)]
def whole_Add_lh:LH
 | _=>none
theorem whole_Add_eq (a_0:WH) (b_1:WH):fnF tb (envL e49) Tryz.f49 whole_Add_lh c49.ps c49.rs (T:=WH) (fun y=>(y.2.1)) (a_0,b_1,())=whole_Add a_0 b_1:=by kernel_rfl
abbrev e30:List (Nat×Ctr):=[(40,c40),(48,c48),(49,c49),(50,c50),(51,c51),(52,c52)]
def ratio_Add_lh:LH
 | _=>none
theorem ratio_Add_eq (a_0:RAT) (b_1:RAT):fnF tb (envL e30) Tryz.f30 ratio_Add_lh c30.ps c30.rs (T:=RAT) (fun y=>(y.2.1)) (a_0,b_1,())=ratio_Add a_0 b_1:=by kernel_rfl
abbrev e58:List (Nat×Ctr):=[(18,c18),(30,c30)]
def valid_sums_lh:LH
 | 4=>some ⟨valid_sums_i2,valid_sums_o2,lp valid_sums_s2 K0⟩
 | _=>none
theorem valid_sums_l2 (g:valid_sums_i2.V→Option (OT valid_sums_o2)) (v:valid_sums_i2.V):q10q tb (envL e58) 37 valid_sums_lh (q3q 2 (q4q Tryz.f58) .skip) valid_sums_i2 valid_sums_o2 g v=valid_sums_s2 g v:=by kernel_rfl
theorem valid_sums_eq (t_0:List NODE):fnF tb (envL e58) Tryz.f58 valid_sums_lh c58.ps c58.rs (T:=Int×Int) (fun y=>(y.2.1,y.2.2.1)) (t_0,())=valid_sums t_0:=by kernel_rfl
abbrev e59:List (Nat×Ctr):=[]
def valid_fault_lh:LH
 | _=>none
theorem valid_fault_eq (e_0:Int) (tree_1:Int) (node_2:Int):fnF tb (envL e59) Tryz.f59 valid_fault_lh c59.ps c59.rs (T:=(Int×Int×Int×Int)) (fun y=>(y.2.1)) (e_0,tree_1,node_2,())=valid_fault e_0 tree_1 node_2:=by kernel_rfl
abbrev e35:List (Nat×Ctr):=[(54,c54),(55,c55),(56,c56),(57,c57),(58,c58),(59,c59)]
def valid_Check_lh:LH
 | 14=>some ⟨valid_Check_i7,valid_Check_o7,lp valid_Check_s7 K0⟩
 | 8=>some ⟨valid_Check_i4,valid_Check_o4,lp valid_Check_s4 K0⟩
 | _=>none
theorem valid_Check_l7 (g:valid_Check_i7.V→Option (OT valid_Check_o7)) (v:valid_Check_i7.V):q10q tb (envL e35) 63 valid_Check_lh (q3q 7 (q4q Tryz.f35) .skip) valid_Check_i7 valid_Check_o7 g v=valid_Check_s7 g v:=by kernel_rfl
theorem valid_Check_l4 (g:valid_Check_i4.V→Option (OT valid_Check_o4)) (v:valid_Check_i4.V):q10q tb (envL e35) 63 valid_Check_lh (q3q 4 (q4q Tryz.f35) .skip) valid_Check_i4 valid_Check_o4 g v=valid_Check_s4 g v:=by kernel_rfl
theorem valid_Check_eq (m_0:MODEL):fnF tb (envL e35) Tryz.f35 valid_Check_lh c35.ps c35.rs (T:=(Int×Int×Int×Int)) (fun y=>(y.2.1)) (m_0,())=valid_Check m_0:=by kernel_rfl
abbrev e15:List (Nat×Ctr):=[(35,c35)]
def valid_Ok_lh:LH
 | _=>none
theorem valid_Ok_eq (m_0:MODEL):fnF tb (envL e15) Tryz.f15 valid_Ok_lh c15.ps c15.rs (T:=Bool) (fun y=>(y.2.1)) (m_0,())=valid_Ok m_0:=by kernel_rfl
abbrev e6:List (Nat×Ctr):=[(15,c15)]
def dendronlaw10_Why_lh:LH
 | _=>none
theorem dendronlaw10_Why_eq (m_0:MODEL) (row_1:List CELL):fnF tb (envL e6) Tryz.f6 dendronlaw10_Why_lh c6.ps c6.rs (T:=Int) (fun y=>(y.2.1)) (m_0,row_1,())=dendronlaw10_Why m_0 row_1:=by kernel_rfl
abbrev e41:List (Nat×Ctr):=[(15,c15)]
def route_fits_lh:LH
 | _=>none
theorem route_fits_eq (m_0:MODEL) (row_1:List CELL):fnF tb (envL e41) Tryz.f41 route_fits_lh c41.ps c41.rs (T:=Int) (fun y=>(y.2.1)) (m_0,row_1,())=route_fits m_0 row_1:=by kernel_rfl
abbrev e20:List (Nat×Ctr):=[(41,c41)]
def route_Fits_lh:LH
 | _=>none
theorem route_Fits_eq (m_0:MODEL) (row_1:List CELL):fnF tb (envL e20) Tryz.f20 route_Fits_lh c20.ps c20.rs (T:=Int) (fun y=>(y.2.1)) (m_0,row_1,())=route_Fits m_0 row_1:=by kernel_rfl
abbrev e42:List (Nat×Ctr):=[(25,c25)]
def pathshap_zeros_lh:LH
 | 6=>some ⟨pathshap_zeros_i3,pathshap_zeros_o3,lp pathshap_zeros_s3 K0⟩
 | _=>none
theorem pathshap_zeros_l3 (g:pathshap_zeros_i3.V→Option (OT pathshap_zeros_o3)) (v:pathshap_zeros_i3.V):q10q tb (envL e42) 13 pathshap_zeros_lh (q3q 3 (q4q Tryz.f42) .skip) pathshap_zeros_i3 pathshap_zeros_o3 g v=pathshap_zeros_s3 g v:=by kernel_rfl
theorem pathshap_zeros_eq (n_0:Int):fnF tb (envL e42) Tryz.f42 pathshap_zeros_lh c42.ps c42.rs (T:=(List RAT)) (fun y=>(y.2.1)) (n_0,())=pathshap_zeros n_0:=by kernel_rfl
abbrev e36:List (Nat×Ctr):=[(37,c37),(60,c60)]
def whole_Of_lh:LH
 | _=>none
theorem whole_Of_eq (n_0:Int):fnF tb (envL e36) Tryz.f36 whole_Of_lh c36.ps c36.rs (T:=WH) (fun y=>(y.2.1)) (n_0,())=whole_Of n_0:=by kernel_rfl
abbrev e16:List (Nat×Ctr):=[(36,c36),(37,c37)]
def ratio_Of_lh:LH
 | _=>none
theorem ratio_Of_eq (n_0:Int):fnF tb (envL e16) Tryz.f16 ratio_Of_lh c16.ps c16.rs (T:=RAT) (fun y=>(y.2.1)) (n_0,())=ratio_Of n_0:=by kernel_rfl
abbrev e17:List (Nat×Ctr):=[(16,c16)]
def ratio_One_lh:LH
 | _=>none
theorem ratio_One_eq :fnF tb (envL e17) Tryz.f17 ratio_One_lh c17.ps c17.rs (T:=RAT) (fun y=>(y.2.1)) ()=ratio_One :=by kernel_rfl
abbrev e67:List (Nat×Ctr):=[(17,c17)]
def pathshap_New_lh:LH
 | _=>none
theorem pathshap_New_eq :fnFB tb (envL e67) Tryz.f67 pathshap_New_lh w67 c67.ps c67.rs (T:=(List (Int×RAT×CELL))) (fun y=>(y.2.1)) ()=pathshap_New :=by kernel_rfl
abbrev e31:List (Nat×Ctr):=[(40,c40),(48,c48),(50,c50),(52,c52)]
def ratio_Mul_lh:LH
 | _=>none
theorem ratio_Mul_eq (a_0:RAT) (b_1:RAT):fnF tb (envL e31) Tryz.f31 ratio_Mul_lh c31.ps c31.rs (T:=RAT) (fun y=>(y.2.1)) (a_0,b_1,())=ratio_Mul a_0 b_1:=by kernel_rfl
abbrev e86:List (Nat×Ctr):=[]
def pathshap_Path_Find_lh:LH
 | 8=>some ⟨pathshap_Path_Find_i4,pathshap_Path_Find_o4,lp pathshap_Path_Find_s4 K0⟩
 | _=>none
theorem pathshap_Path_Find_l4 (g:pathshap_Path_Find_i4.V→Option (OT pathshap_Path_Find_o4)) (v:pathshap_Path_Find_i4.V):q10q tb (envL e86) 29 pathshap_Path_Find_lh (q3q 4 (q4q Tryz.f86) .skip) pathshap_Path_Find_i4 pathshap_Path_Find_o4 g v=pathshap_Path_Find_s4 g v:=by kernel_rfl
theorem pathshap_Path_Find_eq (feature_0:Int) (b_1:List (Int×RAT×CELL)):fnFB tb (envL e86) Tryz.f86 pathshap_Path_Find_lh w86 c86.ps c86.rs (T:=Int×(List (Int×RAT×CELL))) (fun y=>(y.2.1,y.2.2.1)) (feature_0,b_1,())=pathshap_Path_Find feature_0 b_1:=by kernel_rfl
abbrev e87:List (Nat×Ctr):=[]
def pathshap_Path_Parts_lh:LH
 | 10=>some ⟨pathshap_Path_Parts_i5,pathshap_Path_Parts_o5,lp pathshap_Path_Parts_s5 K0⟩
 | _=>none
theorem pathshap_Path_Parts_l5 (g:pathshap_Path_Parts_i5.V→Option (OT pathshap_Path_Parts_o5)) (v:pathshap_Path_Parts_i5.V):q10q tb (envL e87) 32 pathshap_Path_Parts_lh (q3q 5 (q4q Tryz.f87) .skip) pathshap_Path_Parts_i5 pathshap_Path_Parts_o5 g v=pathshap_Path_Parts_s5 g v:=by kernel_rfl
theorem pathshap_Path_Parts_eq (b_0:List (Int×RAT×CELL)):fnFB tb (envL e87) Tryz.f87 pathshap_Path_Parts_lh w87 c87.ps c87.rs (T:=(List PART)×(List (Int×RAT×CELL))) (fun y=>(y.2.1,y.2.2.1)) (b_0,())=pathshap_Path_Parts b_0:=by kernel_rfl
abbrev e65:List (Nat×Ctr):=[(60,c60),(63,c63)]
def whole_Neg_lh:LH
 | _=>none
theorem whole_Neg_eq (a_0:WH):fnF tb (envL e65) Tryz.f65 whole_Neg_lh c65.ps c65.rs (T:=WH) (fun y=>(y.2.1)) (a_0,())=whole_Neg a_0:=by kernel_rfl
abbrev e39:List (Nat×Ctr):=[(48,c48),(63,c63),(64,c64),(65,c65)]
def ratio_Make_lh:LH
 | _=>none
theorem ratio_Make_eq (num_0:WH) (den_1:WH):fnF tb (envL e39) Tryz.f39 ratio_Make_lh c39.ps c39.rs (T:=RAT×Int) (fun y=>(y.2.1,y.2.2.1)) (num_0,den_1,())=ratio_Make num_0 den_1:=by kernel_rfl
abbrev e19:List (Nat×Ctr):=[(36,c36),(39,c39),(40,c40)]
def ratio_Frac_lh:LH
 | _=>none
theorem ratio_Frac_eq (n_0:Int) (d_1:Int):fnF tb (envL e19) Tryz.f19 ratio_Frac_lh c19.ps c19.rs (T:=RAT) (fun y=>(y.2.1)) (n_0,d_1,())=ratio_Frac n_0 d_1:=by kernel_rfl
abbrev e53:List (Nat×Ctr):=[(40,c40),(65,c65)]
def ratio_Neg_lh:LH
 | _=>none
theorem ratio_Neg_eq (a_0:RAT):fnF tb (envL e53) Tryz.f53 ratio_Neg_lh c53.ps c53.rs (T:=RAT) (fun y=>(y.2.1)) (a_0,())=ratio_Neg a_0:=by kernel_rfl
abbrev e32:List (Nat×Ctr):=[(30,c30),(53,c53)]
def ratio_Sub_lh:LH
 | _=>none
theorem ratio_Sub_eq (a_0:RAT) (b_1:RAT):fnF tb (envL e32) Tryz.f32 ratio_Sub_lh c32.ps c32.rs (T:=RAT) (fun y=>(y.2.1)) (a_0,b_1,())=ratio_Sub a_0 b_1:=by kernel_rfl
abbrev e121:List (Nat×Ctr):=[(39,c39),(40,c40),(51,c51)]
def ratio_Inv_lh:LH
 | _=>none
theorem ratio_Inv_eq (a_0:RAT):fnF tb (envL e121) Tryz.f121 ratio_Inv_lh c121.ps c121.rs (T:=RAT×Int) (fun y=>(y.2.1,y.2.2.1)) (a_0,())=ratio_Inv a_0:=by kernel_rfl
abbrev e119:List (Nat×Ctr):=[(19,c19),(31,c31),(32,c32),(121,c121)]
def pathshap_Path_without_lh:LH
 | 14=>some ⟨pathshap_Path_without_i7,pathshap_Path_without_o7,lp pathshap_Path_without_s7 K0⟩
 | _=>none
theorem pathshap_Path_without_l7 (g:pathshap_Path_without_i7.V→Option (OT pathshap_Path_without_o7)) (v:pathshap_Path_without_i7.V):q10q tb (envL e119) 104 pathshap_Path_without_lh (q3q 7 (q4q Tryz.f119) .skip) pathshap_Path_without_i7 pathshap_Path_without_o7 g v=pathshap_Path_without_s7 g v:=by kernel_rfl
theorem pathshap_Path_without_eq (a_0:Int) (b_1:List (Int×RAT×CELL)):fnFB tb (envL e119) Tryz.f119 pathshap_Path_without_lh w119 c119.ps c119.rs (T:=(List RAT)×(List (Int×RAT×CELL))) (fun y=>(y.2.1,y.2.2.1)) (a_0,b_1,())=pathshap_Path_without a_0 b_1:=by kernel_rfl
abbrev e88:List (Nat×Ctr):=[(119,c119)]
def pathshap_Path_Unwind_lh:LH
 | 16=>some ⟨pathshap_Path_Unwind_i8,pathshap_Path_Unwind_o8,lp pathshap_Path_Unwind_s8 K0⟩
 | _=>none
theorem pathshap_Path_Unwind_l8 (g:pathshap_Path_Unwind_i8.V→Option (OT pathshap_Path_Unwind_o8)) (v:pathshap_Path_Unwind_i8.V):q10q tb (envL e88) 66 pathshap_Path_Unwind_lh (q3q 8 (q4q Tryz.f88) .skip) pathshap_Path_Unwind_i8 pathshap_Path_Unwind_o8 g v=pathshap_Path_Unwind_s8 g v:=by kernel_rfl
theorem pathshap_Path_Unwind_eq (a_0:Int) (b_1:List (Int×RAT×CELL)):fnFB tb (envL e88) Tryz.f88 pathshap_Path_Unwind_lh w88 c88.ps c88.rs (T:=Int×(List (Int×RAT×CELL))) (fun y=>(y.2.1,y.2.2.1)) (a_0,b_1,())=pathshap_Path_Unwind a_0 b_1:=by kernel_rfl
abbrev e89:List (Nat×Ctr):=[(19,c19),(25,c25),(30,c30),(31,c31),(40,c40),(85,c85),(86,c86)]
def pathshap_Path_Extend_lh:LH
 | 20=>some ⟨pathshap_Path_Extend_i10,pathshap_Path_Extend_o10,lp pathshap_Path_Extend_s10 K0⟩
 | _=>none
theorem pathshap_Path_Extend_l10 (g:pathshap_Path_Extend_i10.V→Option (OT pathshap_Path_Extend_o10)) (v:pathshap_Path_Extend_i10.V):q10q tb (envL e89) 113 pathshap_Path_Extend_lh (q3q 10 (q4q Tryz.f89) .skip) pathshap_Path_Extend_i10 pathshap_Path_Extend_o10 g v=pathshap_Path_Extend_s10 g v:=by kernel_rfl
theorem pathshap_Path_Extend_eq (a_0:Int) (a_1:RAT) (a_2:Bool) (b_3:List (Int×RAT×CELL)):fnFB tb (envL e89) Tryz.f89 pathshap_Path_Extend_lh w89 c89.ps c89.rs (T:=Int×(List (Int×RAT×CELL))) (fun y=>(y.2.1,y.2.2.1)) (a_0,a_1,a_2,b_3,())=pathshap_Path_Extend a_0 a_1 a_2 b_3:=by kernel_rfl
abbrev e68:List (Nat×Ctr):=[(31,c31),(86,c86),(87,c87),(88,c88),(89,c89)]
def pathshap_place_join_lh:LH
 | _=>none
theorem pathshap_place_join_eq (b_0:Int) (b_1:Bool) (b_2:List Int) (b_3:List Int) (b_4:Int) (b_5:Bool) (b_6:List Int) (b_7:List Int) (b_8:Bool) (b_9:List (Int×RAT×CELL)):fnFB tb (envL e68) Tryz.f68 pathshap_place_join_lh w68 c68.ps c68.rs (T:=Int×Bool×(List Int)×(List Int)×Int×Bool×(List Int)×(List Int)×Bool×(List (Int×RAT×CELL))) (fun y=>(y.2.1,y.2.2.1,y.2.2.2.1,y.2.2.2.2.1,y.2.2.2.2.2.1,y.2.2.2.2.2.2.1,y.2.2.2.2.2.2.2.1,y.2.2.2.2.2.2.2.2.1,y.2.2.2.2.2.2.2.2.2.1,y.2.2.2.2.2.2.2.2.2.2.1)) (b_0,b_1,b_2,b_3,b_4,b_5,b_6,b_7,b_8,b_9,())=pathshap_place_join b_0 b_1 b_2 b_3 b_4 b_5 b_6 b_7 b_8 b_9:=by kernel_rfl
abbrev e120:List (Nat×Ctr):=[(25,c25),(30,c30)]
def ratio_Sum_lh:LH
 | 6=>some ⟨ratio_Sum_i3,ratio_Sum_o3,lp ratio_Sum_s3 K0⟩
 | _=>none
theorem ratio_Sum_l3 (g:ratio_Sum_i3.V→Option (OT ratio_Sum_o3)) (v:ratio_Sum_i3.V):q10q tb (envL e120) 18 ratio_Sum_lh (q3q 3 (q4q Tryz.f120) .skip) ratio_Sum_i3 ratio_Sum_o3 g v=ratio_Sum_s3 g v:=by kernel_rfl
theorem ratio_Sum_eq (l_0:List RAT):fnF tb (envL e120) Tryz.f120 ratio_Sum_lh c120.ps c120.rs (T:=RAT) (fun y=>(y.2.1)) (l_0,())=ratio_Sum l_0:=by kernel_rfl
abbrev e90:List (Nat×Ctr):=[(119,c119),(120,c120)]
def pathshap_Path_Sum_lh:LH
 | _=>none
theorem pathshap_Path_Sum_eq (at_0:Int) (b_1:List (Int×RAT×CELL)):fnFB tb (envL e90) Tryz.f90 pathshap_Path_Sum_lh w90 c90.ps c90.rs (T:=RAT×Int×(List (Int×RAT×CELL))) (fun y=>(y.2.1,y.2.2.1,y.2.2.2.1)) (at_0,b_1,())=pathshap_Path_Sum at_0 b_1:=by kernel_rfl
abbrev e69:List (Nat×Ctr):=[(17,c17),(30,c30),(31,c31),(53,c53),(87,c87),(90,c90)]
def pathshap_walker_leaf_lh:LH
 | 6=>some ⟨pathshap_walker_leaf_i3,pathshap_walker_leaf_o3,lp pathshap_walker_leaf_s3 K0⟩
 | _=>none
theorem pathshap_walker_leaf_l3 (g:pathshap_walker_leaf_i3.V→Option (OT pathshap_walker_leaf_o3)) (v:pathshap_walker_leaf_i3.V):q10q tb (envL e69) 69 pathshap_walker_leaf_lh (q3q 3 (q4q Tryz.f69) .skip) pathshap_walker_leaf_i3 pathshap_walker_leaf_o3 g v=pathshap_walker_leaf_s3 g v:=by kernel_rfl
theorem pathshap_walker_leaf_eq (a_0:Int) (a_1:Bool) (a_2:List Int) (a_3:List Int) (a_4:Int) (a_5:Bool) (a_6:List Int) (a_7:List Int) (a_8:Bool) (b_9:List NODE) (b_10:List CELL) (b_11:Int) (b_12:Bool) (b_13:List RAT) (b_14:List (Int×RAT×CELL)):fnFB tb (envL e69) Tryz.f69 pathshap_walker_leaf_lh w69 c69.ps c69.rs (T:=(List RAT)×(List NODE)×(List CELL)×Int×Bool×(List (Int×RAT×CELL))) (fun y=>(y.1.1,y.2.1,y.2.2.1,y.2.2.2.1,y.2.2.2.2.1,y.2.2.2.2.2.1)) (a_0,a_1,a_2,a_3,a_4,a_5,a_6,a_7,a_8,b_9,b_10,b_11,b_12,b_13,b_14,())=pathshap_walker_leaf a_0 a_1 a_2 a_3 a_4 a_5 a_6 a_7 a_8 b_9 b_10 b_11 b_12 b_13 b_14:=by kernel_rfl
abbrev e94:List (Nat×Ctr):=[(38,c38)]
def route_goes_lh:LH
 | _=>none
theorem route_goes_eq (n_0:NODE) (c_1:CELL):fnF tb (envL e94) Tryz.f94 route_goes_lh c94.ps c94.rs (T:=Bool) (fun y=>(y.2.1)) (n_0,c_1,())=route_goes n_0 c_1:=by kernel_rfl
abbrev e73:List (Nat×Ctr):=[(94,c94)]
def route_Left_lh:LH
 | _=>none
theorem route_Left_eq (n_0:NODE) (c_1:CELL):fnF tb (envL e73) Tryz.f73 route_Left_lh c73.ps c73.rs (T:=Bool) (fun y=>(y.2.1)) (n_0,c_1,())=route_Left n_0 c_1:=by kernel_rfl
abbrev e91:List (Nat×Ctr):=[(31,c31),(121,c121)]
def ratio_Div_lh:LH
 | _=>none
theorem ratio_Div_eq (a_0:RAT) (b_1:RAT):fnF tb (envL e91) Tryz.f91 ratio_Div_lh c91.ps c91.rs (T:=RAT×Int) (fun y=>(y.2.1,y.2.2.1)) (a_0,b_1,())=ratio_Div a_0 b_1:=by kernel_rfl
abbrev e92:List (Nat×Ctr):=[]
def pathshap_Path_Copy_lh:LH
 | _=>none
theorem pathshap_Path_Copy_eq (b_0:List (Int×RAT×CELL)):fnFB tb (envL e92) Tryz.f92 pathshap_Path_Copy_lh w92 c92.ps c92.rs (T:=(List (Int×RAT×CELL))×(List (Int×RAT×CELL))) (fun y=>(y.2.1,y.2.2.1)) (b_0,())=pathshap_Path_Copy b_0:=by kernel_rfl
abbrev e70:List (Nat×Ctr):=[(31,c31),(73,c73),(91,c91),(92,c92)]
def pathshap_walker_child_lh:LH
 | _=>none
theorem pathshap_walker_child_eq (a_0:Int) (a_1:Bool) (a_2:List Int) (a_3:List Int) (a_4:Int) (a_5:Bool) (a_6:List Int) (a_7:List Int) (a_8:Bool) (a_9:Int) (a_10:Bool) (b_11:List NODE) (b_12:List CELL) (b_13:Int) (b_14:Bool) (b_15:List RAT) (b_16:List (Int×RAT×CELL)):fnFB tb (envL e70) Tryz.f70 pathshap_walker_child_lh w70 c70.ps c70.rs (T:=(List RAT)×Int×Bool×(List Int)×(List Int)×Int×Bool×(List Int)×(List Int)×Bool×Bool×(List NODE)×(List CELL)×Int×Bool×(List (Int×RAT×CELL))×(List (Int×RAT×CELL))) (fun y=>(y.1.1,y.2.1,y.2.2.1,y.2.2.2.1,y.2.2.2.2.1,y.2.2.2.2.2.1,y.2.2.2.2.2.2.1,y.2.2.2.2.2.2.2.1,y.2.2.2.2.2.2.2.2.1,y.2.2.2.2.2.2.2.2.2.1,y.2.2.2.2.2.2.2.2.2.2.1,y.2.2.2.2.2.2.2.2.2.2.2.1,y.2.2.2.2.2.2.2.2.2.2.2.2.1,y.2.2.2.2.2.2.2.2.2.2.2.2.2.1,y.2.2.2.2.2.2.2.2.2.2.2.2.2.2.1,y.2.2.2.2.2.2.2.2.2.2.2.2.2.2.2.1,y.2.2.2.2.2.2.2.2.2.2.2.2.2.2.2.2.1)) (a_0,a_1,a_2,a_3,a_4,a_5,a_6,a_7,a_8,a_9,a_10,b_11,b_12,b_13,b_14,b_15,b_16,())=pathshap_walker_child a_0 a_1 a_2 a_3 a_4 a_5 a_6 a_7 a_8 a_9 a_10 b_11 b_12 b_13 b_14 b_15 b_16:=by kernel_rfl
abbrev e43:List (Nat×Ctr):=[(17,c17),(67,c67),(68,c68),(69,c69),(70,c70)]
def pathshap_walker_walk_lh:LH
 | 18=>some ⟨pathshap_walker_walk_i9,pathshap_walker_walk_o9,lp pathshap_walker_walk_s9 K0⟩
 | 2=>some ⟨pathshap_walker_walk_i1,pathshap_walker_walk_o1,lp pathshap_walker_walk_s1 K0⟩
 | _=>none
theorem pathshap_walker_walk_l9 (g:pathshap_walker_walk_i9.V→Option (OT pathshap_walker_walk_o9)) (v:pathshap_walker_walk_i9.V):q10q tb (envL e43) 91 pathshap_walker_walk_lh (q3q 9 (q4q Tryz.f43) .skip) pathshap_walker_walk_i9 pathshap_walker_walk_o9 g v=pathshap_walker_walk_s9 g v:=by kernel_rfl
theorem pathshap_walker_walk_l1 (g:pathshap_walker_walk_i1.V→Option (OT pathshap_walker_walk_o1)) (v:pathshap_walker_walk_i1.V):q10q tb (envL e43) 91 pathshap_walker_walk_lh (q3q 1 (q4q Tryz.f43) .skip) pathshap_walker_walk_i1 pathshap_walker_walk_o1 g v=pathshap_walker_walk_s1 g v:=by kernel_rfl
theorem pathshap_walker_walk_eq (b_0:List NODE) (b_1:List CELL) (b_2:Int) (b_3:Bool) (b_4:List RAT) (b_5:List (Int×(Option ((Option (List (Int×RAT×CELL)))×Unit))×RAT×PART)):fnFB tb (envL e43) Tryz.f43 pathshap_walker_walk_lh w43 c43.ps c43.rs (T:=(List RAT)×(List NODE)×(List CELL)×Int×Bool×(List (Int×(Option ((Option (List (Int×RAT×CELL)))×Unit))×RAT×PART))) (fun y=>(y.1.1,y.2.1,y.2.2.1,y.2.2.2.1,y.2.2.2.2.1,y.2.2.2.2.2.1)) (b_0,b_1,b_2,b_3,b_4,b_5,())=pathshap_walker_walk b_0 b_1 b_2 b_3 b_4 b_5:=by kernel_rfl
abbrev e21:List (Nat×Ctr):=[(42,c42),(43,c43)]
def pathshap_all_lh:LH
 | 6=>some ⟨pathshap_all_i3,pathshap_all_o3,lp pathshap_all_s3 K0⟩
 | _=>none
theorem pathshap_all_l3 (g:pathshap_all_i3.V→Option (OT pathshap_all_o3)) (v:pathshap_all_i3.V):q10q tb (envL e21) 34 pathshap_all_lh (q3q 3 (q4q Tryz.f21) .skip) pathshap_all_i3 pathshap_all_o3 g v=pathshap_all_s3 g v:=by kernel_rfl
theorem pathshap_all_eq (m_0:MODEL) (row_1:List CELL) (fixed_2:Int) (on_3:Bool):fnF tb (envL e21) Tryz.f21 pathshap_all_lh c21.ps c21.rs (T:=(List RAT)) (fun y=>(y.2.1)) (m_0,row_1,fixed_2,on_3,())=pathshap_all m_0 row_1 fixed_2 on_3:=by kernel_rfl
abbrev e8:List (Nat×Ctr):=[(20,c20),(21,c21)]
def pathshap_Values_lh:LH
 | _=>none
theorem pathshap_Values_eq (m_0:MODEL) (row_1:List CELL):fnF tb (envL e8) Tryz.f8 pathshap_Values_lh c8.ps c8.rs (T:=(List RAT)×Int) (fun y=>(y.2.1,y.2.2.1)) (m_0,row_1,())=pathshap_Values m_0 row_1:=by kernel_rfl
abbrev e7:List (Nat×Ctr):=[(8,c8),(16,c16),(17,c17),(18,c18),(19,c19)]
def dendronlaw15_awake_lh:LH
 | _=>none
theorem dendronlaw15_awake_eq :fnF tb (envL e7) Tryz.f7 dendronlaw15_awake_lh c7.ps c7.rs (T:=Bool) (fun y=>(y.2.1)) ()=dendronlaw15_awake :=by kernel_rfl
abbrev e71:List (Nat×Ctr):=[]
def expect_known_lh:LH
 | _=>none
theorem expect_known_eq (set_0:Int) (feature_1:Int):fnF tb (envL e71) Tryz.f71 expect_known_lh c71.ps c71.rs (T:=Bool) (fun y=>(y.2.1)) (set_0,feature_1,())=expect_known set_0 feature_1:=by kernel_rfl
abbrev e93:List (Nat×Ctr):=[(91,c91)]
def expect_over_lh:LH
 | _=>none
theorem expect_over_eq (a_0:RAT) (b_1:RAT):fnF tb (envL e93) Tryz.f93 expect_over_lh c93.ps c93.rs (T:=RAT) (fun y=>(y.2.1)) (a_0,b_1,())=expect_over a_0 b_1:=by kernel_rfl
abbrev e72:List (Nat×Ctr):=[(30,c30),(31,c31),(93,c93)]
def expect_mean_lh:LH
 | _=>none
theorem expect_mean_eq (t_0:List NODE) (n_1:NODE) (a_2:RAT) (b_3:RAT):fnF tb (envL e72) Tryz.f72 expect_mean_lh c72.ps c72.rs (T:=RAT) (fun y=>(y.2.1)) (t_0,n_1,a_2,b_3,())=expect_mean t_0 n_1 a_2 b_3:=by kernel_rfl
abbrev e44 (n:Nat):List (Nat×Ctr):=[(40,c40),(44,(c44 n)),(71,c71),(72,c72),(73,c73)]
def expect_value_lh (n:Nat):LH
 | _=>none
theorem expect_value_eq (n:Nat) (t_0:List NODE) (at_1:Int) (row_2:List CELL) (set_3:Int):fnF tb (envL (e44 n)) Tryz.f44 (expect_value_lh n) (c44 n).ps (c44 n).rs (T:=RAT) (fun y=>(y.2.1)) (t_0,at_1,row_2,set_3,())=expect_value (n+1) t_0 at_1 row_2 set_3:=by kernel_rfl
abbrev e22:List (Nat×Ctr):=[(20,c20),(25,c25),(30,c30),(44,(c44 R0))]
def expect_Value_lh:LH
 | 12=>some ⟨expect_Value_i6,expect_Value_o6,lp expect_Value_s6 K0⟩
 | _=>none
theorem expect_Value_l6 (g:expect_Value_i6.V→Option (OT expect_Value_o6)) (v:expect_Value_i6.V):q10q tb (envL e22) 35 expect_Value_lh (q3q 6 (q4q Tryz.f22) .skip) expect_Value_i6 expect_Value_o6 g v=expect_Value_s6 g v:=by kernel_rfl
theorem expect_Value_eq (m_0:MODEL) (row_1:List CELL) (set_2:Int):fnF tb (envL e22) Tryz.f22 expect_Value_lh c22.ps c22.rs (T:=RAT×Int) (fun y=>(y.2.1,y.2.2.1)) (m_0,row_1,set_2,())=expect_Value m_0 row_1 set_2:=by kernel_rfl
abbrev e9:List (Nat×Ctr):=[(20,c20),(22,c22)]
def expect_Table_lh:LH
 | 16=>some ⟨expect_Table_i8,expect_Table_o8,lp expect_Table_s8 K0⟩
 | _=>none
theorem expect_Table_l8 (g:expect_Table_i8.V→Option (OT expect_Table_o8)) (v:expect_Table_i8.V):q10q tb (envL e9) 39 expect_Table_lh (q3q 8 (q4q Tryz.f9) .skip) expect_Table_i8 expect_Table_o8 g v=expect_Table_s8 g v:=by kernel_rfl
theorem expect_Table_eq (m_0:MODEL) (row_1:List CELL):fnF tb (envL e9) Tryz.f9 expect_Table_lh c9.ps c9.rs (T:=(List RAT)×Int) (fun y=>(y.2.1,y.2.2.1)) (m_0,row_1,())=expect_Table m_0 row_1:=by kernel_rfl
abbrev e98:List (Nat×Ctr):=[]
def dendronref01_Small_lh:LH
 | 4=>some ⟨dendronref01_Small_i2,dendronref01_Small_o2,lp dendronref01_Small_s2 K0⟩
 | _=>none
theorem dendronref01_Small_l2 (g:dendronref01_Small_i2.V→Option (OT dendronref01_Small_o2)) (v:dendronref01_Small_i2.V):q10q tb (envL e98) 14 dendronref01_Small_lh (q3q 2 (q4q Tryz.f98) .skip) dendronref01_Small_i2 dendronref01_Small_o2 g v=dendronref01_Small_s2 g v:=by kernel_rfl
theorem dendronref01_Small_eq (n_0:Int):fnF tb (envL e98) Tryz.f98 dendronref01_Small_lh c98.ps c98.rs (T:=(List Int)) (fun y=>(y.2.1)) (n_0,())=dendronref01_Small n_0:=by kernel_rfl
abbrev e123:List (Nat×Ctr):=[]
def dendronref01_digit_lh:LH
 | _=>none
theorem dendronref01_digit_eq (a_0:List Int) (i_1:Int):fnF tb (envL e123) Tryz.f123 dendronref01_digit_lh c123.ps c123.rs (T:=Int) (fun y=>(y.2.1)) (a_0,i_1,())=dendronref01_digit a_0 i_1:=by kernel_rfl
abbrev e102:List (Nat×Ctr):=[(123,c123)]
def dendronref01_Plus_lh:LH
 | 8=>some ⟨dendronref01_Plus_i4,dendronref01_Plus_o4,lp dendronref01_Plus_s4 K0⟩
 | _=>none
theorem dendronref01_Plus_l4 (g:dendronref01_Plus_i4.V→Option (OT dendronref01_Plus_o4)) (v:dendronref01_Plus_i4.V):q10q tb (envL e102) 41 dendronref01_Plus_lh (q3q 4 (q4q Tryz.f102) .skip) dendronref01_Plus_i4 dendronref01_Plus_o4 g v=dendronref01_Plus_s4 g v:=by kernel_rfl
theorem dendronref01_Plus_eq (a_0:List Int) (b_1:List Int):fnF tb (envL e102) Tryz.f102 dendronref01_Plus_lh c102.ps c102.rs (T:=(List Int)) (fun y=>(y.2.1)) (a_0,b_1,())=dendronref01_Plus a_0 b_1:=by kernel_rfl
abbrev e124:List (Nat×Ctr):=[]
def dendronref01_Trim_lh:LH
 | 4=>some ⟨dendronref01_Trim_i2,dendronref01_Trim_o2,lp dendronref01_Trim_s2 K0⟩
 | _=>none
theorem dendronref01_Trim_l2 (g:dendronref01_Trim_i2.V→Option (OT dendronref01_Trim_o2)) (v:dendronref01_Trim_i2.V):q10q tb (envL e124) 21 dendronref01_Trim_lh (q3q 2 (q4q Tryz.f124) .skip) dendronref01_Trim_i2 dendronref01_Trim_o2 g v=dendronref01_Trim_s2 g v:=by kernel_rfl
theorem dendronref01_Trim_eq (a_0:List Int):fnF tb (envL e124) Tryz.f124 dendronref01_Trim_lh c124.ps c124.rs (T:=(List Int)) (fun y=>(y.2.1)) (a_0,())=dendronref01_Trim a_0:=by kernel_rfl
abbrev e103:List (Nat×Ctr):=[(124,c124)]
def dendronref01_Times_lh:LH
 | 14=>some ⟨dendronref01_Times_i7,dendronref01_Times_o7,lp dendronref01_Times_s7 K0⟩
 | 6=>some ⟨dendronref01_Times_i3,dendronref01_Times_o3,lp dendronref01_Times_s3 K0⟩
 | _=>none
theorem dendronref01_Times_l7 (g:dendronref01_Times_i7.V→Option (OT dendronref01_Times_o7)) (v:dendronref01_Times_i7.V):q10q tb (envL e103) 63 dendronref01_Times_lh (q3q 7 (q4q Tryz.f103) .skip) dendronref01_Times_i7 dendronref01_Times_o7 g v=dendronref01_Times_s7 g v:=by kernel_rfl
theorem dendronref01_Times_l3 (g:dendronref01_Times_i3.V→Option (OT dendronref01_Times_o3)) (v:dendronref01_Times_i3.V):q10q tb (envL e103) 63 dendronref01_Times_lh (q3q 3 (q4q Tryz.f103) .skip) dendronref01_Times_i3 dendronref01_Times_o3 g v=dendronref01_Times_s3 g v:=by kernel_rfl
theorem dendronref01_Times_eq (a_0:List Int) (b_1:List Int):fnF tb (envL e103) Tryz.f103 dendronref01_Times_lh c103.ps c103.rs (T:=(List Int)) (fun y=>(y.2.1)) (a_0,b_1,())=dendronref01_Times a_0 b_1:=by kernel_rfl
abbrev e76:List (Nat×Ctr):=[(98,c98),(102,c102),(103,c103)]
def dendronref01_From_lh:LH
 | 8=>some ⟨dendronref01_From_i4,dendronref01_From_o4,lp dendronref01_From_s4 K0⟩
 | _=>none
theorem dendronref01_From_l4 (g:dendronref01_From_i4.V→Option (OT dendronref01_From_o4)) (v:dendronref01_From_i4.V):q10q tb (envL e76) 26 dendronref01_From_lh (q3q 4 (q4q Tryz.f76) .skip) dendronref01_From_i4 dendronref01_From_o4 g v=dendronref01_From_s4 g v:=by kernel_rfl
theorem dendronref01_From_eq (a_0:List Int):fnF tb (envL e76) Tryz.f76 dendronref01_From_lh c76.ps c76.rs (T:=(List Int)) (fun y=>(y.2.1)) (a_0,())=dendronref01_From a_0:=by kernel_rfl
abbrev e105:List (Nat×Ctr):=[]
def dendronref02_Make_lh:LH
 | _=>none
theorem dendronref02_Make_eq (neg_0:Bool) (n_1:List Int):fnF tb (envL e105) Tryz.f105 dendronref02_Make_lh c105.ps c105.rs (T:=(Bool×List Int)) (fun y=>(y.2.1)) (neg_0,n_1,())=dendronref02_Make neg_0 n_1:=by kernel_rfl
abbrev e104:List (Nat×Ctr):=[(98,c98),(102,c102),(105,c105)]
def dendronref02_Small_lh:LH
 | _=>none
theorem dendronref02_Small_eq (n_0:Int):fnF tb (envL e104) Tryz.f104 dendronref02_Small_lh c104.ps c104.rs (T:=(Bool×List Int)) (fun y=>(y.2.1)) (n_0,())=dendronref02_Small n_0:=by kernel_rfl
abbrev e77:List (Nat×Ctr):=[(98,c98),(104,c104)]
def dendronref03_Small_lh:LH
 | _=>none
theorem dendronref03_Small_eq (n_0:Int) (d_1:Int):fnF tb (envL e77) Tryz.f77 dendronref03_Small_lh c77.ps c77.rs (T:=((Bool×List Int)×List Int)) (fun y=>(y.2.1)) (n_0,d_1,())=dendronref03_Small n_0 d_1:=by kernel_rfl
abbrev e78:List (Nat×Ctr):=[(76,c76),(105,c105)]
def dendronref02_From_lh:LH
 | _=>none
theorem dendronref02_From_eq (a_0:WH):fnF tb (envL e78) Tryz.f78 dendronref02_From_lh c78.ps c78.rs (T:=(Bool×List Int)) (fun y=>(y.2.1)) (a_0,())=dendronref02_From a_0:=by kernel_rfl
abbrev e46:List (Nat×Ctr):=[(76,c76),(77,c77),(78,c78)]
def dendronref03_From_lh:LH
 | _=>none
theorem dendronref03_From_eq (a_0:RAT):fnF tb (envL e46) Tryz.f46 dendronref03_From_lh c46.ps c46.rs (T:=((Bool×List Int)×List Int)) (fun y=>(y.2.1)) (a_0,())=dendronref03_From a_0:=by kernel_rfl
abbrev e95:List (Nat×Ctr):=[]
def dendronref01_Right_lh:LH
 | 4=>some ⟨dendronref01_Right_i2,dendronref01_Right_o2,lp dendronref01_Right_s2 K0⟩
 | _=>none
theorem dendronref01_Right_l2 (g:dendronref01_Right_i2.V→Option (OT dendronref01_Right_o2)) (v:dendronref01_Right_i2.V):q10q tb (envL e95) 27 dendronref01_Right_lh (q3q 2 (q4q Tryz.f95) .skip) dendronref01_Right_i2 dendronref01_Right_o2 g v=dendronref01_Right_s2 g v:=by kernel_rfl
theorem dendronref01_Right_eq (a_0:List Int):fnF tb (envL e95) Tryz.f95 dendronref01_Right_lh c95.ps c95.rs (T:=Bool) (fun y=>(y.2.1)) (a_0,())=dendronref01_Right a_0:=by kernel_rfl
abbrev e97:List (Nat×Ctr):=[]
def dendronref01_Order_lh:LH
 | 12=>some ⟨dendronref01_Order_i6,dendronref01_Order_o6,lp dendronref01_Order_s6 K0⟩
 | _=>none
theorem dendronref01_Order_l6 (g:dendronref01_Order_i6.V→Option (OT dendronref01_Order_o6)) (v:dendronref01_Order_i6.V):q10q tb (envL e97) 41 dendronref01_Order_lh (q3q 6 (q4q Tryz.f97) .skip) dendronref01_Order_i6 dendronref01_Order_o6 g v=dendronref01_Order_s6 g v:=by kernel_rfl
theorem dendronref01_Order_eq (a_0:List Int) (b_1:List Int):fnF tb (envL e97) Tryz.f97 dendronref01_Order_lh c97.ps c97.rs (T:=Int) (fun y=>(y.2.1)) (a_0,b_1,())=dendronref01_Order a_0 b_1:=by kernel_rfl
abbrev e131:List (Nat×Ctr):=[(123,c123),(124,c124)]
def dendronref01_Minus_lh:LH
 | 8=>some ⟨dendronref01_Minus_i4,dendronref01_Minus_o4,lp dendronref01_Minus_s4 K0⟩
 | _=>none
theorem dendronref01_Minus_l4 (g:dendronref01_Minus_i4.V→Option (OT dendronref01_Minus_o4)) (v:dendronref01_Minus_i4.V):q10q tb (envL e131) 35 dendronref01_Minus_lh (q3q 4 (q4q Tryz.f131) .skip) dendronref01_Minus_i4 dendronref01_Minus_o4 g v=dendronref01_Minus_s4 g v:=by kernel_rfl
theorem dendronref01_Minus_eq (a_0:List Int) (b_1:List Int):fnF tb (envL e131) Tryz.f131 dendronref01_Minus_lh c131.ps c131.rs (T:=(List Int)) (fun y=>(y.2.1)) (a_0,b_1,())=dendronref01_Minus a_0 b_1:=by kernel_rfl
abbrev e122:List (Nat×Ctr):=[(97,c97),(98,c98),(103,c103),(124,c124),(131,c131)]
def dendronref01_Over_lh:LH
 | 24=>some ⟨dendronref01_Over_i12,dendronref01_Over_o12,lp dendronref01_Over_s12 K0⟩
 | 8=>some ⟨dendronref01_Over_i4,dendronref01_Over_o4,lp dendronref01_Over_s4 K0⟩
 | _=>none
theorem dendronref01_Over_l12 (g:dendronref01_Over_i12.V→Option (OT dendronref01_Over_o12)) (v:dendronref01_Over_i12.V):q10q tb (envL e122) 65 dendronref01_Over_lh (q3q 12 (q4q Tryz.f122) .skip) dendronref01_Over_i12 dendronref01_Over_o12 g v=dendronref01_Over_s12 g v:=by kernel_rfl
theorem dendronref01_Over_l4 (g:dendronref01_Over_i4.V→Option (OT dendronref01_Over_o4)) (v:dendronref01_Over_i4.V):q10q tb (envL e122) 65 dendronref01_Over_lh (q3q 4 (q4q Tryz.f122) .skip) dendronref01_Over_i4 dendronref01_Over_o4 g v=dendronref01_Over_s4 g v:=by kernel_rfl
theorem dendronref01_Over_eq (a_0:List Int) (a_1:List Int):fnF tb (envL e122) Tryz.f122 dendronref01_Over_lh c122.ps c122.rs (T:=(List Int)×(List Int)) (fun y=>(y.2.1,y.2.2.1)) (a_0,a_1,())=dendronref01_Over a_0 a_1:=by kernel_rfl
abbrev e96:List (Nat×Ctr):=[(122,c122)]
def dendronref01_Gcd_lh:LH
 | 2=>some ⟨dendronref01_Gcd_i1,dendronref01_Gcd_o1,lp dendronref01_Gcd_s1 K0⟩
 | _=>none
theorem dendronref01_Gcd_l1 (g:dendronref01_Gcd_i1.V→Option (OT dendronref01_Gcd_o1)) (v:dendronref01_Gcd_i1.V):q10q tb (envL e96) 19 dendronref01_Gcd_lh (q3q 1 (q4q Tryz.f96) .skip) dendronref01_Gcd_i1 dendronref01_Gcd_o1 g v=dendronref01_Gcd_s1 g v:=by kernel_rfl
theorem dendronref01_Gcd_eq (a_0:List Int) (b_1:List Int):fnF tb (envL e96) Tryz.f96 dendronref01_Gcd_lh c96.ps c96.rs (T:=(List Int)) (fun y=>(y.2.1)) (a_0,b_1,())=dendronref01_Gcd a_0 b_1:=by kernel_rfl
abbrev e74:List (Nat×Ctr):=[(76,c76),(95,c95),(96,c96),(97,c97),(98,c98)]
def dendronref03_Right_lh:LH
 | _=>none
theorem dendronref03_Right_eq (a_0:RAT):fnF tb (envL e74) Tryz.f74 dendronref03_Right_lh c74.ps c74.rs (T:=Bool) (fun y=>(y.2.1)) (a_0,())=dendronref03_Right a_0:=by kernel_rfl
abbrev e99:List (Nat×Ctr):=[(97,c97)]
def dendronref02_Order_lh:LH
 | _=>none
theorem dendronref02_Order_eq (a_0:Bool×List Int) (b_1:Bool×List Int):fnF tb (envL e99) Tryz.f99 dendronref02_Order_lh c99.ps c99.rs (T:=Int) (fun y=>(y.2.1)) (a_0,b_1,())=dendronref02_Order a_0 b_1:=by kernel_rfl
abbrev e100:List (Nat×Ctr):=[(103,c103),(105,c105)]
def dendronref02_Times_lh:LH
 | _=>none
theorem dendronref02_Times_eq (a_0:Bool×List Int) (b_1:Bool×List Int):fnF tb (envL e100) Tryz.f100 dendronref02_Times_lh c100.ps c100.rs (T:=(Bool×List Int)) (fun y=>(y.2.1)) (a_0,b_1,())=dendronref02_Times a_0 b_1:=by kernel_rfl
abbrev e101:List (Nat×Ctr):=[(105,c105)]
def dendronref03_den_lh:LH
 | _=>none
theorem dendronref03_den_eq (a_0:(Bool×List Int)×List Int):fnF tb (envL e101) Tryz.f101 dendronref03_den_lh c101.ps c101.rs (T:=(Bool×List Int)) (fun y=>(y.2.1)) (a_0,())=dendronref03_den a_0:=by kernel_rfl
abbrev e75:List (Nat×Ctr):=[(99,c99),(100,c100),(101,c101)]
def dendronref03_Order_lh:LH
 | _=>none
theorem dendronref03_Order_eq (a_0:(Bool×List Int)×List Int) (b_1:(Bool×List Int)×List Int):fnF tb (envL e75) Tryz.f75 dendronref03_Order_lh c75.ps c75.rs (T:=Int) (fun y=>(y.2.1)) (a_0,b_1,())=dendronref03_Order a_0 b_1:=by kernel_rfl
abbrev e45:List (Nat×Ctr):=[(46,c46),(74,c74),(75,c75)]
def dendronref03_Is_lh:LH
 | _=>none
theorem dendronref03_Is_eq (a_0:RAT) (x_1:(Bool×List Int)×List Int):fnF tb (envL e45) Tryz.f45 dendronref03_Is_lh c45.ps c45.rs (T:=Bool) (fun y=>(y.2.1)) (a_0,x_1,())=dendronref03_Is a_0 x_1:=by kernel_rfl
abbrev e23:List (Nat×Ctr):=[(45,c45),(46,c46)]
def dendronref10_Is_lh:LH
 | _=>none
theorem dendronref10_Is_eq (a_0:RAT) (b_1:RAT):fnF tb (envL e23) Tryz.f23 dendronref10_Is_lh c23.ps c23.rs (T:=Bool) (fun y=>(y.2.1)) (a_0,b_1,())=dendronref10_Is a_0 b_1:=by kernel_rfl
abbrev e10:List (Nat×Ctr):=[(23,c23)]
def dendronref10_All_lh:LH
 | 8=>some ⟨dendronref10_All_i4,dendronref10_All_o4,lp dendronref10_All_s4 K0⟩
 | _=>none
theorem dendronref10_All_l4 (g:dendronref10_All_i4.V→Option (OT dendronref10_All_o4)) (v:dendronref10_All_i4.V):q10q tb (envL e10) 27 dendronref10_All_lh (q3q 4 (q4q Tryz.f10) .skip) dendronref10_All_i4 dendronref10_All_o4 g v=dendronref10_All_s4 g v:=by kernel_rfl
theorem dendronref10_All_eq (a_0:List RAT) (b_1:List RAT):fnF tb (envL e10) Tryz.f10 dendronref10_All_lh c10.ps c10.rs (T:=Bool) (fun y=>(y.2.1)) (a_0,b_1,())=dendronref10_All a_0 b_1:=by kernel_rfl
abbrev e24:List (Nat×Ctr):=[]
def weigh_New_lh:LH
 | _=>none
theorem weigh_New_eq :fnFB tb (envL e24) Tryz.f24 weigh_New_lh w24 c24.ps c24.rs (T:=Int×Int×Int×(List WH)) (fun y=>(y.2.1,y.2.2.1,y.2.2.2.1,y.2.2.2.2.1)) ()=weigh_New :=by kernel_rfl
abbrev e26:List (Nat×Ctr):=[]
def dendronlaw15_two_lh:LH
 | 6=>some ⟨dendronlaw15_two_i3,dendronlaw15_two_o3,lp dendronlaw15_two_s3 K0⟩
 | _=>none
theorem dendronlaw15_two_l3 (g:dendronlaw15_two_i3.V→Option (OT dendronlaw15_two_o3)) (v:dendronlaw15_two_i3.V):q10q tb (envL e26) 13 dendronlaw15_two_lh (q3q 3 (q4q Tryz.f26) .skip) dendronlaw15_two_i3 dendronlaw15_two_o3 g v=dendronlaw15_two_s3 g v:=by kernel_rfl
theorem dendronlaw15_two_eq (n_0:Int):fnF tb (envL e26) Tryz.f26 dendronlaw15_two_lh c26.ps c26.rs (T:=Int) (fun y=>(y.2.1)) (n_0,())=dendronlaw15_two n_0:=by kernel_rfl
abbrev e27:List (Nat×Ctr):=[]
def dendronlaw15_in_lh:LH
 | 4=>some ⟨dendronlaw15_in_i2,dendronlaw15_in_o2,lp dendronlaw15_in_s2 K0⟩
 | _=>none
theorem dendronlaw15_in_l2 (g:dendronlaw15_in_i2.V→Option (OT dendronlaw15_in_o2)) (v:dendronlaw15_in_i2.V):q10q tb (envL e27) 16 dendronlaw15_in_lh (q3q 2 (q4q Tryz.f27) .skip) dendronlaw15_in_i2 dendronlaw15_in_o2 g v=dendronlaw15_in_s2 g v:=by kernel_rfl
theorem dendronlaw15_in_eq (set_0:Int) (feature_1:Int):fnF tb (envL e27) Tryz.f27 dendronlaw15_in_lh c27.ps c27.rs (T:=Bool) (fun y=>(y.2.1)) (set_0,feature_1,())=dendronlaw15_in set_0 feature_1:=by kernel_rfl
abbrev e28:List (Nat×Ctr):=[(27,c27)]
def dendronlaw15_size_lh:LH
 | 6=>some ⟨dendronlaw15_size_i3,dendronlaw15_size_o3,lp dendronlaw15_size_s3 K0⟩
 | _=>none
theorem dendronlaw15_size_l3 (g:dendronlaw15_size_i3.V→Option (OT dendronlaw15_size_o3)) (v:dendronlaw15_size_i3.V):q10q tb (envL e28) 18 dendronlaw15_size_lh (q3q 3 (q4q Tryz.f28) .skip) dendronlaw15_size_i3 dendronlaw15_size_o3 g v=dendronlaw15_size_s3 g v:=by kernel_rfl
theorem dendronlaw15_size_eq (set_0:Int) (n_1:Int):fnF tb (envL e28) Tryz.f28 dendronlaw15_size_lh c28.ps c28.rs (T:=Int) (fun y=>(y.2.1)) (set_0,n_1,())=dendronlaw15_size set_0 n_1:=by kernel_rfl
abbrev e108:List (Nat×Ctr):=[(36,c36),(50,c50)]
def weigh_products_lh:LH
 | 8=>some ⟨weigh_products_i4,weigh_products_o4,lp weigh_products_s4 K0⟩
 | _=>none
theorem weigh_products_l4 (g:weigh_products_i4.V→Option (OT weigh_products_o4)) (v:weigh_products_i4.V):q10q tb (envL e108) 21 weigh_products_lh (q3q 4 (q4q Tryz.f108) .skip) weigh_products_i4 weigh_products_o4 g v=weigh_products_s4 g v:=by kernel_rfl
theorem weigh_products_eq :fnF tb (envL e108) Tryz.f108 weigh_products_lh c108.ps c108.rs (T:=(List WH)) (fun y=>(y.2.1)) ()=weigh_products :=by kernel_rfl
abbrev e107:List (Nat×Ctr):=[(108,c108)]
def weigh_Table_at_c1_lh:LH
 | _=>none
theorem weigh_Table_at_c1_eq (b_0:Int) (b_1:Int) (b_2:Int) (b_3:List WH):fnFB tb (envL e107) Tryz.f107 weigh_Table_at_c1_lh w107 c107.ps c107.rs (T:=Int×Int×Int×(List WH)) (fun y=>(y.2.1,y.2.2.1,y.2.2.2.1,y.2.2.2.2.1)) (b_0,b_1,b_2,b_3,())=weigh_Table_at_c1 b_0 b_1 b_2 b_3:=by kernel_rfl
abbrev e47:List (Nat×Ctr):=[(39,c39),(50,c50),(79,c79)]
def weigh_Table_quotient_lh:LH
 | _=>none
theorem weigh_Table_quotient_eq (a_0:Int) (b_1:Int) (c_2:Int) (b_3:Int) (b_4:Int) (b_5:Int) (b_6:List WH):fnFB tb (envL e47) Tryz.f47 weigh_Table_quotient_lh w47 c47.ps c47.rs (T:=RAT×Int×Int×Int×(List WH)) (fun y=>(y.2.1,y.2.2.1,y.2.2.2.1,y.2.2.2.2.1,y.2.2.2.2.2.1)) (a_0,b_1,c_2,b_3,b_4,b_5,b_6,())=weigh_Table_quotient a_0 b_1 c_2 b_3 b_4 b_5 b_6:=by kernel_rfl
abbrev e29:List (Nat×Ctr):=[(47,c47)]
def weigh_Table_Weight_lh:LH
 | _=>none
theorem weigh_Table_Weight_eq (s_0:Int) (n_1:Int) (b_2:Int) (b_3:Int) (b_4:Int) (b_5:List WH):fnFB tb (envL e29) Tryz.f29 weigh_Table_Weight_lh w29 c29.ps c29.rs (T:=RAT×Int×Int×Int×Int×(List WH)) (fun y=>(y.2.1,y.2.2.1,y.2.2.2.1,y.2.2.2.2.1,y.2.2.2.2.2.1,y.2.2.2.2.2.2.1)) (s_0,n_1,b_2,b_3,b_4,b_5,())=weigh_Table_Weight s_0 n_1 b_2 b_3 b_4 b_5:=by kernel_rfl
abbrev e11:List (Nat×Ctr):=[(24,c24),(25,c25),(26,c26),(27,c27),(28,c28),(29,c29),(30,c30),(31,c31),(32,c32)]
def dendronlaw15_Shapley_lh:LH
 | 22=>some ⟨dendronlaw15_Shapley_i11,dendronlaw15_Shapley_o11,lp dendronlaw15_Shapley_s11 K0⟩
 | 14=>some ⟨dendronlaw15_Shapley_i7,dendronlaw15_Shapley_o7,lp dendronlaw15_Shapley_s7 K0⟩
 | _=>none
theorem dendronlaw15_Shapley_l11 (g:dendronlaw15_Shapley_i11.V→Option (OT dendronlaw15_Shapley_o11)) (v:dendronlaw15_Shapley_i11.V):q10q tb (envL e11) 93 dendronlaw15_Shapley_lh (q3q 11 (q4q Tryz.f11) .skip) dendronlaw15_Shapley_i11 dendronlaw15_Shapley_o11 g v=dendronlaw15_Shapley_s11 g v:=by kernel_rfl
theorem dendronlaw15_Shapley_l7 (g:dendronlaw15_Shapley_i7.V→Option (OT dendronlaw15_Shapley_o7)) (v:dendronlaw15_Shapley_i7.V):q10q tb (envL e11) 93 dendronlaw15_Shapley_lh (q3q 7 (q4q Tryz.f11) .skip) dendronlaw15_Shapley_i7 dendronlaw15_Shapley_o7 g v=dendronlaw15_Shapley_s7 g v:=by kernel_rfl
theorem dendronlaw15_Shapley_eq (a_0:List RAT) (a_1:Int) (a_2:Int) (a_3:Bool):fnF tb (envL e11) Tryz.f11 dendronlaw15_Shapley_lh c11.ps c11.rs (T:=(List RAT)) (fun y=>(y.2.1)) (a_0,a_1,a_2,a_3,())=dendronlaw15_Shapley a_0 a_1 a_2 a_3:=by kernel_rfl
abbrev e12:List (Nat×Ctr):=[(20,c20),(21,c21)]
def pathshap_Given_lh:LH
 | _=>none
theorem pathshap_Given_eq (m_0:MODEL) (row_1:List CELL) (fixed_2:Int) (on_3:Bool):fnF tb (envL e12) Tryz.f12 pathshap_Given_lh c12.ps c12.rs (T:=(List RAT)×Int) (fun y=>(y.2.1,y.2.2.1)) (m_0,row_1,fixed_2,on_3,())=pathshap_Given m_0 row_1 fixed_2 on_3:=by kernel_rfl
abbrev e4:List (Nat×Ctr):=[(5,c5),(6,c6),(7,c7),(9,c9),(10,c10),(11,c11),(12,c12)]
def dendronlaw15_PathshapGivens_lh:LH
 | _=>none
theorem dendronlaw15_PathshapGivens_eq (a_0:MODEL) (a_1:List CELL) (a_2:Int) (a_3:Bool):fnF tb (envL e4) Tryz.f4 dendronlaw15_PathshapGivens_lh c4.ps c4.rs (T:=Bool) (fun y=>(y.2.1)) (a_0,a_1,a_2,a_3,())=dendronlaw15_PathshapGivens a_0 a_1 a_2 a_3:=by kernel_rfl
end Go.Proofs.YtilflbimpjokjaaGreatDoor.X
