/- Own work: part of the proof; the first line of each part says what it tells. -/
import Derived.Test.YthcpiofmhkhbeaaGreatDoorLc6


namespace Go.Proofs.YthcpiofmhkhbeaaGreatDoor.X
open Go
set_option linter.unusedVariables false
set_option linter.unusedSimpArgs false
set_option maxRecDepth 100000
abbrev e79:List (Nat×Ctr):=[]
def dendronlaw07_number_lh:LH
 | _=>none
theorem dendronlaw07_number_eq (a_0:RAT):fnF tb (envL e79) Tryz.f79 dendronlaw07_number_lh c79.ps c79.rs (T:=RAT) (fun y=>(y.2.1)) (a_0,())=dendronlaw07_number a_0:=by kernel_rfl
abbrev e45:List (Nat×Ctr):=[(79,c79)]
def dendronlaw07_Few_lh:LH
 | 14=>some ⟨dendronlaw07_Few_i7,dendronlaw07_Few_o7,lp dendronlaw07_Few_s7 K0⟩
 | 6=>some ⟨dendronlaw07_Few_i3,dendronlaw07_Few_o3,lp dendronlaw07_Few_s3 K0⟩
 | _=>none
theorem dendronlaw07_Few_l7 (g:dendronlaw07_Few_i7.V → Option (OT dendronlaw07_Few_o7)) (v:dendronlaw07_Few_i7.V):loopStep tb (envL e45) 67 dendronlaw07_Few_lh (loopAt 7 (bodyOf Tryz.f45) .skip) dendronlaw07_Few_i7 dendronlaw07_Few_o7 g v=dendronlaw07_Few_s7 g v:=by kernel_rfl
theorem dendronlaw07_Few_l3 (g:dendronlaw07_Few_i3.V → Option (OT dendronlaw07_Few_o3)) (v:dendronlaw07_Few_i3.V):loopStep tb (envL e45) 67 dendronlaw07_Few_lh (loopAt 3 (bodyOf Tryz.f45) .skip) dendronlaw07_Few_i3 dendronlaw07_Few_o3 g v=dendronlaw07_Few_s3 g v:=by kernel_rfl
theorem dendronlaw07_Few_eq (a_0:MODEL):fnF tb (envL e45) Tryz.f45 dendronlaw07_Few_lh c45.ps c45.rs (T:=MODEL) (fun y=>(y.2.1)) (a_0,())=dendronlaw07_Few a_0:=by kernel_rfl
abbrev e80:List (Nat×Ctr):=[]
def dendronlaw09_number_lh:LH
 | _=>none
theorem dendronlaw09_number_eq (a_0:RAT):fnF tb (envL e80) Tryz.f80 dendronlaw09_number_lh c80.ps c80.rs (T:=RAT) (fun y=>(y.2.1)) (a_0,())=dendronlaw09_number a_0:=by kernel_rfl
abbrev e46:List (Nat×Ctr):=[(80,c80)]
def dendronlaw09_Few_lh:LH
 | 6=>some ⟨dendronlaw09_Few_i3,dendronlaw09_Few_o3,lp dendronlaw09_Few_s3 K0⟩
 | _=>none
theorem dendronlaw09_Few_l3 (g:dendronlaw09_Few_i3.V → Option (OT dendronlaw09_Few_o3)) (v:dendronlaw09_Few_i3.V):loopStep tb (envL e46) 32 dendronlaw09_Few_lh (loopAt 3 (bodyOf Tryz.f46) .skip) dendronlaw09_Few_i3 dendronlaw09_Few_o3 g v=dendronlaw09_Few_s3 g v:=by kernel_rfl
theorem dendronlaw09_Few_eq (l_0:List CELL) (n_1:Int):fnF tb (envL e46) Tryz.f46 dendronlaw09_Few_lh c46.ps c46.rs (T:=(List CELL)) (fun y=>(y.2.1)) (l_0,n_1,())=dendronlaw09_Few l_0 n_1:=by kernel_rfl
abbrev e10:List (Nat×Ctr):=[(45,c45),(46,c46)]
def dendronlaw11_Small_lh:LH
 | _=>none
theorem dendronlaw11_Small_eq (m_0:MODEL) (row_1:List CELL):fnF tb (envL e10) Tryz.f10 dendronlaw11_Small_lh c10.ps c10.rs (T:=MODEL×(List CELL)) (fun y=>(y.2.1,y.2.2.1)) (m_0,row_1,())=dendronlaw11_Small m_0 row_1:=by kernel_rfl
abbrev e98:List (Nat×Ctr):=[]
def model_Fits_lh:LH
 | 18=>some ⟨model_Fits_i9,model_Fits_o9,lp model_Fits_s9 K0⟩
 | 8=>some ⟨model_Fits_i4,model_Fits_o4,lp model_Fits_s4 K0⟩
 | _=>none
theorem model_Fits_l9 (g:model_Fits_i9.V → Option (OT model_Fits_o9)) (v:model_Fits_i9.V):loopStep tb (envL e98) 72 model_Fits_lh (loopAt 9 (bodyOf Tryz.f98) .skip) model_Fits_i9 model_Fits_o9 g v=model_Fits_s9 g v:=by kernel_rfl
theorem model_Fits_l4 (g:model_Fits_i4.V → Option (OT model_Fits_o4)) (v:model_Fits_i4.V):loopStep tb (envL e98) 72 model_Fits_lh (loopAt 4 (bodyOf Tryz.f98) .skip) model_Fits_i4 model_Fits_o4 g v=model_Fits_s4 g v:=by kernel_rfl
theorem model_Fits_eq (a_0:MODEL):fnF tb (envL e98) Tryz.f98 model_Fits_lh c98.ps c98.rs (T:=Bool) (fun y=>(y.2.1)) (a_0,())=model_Fits a_0:=by kernel_rfl
abbrev e99:List (Nat×Ctr):=[]
def valid_ranges_lh:LH
 | 4=>some ⟨valid_ranges_i2,valid_ranges_o2,lp valid_ranges_s2 K0⟩
 | _=>none
theorem valid_ranges_l2 (g:valid_ranges_i2.V → Option (OT valid_ranges_o2)) (v:valid_ranges_i2.V):loopStep tb (envL e99) 52 valid_ranges_lh (loopAt 2 (bodyOf Tryz.f99) .skip) valid_ranges_i2 valid_ranges_o2 g v=valid_ranges_s2 g v:=by kernel_rfl
theorem valid_ranges_eq (t_0:List NODE) (features_1:Int):fnF tb (envL e99) Tryz.f99 valid_ranges_lh c99.ps c99.rs (T:=Int×Int) (fun y=>(y.2.1,y.2.2.1)) (t_0,features_1,())=valid_ranges t_0 features_1:=by kernel_rfl
abbrev e100:List (Nat×Ctr):=[]
def valid_shape_lh:LH
 | 6=>some ⟨valid_shape_i3,valid_shape_o3,lp valid_shape_s3 K0⟩
 | 20=>some ⟨valid_shape_i10,valid_shape_o10,lp valid_shape_s10 K0⟩
 | 34=>some ⟨valid_shape_i17,valid_shape_o17,lp valid_shape_s17 K0⟩
 | 50=>some ⟨valid_shape_i25,valid_shape_o25,lp valid_shape_s25 K0⟩
 | _=>none
theorem valid_shape_l3 (g:valid_shape_i3.V → Option (OT valid_shape_o3)) (v:valid_shape_i3.V):loopStep tb (envL e100) 103 valid_shape_lh (loopAt 3 (bodyOf Tryz.f100) .skip) valid_shape_i3 valid_shape_o3 g v=valid_shape_s3 g v:=by kernel_rfl
theorem valid_shape_l10 (g:valid_shape_i10.V → Option (OT valid_shape_o10)) (v:valid_shape_i10.V):loopStep tb (envL e100) 103 valid_shape_lh (loopAt 10 (bodyOf Tryz.f100) .skip) valid_shape_i10 valid_shape_o10 g v=valid_shape_s10 g v:=by kernel_rfl
theorem valid_shape_l17 (g:valid_shape_i17.V → Option (OT valid_shape_o17)) (v:valid_shape_i17.V):loopStep tb (envL e100) 103 valid_shape_lh (loopAt 17 (bodyOf Tryz.f100) .skip) valid_shape_i17 valid_shape_o17 g v=valid_shape_s17 g v:=by kernel_rfl
theorem valid_shape_l25 (g:valid_shape_i25.V → Option (OT valid_shape_o25)) (v:valid_shape_i25.V):loopStep tb (envL e100) 103 valid_shape_lh (loopAt 25 (bodyOf Tryz.f100) .skip) valid_shape_i25 valid_shape_o25 g v=valid_shape_s25 g v:=by kernel_rfl
theorem valid_shape_eq (a_0:List NODE):fnF tb (envL e100) Tryz.f100 valid_shape_lh c100.ps c100.rs (T:=Int×Int) (fun y=>(y.2.1,y.2.2.1)) (a_0,())=valid_shape a_0:=by kernel_rfl
abbrev e91:List (Nat×Ctr):=[]
def nat_trim_lh:LH
 | 4=>some ⟨nat_trim_i2,nat_trim_o2,lp nat_trim_s2 K0⟩
 | _=>none
theorem nat_trim_l2 (g:nat_trim_i2.V → Option (OT nat_trim_o2)) (v:nat_trim_i2.V):loopStep tb (envL e91) 23 nat_trim_lh (loopAt 2 (bodyOf Tryz.f91) .skip) nat_trim_i2 nat_trim_o2 g v=nat_trim_s2 g v:=by kernel_rfl
theorem nat_trim_eq (a_0:List Int):fnF tb (envL e91) Tryz.f91 nat_trim_lh c91.ps c91.rs (T:=(List Int)) (fun y=>(y.2.1)) (a_0,())=nat_trim a_0:=by kernel_rfl
abbrev e58:List (Nat×Ctr):=[(91,c91)]
def nat_Of_lh:LH
 | _=>none
theorem nat_Of_eq (n_0:Int):fnF tb (envL e58) Tryz.f58 nat_Of_lh c58.ps c58.rs (T:=(List Int)) (fun y=>(y.2.1)) (n_0,())=nat_Of n_0:=by kernel_rfl
abbrev e21:List (Nat×Ctr):=[(58,c58)]
def ratio_Zero_lh:LH
 | _=>none
theorem ratio_Zero_eq :fnF tb (envL e21) Tryz.f21 ratio_Zero_lh c21.ps c21.rs (T:=RAT) (fun y=>(y.2.1)) ()=ratio_Zero :=by kernel_rfl
abbrev e83:List (Nat×Ctr):=[(91,c91)]
def nat_Clean_lh:LH
 | 6=>some ⟨nat_Clean_i3,nat_Clean_o3,lp nat_Clean_s3 K0⟩
 | _=>none
theorem nat_Clean_l3 (g:nat_Clean_i3.V → Option (OT nat_Clean_o3)) (v:nat_Clean_i3.V):loopStep tb (envL e83) 24 nat_Clean_lh (loopAt 3 (bodyOf Tryz.f83) .skip) nat_Clean_i3 nat_Clean_o3 g v=nat_Clean_s3 g v:=by kernel_rfl
theorem nat_Clean_eq (a_0:List Int):fnF tb (envL e83) Tryz.f83 nat_Clean_lh c83.ps c83.rs (T:=(List Int)) (fun y=>(y.2.1)) (a_0,())=nat_Clean a_0:=by kernel_rfl
abbrev e152:List (Nat×Ctr):=[(83,c83)]
def nat_To_lh:LH
 | _=>none
theorem nat_To_eq (a_0:List Int):fnF tb (envL e152) Tryz.f152 nat_To_lh c152.ps c152.rs (T:=Int×Bool) (fun y=>(y.2.1,y.2.2.1)) (a_0,())=nat_To a_0:=by kernel_rfl
abbrev e120:List (Nat×Ctr):=[(58,c58),(152,c152)]
def nat_euclid_lh:LH
 | 6=>some ⟨nat_euclid_i3,nat_euclid_o3,lp nat_euclid_s3 K0⟩
 | _=>none
theorem nat_euclid_l3 (g:nat_euclid_i3.V → Option (OT nat_euclid_o3)) (v:nat_euclid_i3.V):loopStep tb (envL e120) 27 nat_euclid_lh (loopAt 3 (bodyOf Tryz.f120) .skip) nat_euclid_i3 nat_euclid_o3 g v=nat_euclid_s3 g v:=by kernel_rfl
theorem nat_euclid_eq (a_0:List Int) (b_1:List Int):fnF tb (envL e120) Tryz.f120 nat_euclid_lh c120.ps c120.rs (T:=(List Int)) (fun y=>(y.2.1)) (a_0,b_1,())=nat_euclid a_0 b_1:=by kernel_rfl
abbrev e121:List (Nat×Ctr):=[(153,c153)]
def nat_zeros_lh:LH
 | 6=>some ⟨nat_zeros_i3,nat_zeros_o3,lp nat_zeros_s3 K0⟩
 | _=>none
theorem nat_zeros_l3 (g:nat_zeros_i3.V → Option (OT nat_zeros_o3)) (v:nat_zeros_i3.V):loopStep tb (envL e121) 24 nat_zeros_lh (loopAt 3 (bodyOf Tryz.f121) .skip) nat_zeros_i3 nat_zeros_o3 g v=nat_zeros_s3 g v:=by kernel_rfl
theorem nat_zeros_eq (a_0:List Int):fnF tb (envL e121) Tryz.f121 nat_zeros_lh c121.ps c121.rs (T:=Int) (fun y=>(y.2.1)) (a_0,())=nat_zeros a_0:=by kernel_rfl
abbrev e129:List (Nat×Ctr):=[]
def nat_limb_lh:LH
 | _=>none
theorem nat_limb_eq (a_0:List Int) (i_1:Int):fnF tb (envL e129) Tryz.f129 nat_limb_lh c129.ps c129.rs (T:=Int) (fun y=>(y.2.1)) (a_0,i_1,())=nat_limb a_0 i_1:=by kernel_rfl
abbrev e122:List (Nat×Ctr):=[(91,c91),(129,c129)]
def nat_shr_lh:LH
 | 12=>some ⟨nat_shr_i6,nat_shr_o6,lp nat_shr_s6 K0⟩
 | _=>none
theorem nat_shr_l6 (g:nat_shr_i6.V → Option (OT nat_shr_o6)) (v:nat_shr_i6.V):loopStep tb (envL e122) 50 nat_shr_lh (loopAt 6 (bodyOf Tryz.f122) .skip) nat_shr_i6 nat_shr_o6 g v=nat_shr_s6 g v:=by kernel_rfl
theorem nat_shr_eq (a_0:List Int) (n_1:Int):fnF tb (envL e122) Tryz.f122 nat_shr_lh c122.ps c122.rs (T:=(List Int)) (fun y=>(y.2.1)) (a_0,n_1,())=nat_shr a_0 n_1:=by kernel_rfl
abbrev e123:List (Nat×Ctr):=[]
def nat_order_lh:LH
 | 12=>some ⟨nat_order_i6,nat_order_o6,lp nat_order_s6 K0⟩
 | _=>none
theorem nat_order_l6 (g:nat_order_i6.V → Option (OT nat_order_o6)) (v:nat_order_i6.V):loopStep tb (envL e123) 45 nat_order_lh (loopAt 6 (bodyOf Tryz.f123) .skip) nat_order_i6 nat_order_o6 g v=nat_order_s6 g v:=by kernel_rfl
theorem nat_order_eq (a_0:List Int) (b_1:List Int):fnF tb (envL e123) Tryz.f123 nat_order_lh c123.ps c123.rs (T:=Int) (fun y=>(y.2.1)) (a_0,b_1,())=nat_order a_0 b_1:=by kernel_rfl
abbrev e124:List (Nat×Ctr):=[(91,c91)]
def nat_shl_lh:LH
 | 8=>some ⟨nat_shl_i4,nat_shl_o4,lp nat_shl_s4 K0⟩
 | _=>none
theorem nat_shl_l4 (g:nat_shl_i4.V → Option (OT nat_shl_o4)) (v:nat_shl_i4.V):loopStep tb (envL e124) 51 nat_shl_lh (loopAt 4 (bodyOf Tryz.f124) .skip) nat_shl_i4 nat_shl_o4 g v=nat_shl_s4 g v:=by kernel_rfl
theorem nat_shl_eq (a_0:List Int) (n_1:Int):fnF tb (envL e124) Tryz.f124 nat_shl_lh c124.ps c124.rs (T:=(List Int)) (fun y=>(y.2.1)) (a_0,n_1,())=nat_shl a_0 n_1:=by kernel_rfl
abbrev e127:List (Nat×Ctr):=[(91,c91)]
def nat_small_lh:LH
 | 8=>some ⟨nat_small_i4,nat_small_o4,lp nat_small_s4 K0⟩
 | _=>none
theorem nat_small_l4 (g:nat_small_i4.V → Option (OT nat_small_o4)) (v:nat_small_i4.V):loopStep tb (envL e127) 38 nat_small_lh (loopAt 4 (bodyOf Tryz.f127) .skip) nat_small_i4 nat_small_o4 g v=nat_small_s4 g v:=by kernel_rfl
theorem nat_small_eq (a_0:List Int) (d_1:Int):fnF tb (envL e127) Tryz.f127 nat_small_lh c127.ps c127.rs (T:=(List Int)×Int) (fun y=>(y.2.1,y.2.2.1)) (a_0,d_1,())=nat_small a_0 d_1:=by kernel_rfl
abbrev e154:List (Nat×Ctr):=[(161,c161)]
def bits_LeadingZeros32_lh:LH
 | _=>none
theorem bits_LeadingZeros32_eq (x_0:Int):fnF tb (envL e154) Tryz.f154 bits_LeadingZeros32_lh c154.ps c154.rs (T:=Int) (fun y=>(y.2.1)) (x_0,())=bits_LeadingZeros32 x_0:=by kernel_rfl
abbrev e162:List (Nat×Ctr):=[(129,c129)]
def nat_take_lh:LH
 | 6=>some ⟨nat_take_i3,nat_take_o3,lp nat_take_s3 K0⟩
 | _=>none
theorem nat_take_l3 (g:nat_take_i3.V → Option (OT nat_take_o3)) (v:nat_take_i3.V):loopStep tb (envL e162) 46 nat_take_lh (loopAt 3 (bodyOf Tryz.f162) .skip) nat_take_i3 nat_take_o3 g v=nat_take_s3 g v:=by kernel_rfl
theorem nat_take_eq (u_0:List Int) (v_1:List Int) (times_2:Int):fnF tb (envL e162) Tryz.f162 nat_take_lh c162.ps c162.rs (T:=(List Int)×Bool) (fun y=>(y.1.1,y.2.1)) (u_0,v_1,times_2,())=nat_take u_0 v_1 times_2:=by kernel_rfl
abbrev e163:List (Nat×Ctr):=[(129,c129)]
def nat_give_lh:LH
 | 4=>some ⟨nat_give_i2,nat_give_o2,lp nat_give_s2 K0⟩
 | _=>none
theorem nat_give_l2 (g:nat_give_i2.V → Option (OT nat_give_o2)) (v:nat_give_i2.V):loopStep tb (envL e163) 29 nat_give_lh (loopAt 2 (bodyOf Tryz.f163) .skip) nat_give_i2 nat_give_o2 g v=nat_give_s2 g v:=by kernel_rfl
theorem nat_give_eq (u_0:List Int) (v_1:List Int):fnF tb (envL e163) Tryz.f163 nat_give_lh c163.ps c163.rs (T:=(List Int)) (fun y=>(y.1.1)) (u_0,v_1,())=nat_give u_0 v_1:=by kernel_rfl
abbrev e155:List (Nat×Ctr):=[(162,c162),(163,c163)]
def nat_digit_lh:LH
 | 8=>some ⟨nat_digit_i4,nat_digit_o4,lp nat_digit_s4 K0⟩
 | _=>none
theorem nat_digit_l4 (g:nat_digit_i4.V → Option (OT nat_digit_o4)) (v:nat_digit_i4.V):loopStep tb (envL e155) 77 nat_digit_lh (loopAt 4 (bodyOf Tryz.f155) .skip) nat_digit_i4 nat_digit_o4 g v=nat_digit_s4 g v:=by kernel_rfl
theorem nat_digit_eq (a_0:List Int) (a_1:List Int):fnF tb (envL e155) Tryz.f155 nat_digit_lh c155.ps c155.rs (T:=(List Int)×Int) (fun y=>(y.1.1,y.2.1)) (a_0,a_1,())=nat_digit a_0 a_1:=by kernel_rfl
abbrev e128:List (Nat×Ctr):=[(91,c91),(122,c122),(124,c124),(154,c154),(155,c155)]
def nat_long_lh:LH
 | 14=>some ⟨nat_long_i7,nat_long_o7,lp nat_long_s7 K0⟩
 | _=>none
theorem nat_long_l7 (g:nat_long_i7.V → Option (OT nat_long_o7)) (v:nat_long_i7.V):loopStep tb (envL e128) 64 nat_long_lh (loopAt 7 (bodyOf Tryz.f128) .skip) nat_long_i7 nat_long_o7 g v=nat_long_s7 g v:=by kernel_rfl
theorem nat_long_eq (a_0:List Int) (b_1:List Int):fnF tb (envL e128) Tryz.f128 nat_long_lh c128.ps c128.rs (T:=(List Int)×(List Int)) (fun y=>(y.2.1,y.2.2.1)) (a_0,b_1,())=nat_long a_0 b_1:=by kernel_rfl
abbrev e86:List (Nat×Ctr):=[(58,c58),(83,c83),(123,c123),(127,c127),(128,c128)]
def nat_DivMod_lh:LH
 | _=>none
theorem nat_DivMod_eq (a_0:List Int) (b_1:List Int):fnF tb (envL e86) Tryz.f86 nat_DivMod_lh c86.ps c86.rs (T:=(List Int)×(List Int)×Int) (fun y=>(y.2.1,y.2.2.1,y.2.2.2.1)) (a_0,b_1,())=nat_DivMod a_0 b_1:=by kernel_rfl
abbrev e125:List (Nat×Ctr):=[(86,c86)]
def nat_rest_lh:LH
 | _=>none
theorem nat_rest_eq (a_0:List Int) (b_1:List Int):fnF tb (envL e125) Tryz.f125 nat_rest_lh c125.ps c125.rs (T:=(List Int)×(List Int)) (fun y=>(y.2.1,y.2.2.1)) (a_0,b_1,())=nat_rest a_0 b_1:=by kernel_rfl
abbrev e126:List (Nat×Ctr):=[(91,c91),(129,c129)]
def nat_minus_lh:LH
 | 8=>some ⟨nat_minus_i4,nat_minus_o4,lp nat_minus_s4 K0⟩
 | _=>none
theorem nat_minus_l4 (g:nat_minus_i4.V → Option (OT nat_minus_o4)) (v:nat_minus_i4.V):loopStep tb (envL e126) 39 nat_minus_lh (loopAt 4 (bodyOf Tryz.f126) .skip) nat_minus_i4 nat_minus_o4 g v=nat_minus_s4 g v:=by kernel_rfl
theorem nat_minus_eq (a_0:List Int) (b_1:List Int):fnF tb (envL e126) Tryz.f126 nat_minus_lh c126.ps c126.rs (T:=(List Int)) (fun y=>(y.2.1)) (a_0,b_1,())=nat_minus a_0 b_1:=by kernel_rfl
abbrev e85:List (Nat×Ctr):=[(83,c83),(120,c120),(121,c121),(122,c122),(123,c123),(124,c124),(125,c125),(126,c126)]
def nat_Gcd_lh:LH
 | 20=>some ⟨nat_Gcd_i10,nat_Gcd_o10,lp nat_Gcd_s10 K0⟩
 | _=>none
theorem nat_Gcd_l10 (g:nat_Gcd_i10.V → Option (OT nat_Gcd_o10)) (v:nat_Gcd_i10.V):loopStep tb (envL e85) 86 nat_Gcd_lh (loopAt 10 (bodyOf Tryz.f85) .skip) nat_Gcd_i10 nat_Gcd_o10 g v=nat_Gcd_s10 g v:=by kernel_rfl
theorem nat_Gcd_eq (a_0:List Int) (a_1:List Int):fnF tb (envL e85) Tryz.f85 nat_Gcd_lh c85.ps c85.rs (T:=(List Int)) (fun y=>(y.2.1)) (a_0,a_1,())=nat_Gcd a_0 a_1:=by kernel_rfl
abbrev e50:List (Nat×Ctr):=[(58,c58),(85,c85),(86,c86)]
def ratio_form_lh:LH
 | _=>none
theorem ratio_form_eq (num_0:WH) (den_1:List Int):fnF tb (envL e50) Tryz.f50 ratio_form_lh c50.ps c50.rs (T:=RAT) (fun y=>(y.2.1)) (num_0,den_1,())=ratio_form num_0 den_1:=by kernel_rfl
abbrev e87:List (Nat×Ctr):=[]
def whole_sign_lh:LH
 | _=>none
theorem whole_sign_eq (neg_0:Bool) (abs_1:List Int):fnF tb (envL e87) Tryz.f87 whole_sign_lh c87.ps c87.rs (T:=WH) (fun y=>(y.2.1)) (neg_0,abs_1,())=whole_sign neg_0 abs_1:=by kernel_rfl
abbrev e84:List (Nat×Ctr):=[(83,c83),(87,c87)]
def whole_Clean_lh:LH
 | _=>none
theorem whole_Clean_eq (a_0:WH):fnF tb (envL e84) Tryz.f84 whole_Clean_lh c84.ps c84.rs (T:=WH) (fun y=>(y.2.1)) (a_0,())=whole_Clean a_0:=by kernel_rfl
abbrev e49:List (Nat×Ctr):=[(21,c21),(50,c50),(83,c83),(84,c84)]
def ratio_Clean_lh:LH
 | _=>none
theorem ratio_Clean_eq (a_0:RAT):fnF tb (envL e49) Tryz.f49 ratio_Clean_lh c49.ps c49.rs (T:=RAT) (fun y=>(y.2.1)) (a_0,())=ratio_Clean a_0:=by kernel_rfl
abbrev e92:List (Nat×Ctr):=[(84,c84)]
def whole_Sign_lh:LH
 | _=>none
theorem whole_Sign_eq (a_0:WH):fnF tb (envL e92) Tryz.f92 whole_Sign_lh c92.ps c92.rs (T:=Int) (fun y=>(y.2.1)) (a_0,())=whole_Sign a_0:=by kernel_rfl
abbrev e130:List (Nat×Ctr):=[(49,c49),(92,c92)]
def ratio_Sign_lh:LH
 | _=>none
theorem ratio_Sign_eq (a_0:RAT):fnF tb (envL e130) Tryz.f130 ratio_Sign_lh c130.ps c130.rs (T:=Int) (fun y=>(y.2.1)) (a_0,())=ratio_Sign a_0:=by kernel_rfl
abbrev e101:List (Nat×Ctr):=[(130,c130)]
def valid_covers_lh:LH
 | 4=>some ⟨valid_covers_i2,valid_covers_o2,lp valid_covers_s2 K0⟩
 | _=>none
theorem valid_covers_l2 (g:valid_covers_i2.V → Option (OT valid_covers_o2)) (v:valid_covers_i2.V):loopStep tb (envL e101) 19 valid_covers_lh (loopAt 2 (bodyOf Tryz.f101) .skip) valid_covers_i2 valid_covers_o2 g v=valid_covers_s2 g v:=by kernel_rfl
theorem valid_covers_eq (t_0:List NODE):fnF tb (envL e101) Tryz.f101 valid_covers_lh c101.ps c101.rs (T:=Int×Int) (fun y=>(y.2.1,y.2.2.1)) (t_0,())=valid_covers t_0:=by kernel_rfl
abbrev e88:List (Nat×Ctr):=[(83,c83),(91,c91),(129,c129)]
def nat_Add_lh:LH
 | 10=>some ⟨nat_Add_i5,nat_Add_o5,lp nat_Add_s5 K0⟩
 | _=>none
theorem nat_Add_l5 (g:nat_Add_i5.V → Option (OT nat_Add_o5)) (v:nat_Add_i5.V):loopStep tb (envL e88) 43 nat_Add_lh (loopAt 5 (bodyOf Tryz.f88) .skip) nat_Add_i5 nat_Add_o5 g v=nat_Add_s5 g v:=by kernel_rfl
theorem nat_Add_eq (a_0:List Int) (b_1:List Int):fnF tb (envL e88) Tryz.f88 nat_Add_lh c88.ps c88.rs (T:=(List Int)) (fun y=>(y.2.1)) (a_0,b_1,())=nat_Add a_0 b_1:=by kernel_rfl
abbrev e89:List (Nat×Ctr):=[(83,c83),(123,c123)]
def nat_Cmp_lh:LH
 | _=>none
theorem nat_Cmp_eq (a_0:List Int) (b_1:List Int):fnF tb (envL e89) Tryz.f89 nat_Cmp_lh c89.ps c89.rs (T:=Int) (fun y=>(y.2.1)) (a_0,b_1,())=nat_Cmp a_0 b_1:=by kernel_rfl
abbrev e90:List (Nat×Ctr):=[(83,c83),(123,c123),(126,c126)]
def nat_Sub_lh:LH
 | _=>none
theorem nat_Sub_eq (a_0:List Int) (b_1:List Int):fnF tb (envL e90) Tryz.f90 nat_Sub_lh c90.ps c90.rs (T:=(List Int)×Int) (fun y=>(y.2.1,y.2.2.1)) (a_0,b_1,())=nat_Sub a_0 b_1:=by kernel_rfl
abbrev e51:List (Nat×Ctr):=[(84,c84),(87,c87),(88,c88),(89,c89),(90,c90)]
def whole_Add_lh:LH
 | _=>none
theorem whole_Add_eq (a_0:WH) (b_1:WH):fnF tb (envL e51) Tryz.f51 whole_Add_lh c51.ps c51.rs (T:=WH) (fun y=>(y.2.1)) (a_0,b_1,())=whole_Add a_0 b_1:=by kernel_rfl
abbrev e54:List (Nat×Ctr):=[(83,c83),(91,c91)]
def nat_Mul_lh:LH
 | 16=>some ⟨nat_Mul_i8,nat_Mul_o8,lp nat_Mul_s8 K0⟩
 | 8=>some ⟨nat_Mul_i4,nat_Mul_o4,lp nat_Mul_s4 K0⟩
 | _=>none
theorem nat_Mul_l8 (g:nat_Mul_i8.V → Option (OT nat_Mul_o8)) (v:nat_Mul_i8.V):loopStep tb (envL e54) 67 nat_Mul_lh (loopAt 8 (bodyOf Tryz.f54) .skip) nat_Mul_i8 nat_Mul_o8 g v=nat_Mul_s8 g v:=by kernel_rfl
theorem nat_Mul_l4 (g:nat_Mul_i4.V → Option (OT nat_Mul_o4)) (v:nat_Mul_i4.V):loopStep tb (envL e54) 67 nat_Mul_lh (loopAt 4 (bodyOf Tryz.f54) .skip) nat_Mul_i4 nat_Mul_o4 g v=nat_Mul_s4 g v:=by kernel_rfl
theorem nat_Mul_eq (a_0:List Int) (a_1:List Int):fnF tb (envL e54) Tryz.f54 nat_Mul_lh c54.ps c54.rs (T:=(List Int)) (fun y=>(y.2.1)) (a_0,a_1,())=nat_Mul a_0 a_1:=by kernel_rfl
abbrev e52:List (Nat×Ctr):=[(54,c54),(84,c84),(87,c87)]
def whole_Mul_lh:LH
 | _=>none
theorem whole_Mul_eq (a_0:WH) (b_1:WH):fnF tb (envL e52) Tryz.f52 whole_Mul_lh c52.ps c52.rs (T:=WH) (fun y=>(y.2.1)) (a_0,b_1,())=whole_Mul a_0 b_1:=by kernel_rfl
abbrev e53:List (Nat×Ctr):=[]
def ratio_den_lh:LH
 | _=>none
theorem ratio_den_eq (a_0:RAT):fnF tb (envL e53) Tryz.f53 ratio_den_lh c53.ps c53.rs (T:=WH) (fun y=>(y.2.1)) (a_0,())=ratio_den a_0:=by kernel_rfl
abbrev e14:List (Nat×Ctr):=[(49,c49),(50,c50),(51,c51),(52,c52),(53,c53),(54,c54)]
def ratio_Add_lh:LH
 | _=>none
theorem ratio_Add_eq (a_0:RAT) (b_1:RAT):fnF tb (envL e14) Tryz.f14 ratio_Add_lh c14.ps c14.rs (T:=RAT) (fun y=>(y.2.1)) (a_0,b_1,())=ratio_Add a_0 b_1:=by kernel_rfl
abbrev e74:List (Nat×Ctr):=[(84,c84),(89,c89)]
def whole_Cmp_lh:LH
 | _=>none
theorem whole_Cmp_eq (a_0:WH) (b_1:WH):fnF tb (envL e74) Tryz.f74 whole_Cmp_lh c74.ps c74.rs (T:=Int) (fun y=>(y.2.1)) (a_0,b_1,())=whole_Cmp a_0 b_1:=by kernel_rfl
abbrev e40:List (Nat×Ctr):=[(49,c49),(52,c52),(53,c53),(74,c74)]
def ratio_Cmp_lh:LH
 | _=>none
theorem ratio_Cmp_eq (a_0:RAT) (b_1:RAT):fnF tb (envL e40) Tryz.f40 ratio_Cmp_lh c40.ps c40.rs (T:=Int) (fun y=>(y.2.1)) (a_0,b_1,())=ratio_Cmp a_0 b_1:=by kernel_rfl
abbrev e30:List (Nat×Ctr):=[(40,c40)]
def ratio_Same_lh:LH
 | _=>none
theorem ratio_Same_eq (a_0:RAT) (b_1:RAT):fnF tb (envL e30) Tryz.f30 ratio_Same_lh c30.ps c30.rs (T:=Bool) (fun y=>(y.2.1)) (a_0,b_1,())=ratio_Same a_0 b_1:=by kernel_rfl
abbrev e102:List (Nat×Ctr):=[(14,c14),(30,c30)]
def valid_sums_lh:LH
 | 4=>some ⟨valid_sums_i2,valid_sums_o2,lp valid_sums_s2 K0⟩
 | _=>none
theorem valid_sums_l2 (g:valid_sums_i2.V → Option (OT valid_sums_o2)) (v:valid_sums_i2.V):loopStep tb (envL e102) 37 valid_sums_lh (loopAt 2 (bodyOf Tryz.f102) .skip) valid_sums_i2 valid_sums_o2 g v=valid_sums_s2 g v:=by kernel_rfl
theorem valid_sums_eq (t_0:List NODE):fnF tb (envL e102) Tryz.f102 valid_sums_lh c102.ps c102.rs (T:=Int×Int) (fun y=>(y.2.1,y.2.2.1)) (t_0,())=valid_sums t_0:=by kernel_rfl
abbrev e103:List (Nat×Ctr):=[]
def valid_fault_lh:LH
 | _=>none
theorem valid_fault_eq (e_0:Int) (tree_1:Int) (node_2:Int):fnF tb (envL e103) Tryz.f103 valid_fault_lh c103.ps c103.rs (T:=(Int×Int×Int×Int)) (fun y=>(y.2.1)) (e_0,tree_1,node_2,())=valid_fault e_0 tree_1 node_2:=by kernel_rfl
abbrev e64:List (Nat×Ctr):=[(98,c98),(99,c99),(100,c100),(101,c101),(102,c102),(103,c103)]
def valid_Check_lh:LH
 | 14=>some ⟨valid_Check_i7,valid_Check_o7,lp valid_Check_s7 K0⟩
 | 8=>some ⟨valid_Check_i4,valid_Check_o4,lp valid_Check_s4 K0⟩
 | _=>none
theorem valid_Check_l7 (g:valid_Check_i7.V → Option (OT valid_Check_o7)) (v:valid_Check_i7.V):loopStep tb (envL e64) 63 valid_Check_lh (loopAt 7 (bodyOf Tryz.f64) .skip) valid_Check_i7 valid_Check_o7 g v=valid_Check_s7 g v:=by kernel_rfl
theorem valid_Check_l4 (g:valid_Check_i4.V → Option (OT valid_Check_o4)) (v:valid_Check_i4.V):loopStep tb (envL e64) 63 valid_Check_lh (loopAt 4 (bodyOf Tryz.f64) .skip) valid_Check_i4 valid_Check_o4 g v=valid_Check_s4 g v:=by kernel_rfl
theorem valid_Check_eq (m_0:MODEL):fnF tb (envL e64) Tryz.f64 valid_Check_lh c64.ps c64.rs (T:=(Int×Int×Int×Int)) (fun y=>(y.2.1)) (m_0,())=valid_Check m_0:=by kernel_rfl
abbrev e26:List (Nat×Ctr):=[(64,c64)]
def valid_Ok_lh:LH
 | _=>none
theorem valid_Ok_eq (m_0:MODEL):fnF tb (envL e26) Tryz.f26 valid_Ok_lh c26.ps c26.rs (T:=Bool) (fun y=>(y.2.1)) (m_0,())=valid_Ok m_0:=by kernel_rfl
abbrev e75:List (Nat×Ctr):=[(26,c26)]
def route_fits_lh:LH
 | _=>none
theorem route_fits_eq (m_0:MODEL) (row_1:List CELL):fnF tb (envL e75) Tryz.f75 route_fits_lh c75.ps c75.rs (T:=Int) (fun y=>(y.2.1)) (m_0,row_1,())=route_fits m_0 row_1:=by kernel_rfl
abbrev e47:List (Nat×Ctr):=[(75,c75)]
def route_Fits_lh:LH
 | _=>none
theorem route_Fits_eq (m_0:MODEL) (row_1:List CELL):fnF tb (envL e47) Tryz.f47 route_Fits_lh c47.ps c47.rs (T:=Int) (fun y=>(y.2.1)) (m_0,row_1,())=route_Fits m_0 row_1:=by kernel_rfl
abbrev e81:List (Nat×Ctr):=[(21,c21)]
def pathshap_zeros_lh:LH
 | 6=>some ⟨pathshap_zeros_i3,pathshap_zeros_o3,lp pathshap_zeros_s3 K0⟩
 | _=>none
theorem pathshap_zeros_l3 (g:pathshap_zeros_i3.V → Option (OT pathshap_zeros_o3)) (v:pathshap_zeros_i3.V):loopStep tb (envL e81) 13 pathshap_zeros_lh (loopAt 3 (bodyOf Tryz.f81) .skip) pathshap_zeros_i3 pathshap_zeros_o3 g v=pathshap_zeros_s3 g v:=by kernel_rfl
theorem pathshap_zeros_eq (n_0:Int):fnF tb (envL e81) Tryz.f81 pathshap_zeros_lh c81.ps c81.rs (T:=(List RAT)) (fun y=>(y.2.1)) (n_0,())=pathshap_zeros n_0:=by kernel_rfl
abbrev e60:List (Nat×Ctr):=[(58,c58),(87,c87)]
def whole_Of_lh:LH
 | _=>none
theorem whole_Of_eq (n_0:Int):fnF tb (envL e60) Tryz.f60 whole_Of_lh c60.ps c60.rs (T:=WH) (fun y=>(y.2.1)) (n_0,())=whole_Of n_0:=by kernel_rfl
abbrev e55:List (Nat×Ctr):=[(58,c58),(60,c60)]
def ratio_Of_lh:LH
 | _=>none
theorem ratio_Of_eq (n_0:Int):fnF tb (envL e55) Tryz.f55 ratio_Of_lh c55.ps c55.rs (T:=RAT) (fun y=>(y.2.1)) (n_0,())=ratio_Of n_0:=by kernel_rfl
abbrev e56:List (Nat×Ctr):=[(55,c55)]
def ratio_One_lh:LH
 | _=>none
theorem ratio_One_eq :fnF tb (envL e56) Tryz.f56 ratio_One_lh c56.ps c56.rs (T:=RAT) (fun y=>(y.2.1)) ()=ratio_One :=by kernel_rfl
abbrev e116:List (Nat×Ctr):=[(56,c56)]
def pathshap_New_lh:LH
 | _=>none
theorem pathshap_New_eq :fnFB tb (envL e116) Tryz.f116 pathshap_New_lh w116 c116.ps c116.rs (T:=(List (Int×RAT×CELL))) (fun y=>(y.2.1)) ()=pathshap_New :=by kernel_rfl
abbrev e22:List (Nat×Ctr):=[(49,c49),(50,c50),(52,c52),(54,c54)]
def ratio_Mul_lh:LH
 | _=>none
theorem ratio_Mul_eq (a_0:RAT) (b_1:RAT):fnF tb (envL e22) Tryz.f22 ratio_Mul_lh c22.ps c22.rs (T:=RAT) (fun y=>(y.2.1)) (a_0,b_1,())=ratio_Mul a_0 b_1:=by kernel_rfl
abbrev e146:List (Nat×Ctr):=[]
def pathshap_Path_Find_lh:LH
 | 8=>some ⟨pathshap_Path_Find_i4,pathshap_Path_Find_o4,lp pathshap_Path_Find_s4 K0⟩
 | _=>none
theorem pathshap_Path_Find_l4 (g:pathshap_Path_Find_i4.V → Option (OT pathshap_Path_Find_o4)) (v:pathshap_Path_Find_i4.V):loopStep tb (envL e146) 29 pathshap_Path_Find_lh (loopAt 4 (bodyOf Tryz.f146) .skip) pathshap_Path_Find_i4 pathshap_Path_Find_o4 g v=pathshap_Path_Find_s4 g v:=by kernel_rfl
theorem pathshap_Path_Find_eq (feature_0:Int) (b_1:List (Int×RAT×CELL)):fnFB tb (envL e146) Tryz.f146 pathshap_Path_Find_lh w146 c146.ps c146.rs (T:=Int×(List (Int×RAT×CELL))) (fun y=>(y.2.1,y.2.2.1)) (feature_0,b_1,())=pathshap_Path_Find feature_0 b_1:=by kernel_rfl
abbrev e147:List (Nat×Ctr):=[]
def pathshap_Path_Parts_lh:LH
 | 10=>some ⟨pathshap_Path_Parts_i5,pathshap_Path_Parts_o5,lp pathshap_Path_Parts_s5 K0⟩
 | _=>none
theorem pathshap_Path_Parts_l5 (g:pathshap_Path_Parts_i5.V → Option (OT pathshap_Path_Parts_o5)) (v:pathshap_Path_Parts_i5.V):loopStep tb (envL e147) 32 pathshap_Path_Parts_lh (loopAt 5 (bodyOf Tryz.f147) .skip) pathshap_Path_Parts_i5 pathshap_Path_Parts_o5 g v=pathshap_Path_Parts_s5 g v:=by kernel_rfl
theorem pathshap_Path_Parts_eq (b_0:List (Int×RAT×CELL)):fnFB tb (envL e147) Tryz.f147 pathshap_Path_Parts_lh w147 c147.ps c147.rs (T:=(List PART)×(List (Int×RAT×CELL))) (fun y=>(y.2.1,y.2.2.1)) (b_0,())=pathshap_Path_Parts b_0:=by kernel_rfl
abbrev e93:List (Nat×Ctr):=[(84,c84),(87,c87)]
def whole_Neg_lh:LH
 | _=>none
theorem whole_Neg_eq (a_0:WH):fnF tb (envL e93) Tryz.f93 whole_Neg_lh c93.ps c93.rs (T:=WH) (fun y=>(y.2.1)) (a_0,())=whole_Neg a_0:=by kernel_rfl
abbrev e59:List (Nat×Ctr):=[(50,c50),(84,c84),(92,c92),(93,c93)]
def ratio_Make_lh:LH
 | _=>none
theorem ratio_Make_eq (num_0:WH) (den_1:WH):fnF tb (envL e59) Tryz.f59 ratio_Make_lh c59.ps c59.rs (T:=RAT×Int) (fun y=>(y.2.1,y.2.2.1)) (num_0,den_1,())=ratio_Make num_0 den_1:=by kernel_rfl
abbrev e24:List (Nat×Ctr):=[(49,c49),(59,c59),(60,c60)]
def ratio_Frac_lh:LH
 | _=>none
theorem ratio_Frac_eq (n_0:Int) (d_1:Int):fnF tb (envL e24) Tryz.f24 ratio_Frac_lh c24.ps c24.rs (T:=RAT) (fun y=>(y.2.1)) (n_0,d_1,())=ratio_Frac n_0 d_1:=by kernel_rfl
abbrev e78:List (Nat×Ctr):=[(49,c49),(93,c93)]
def ratio_Neg_lh:LH
 | _=>none
theorem ratio_Neg_eq (a_0:RAT):fnF tb (envL e78) Tryz.f78 ratio_Neg_lh c78.ps c78.rs (T:=RAT) (fun y=>(y.2.1)) (a_0,())=ratio_Neg a_0:=by kernel_rfl
abbrev e44:List (Nat×Ctr):=[(14,c14),(78,c78)]
def ratio_Sub_lh:LH
 | _=>none
theorem ratio_Sub_eq (a_0:RAT) (b_1:RAT):fnF tb (envL e44) Tryz.f44 ratio_Sub_lh c44.ps c44.rs (T:=RAT) (fun y=>(y.2.1)) (a_0,b_1,())=ratio_Sub a_0 b_1:=by kernel_rfl
abbrev e132:List (Nat×Ctr):=[(49,c49),(53,c53),(59,c59)]
def ratio_Inv_lh:LH
 | _=>none
theorem ratio_Inv_eq (a_0:RAT):fnF tb (envL e132) Tryz.f132 ratio_Inv_lh c132.ps c132.rs (T:=RAT×Int) (fun y=>(y.2.1,y.2.2.1)) (a_0,())=ratio_Inv a_0:=by kernel_rfl
abbrev e160:List (Nat×Ctr):=[(22,c22),(24,c24),(44,c44),(132,c132)]
def pathshap_Path_without_lh:LH
 | 14=>some ⟨pathshap_Path_without_i7,pathshap_Path_without_o7,lp pathshap_Path_without_s7 K0⟩
 | _=>none
theorem pathshap_Path_without_l7 (g:pathshap_Path_without_i7.V → Option (OT pathshap_Path_without_o7)) (v:pathshap_Path_without_i7.V):loopStep tb (envL e160) 104 pathshap_Path_without_lh (loopAt 7 (bodyOf Tryz.f160) .skip) pathshap_Path_without_i7 pathshap_Path_without_o7 g v=pathshap_Path_without_s7 g v:=by kernel_rfl
theorem pathshap_Path_without_eq (a_0:Int) (b_1:List (Int×RAT×CELL)):fnFB tb (envL e160) Tryz.f160 pathshap_Path_without_lh w160 c160.ps c160.rs (T:=(List RAT)×(List (Int×RAT×CELL))) (fun y=>(y.2.1,y.2.2.1)) (a_0,b_1,())=pathshap_Path_without a_0 b_1:=by kernel_rfl
abbrev e148:List (Nat×Ctr):=[(160,c160)]
def pathshap_Path_Unwind_lh:LH
 | 16=>some ⟨pathshap_Path_Unwind_i8,pathshap_Path_Unwind_o8,lp pathshap_Path_Unwind_s8 K0⟩
 | _=>none
theorem pathshap_Path_Unwind_l8 (g:pathshap_Path_Unwind_i8.V → Option (OT pathshap_Path_Unwind_o8)) (v:pathshap_Path_Unwind_i8.V):loopStep tb (envL e148) 66 pathshap_Path_Unwind_lh (loopAt 8 (bodyOf Tryz.f148) .skip) pathshap_Path_Unwind_i8 pathshap_Path_Unwind_o8 g v=pathshap_Path_Unwind_s8 g v:=by kernel_rfl
theorem pathshap_Path_Unwind_eq (a_0:Int) (b_1:List (Int×RAT×CELL)):fnFB tb (envL e148) Tryz.f148 pathshap_Path_Unwind_lh w148 c148.ps c148.rs (T:=Int×(List (Int×RAT×CELL))) (fun y=>(y.2.1,y.2.2.1)) (a_0,b_1,())=pathshap_Path_Unwind a_0 b_1:=by kernel_rfl
abbrev e149:List (Nat×Ctr):=[(14,c14),(21,c21),(22,c22),(24,c24),(49,c49),(130,c130),(146,c146)]
def pathshap_Path_Extend_lh:LH
 | 20=>some ⟨pathshap_Path_Extend_i10,pathshap_Path_Extend_o10,lp pathshap_Path_Extend_s10 K0⟩
 | _=>none
theorem pathshap_Path_Extend_l10 (g:pathshap_Path_Extend_i10.V → Option (OT pathshap_Path_Extend_o10)) (v:pathshap_Path_Extend_i10.V):loopStep tb (envL e149) 113 pathshap_Path_Extend_lh (loopAt 10 (bodyOf Tryz.f149) .skip) pathshap_Path_Extend_i10 pathshap_Path_Extend_o10 g v=pathshap_Path_Extend_s10 g v:=by kernel_rfl
theorem pathshap_Path_Extend_eq (a_0:Int) (a_1:RAT) (a_2:Bool) (b_3:List (Int×RAT×CELL)):fnFB tb (envL e149) Tryz.f149 pathshap_Path_Extend_lh w149 c149.ps c149.rs (T:=Int×(List (Int×RAT×CELL))) (fun y=>(y.2.1,y.2.2.1)) (a_0,a_1,a_2,b_3,())=pathshap_Path_Extend a_0 a_1 a_2 b_3:=by kernel_rfl
abbrev e117:List (Nat×Ctr):=[(22,c22),(146,c146),(147,c147),(148,c148),(149,c149)]
def pathshap_place_join_lh:LH
 | _=>none
theorem pathshap_place_join_eq (b_0:Int) (b_1:Bool) (b_2:List Int) (b_3:List Int) (b_4:Int) (b_5:Bool) (b_6:List Int) (b_7:List Int) (b_8:Bool) (b_9:List (Int×RAT×CELL)):fnFB tb (envL e117) Tryz.f117 pathshap_place_join_lh w117 c117.ps c117.rs (T:=Int×Bool×(List Int)×(List Int)×Int×Bool×(List Int)×(List Int)×Bool×(List (Int×RAT×CELL))) (fun y=>(y.2.1,y.2.2.1,y.2.2.2.1,y.2.2.2.2.1,y.2.2.2.2.2.1,y.2.2.2.2.2.2.1,y.2.2.2.2.2.2.2.1,y.2.2.2.2.2.2.2.2.1,y.2.2.2.2.2.2.2.2.2.1,y.2.2.2.2.2.2.2.2.2.2.1)) (b_0,b_1,b_2,b_3,b_4,b_5,b_6,b_7,b_8,b_9,())=pathshap_place_join b_0 b_1 b_2 b_3 b_4 b_5 b_6 b_7 b_8 b_9:=by kernel_rfl
abbrev e41:List (Nat×Ctr):=[(14,c14),(21,c21)]
def ratio_Sum_lh:LH
 | 6=>some ⟨ratio_Sum_i3,ratio_Sum_o3,lp ratio_Sum_s3 K0⟩
 | _=>none
theorem ratio_Sum_l3 (g:ratio_Sum_i3.V → Option (OT ratio_Sum_o3)) (v:ratio_Sum_i3.V):loopStep tb (envL e41) 18 ratio_Sum_lh (loopAt 3 (bodyOf Tryz.f41) .skip) ratio_Sum_i3 ratio_Sum_o3 g v=ratio_Sum_s3 g v:=by kernel_rfl
theorem ratio_Sum_eq (l_0:List RAT):fnF tb (envL e41) Tryz.f41 ratio_Sum_lh c41.ps c41.rs (T:=RAT) (fun y=>(y.2.1)) (l_0,())=ratio_Sum l_0:=by kernel_rfl
abbrev e150:List (Nat×Ctr):=[(41,c41),(160,c160)]
def pathshap_Path_Sum_lh:LH
 | _=>none
theorem pathshap_Path_Sum_eq (at_0:Int) (b_1:List (Int×RAT×CELL)):fnFB tb (envL e150) Tryz.f150 pathshap_Path_Sum_lh w150 c150.ps c150.rs (T:=RAT×Int×(List (Int×RAT×CELL))) (fun y=>(y.2.1,y.2.2.1,y.2.2.2.1)) (at_0,b_1,())=pathshap_Path_Sum at_0 b_1:=by kernel_rfl
abbrev e118:List (Nat×Ctr):=[(14,c14),(22,c22),(56,c56),(78,c78),(147,c147),(150,c150)]
def pathshap_walker_leaf_lh:LH
 | 6=>some ⟨pathshap_walker_leaf_i3,pathshap_walker_leaf_o3,lp pathshap_walker_leaf_s3 K0⟩
 | _=>none
theorem pathshap_walker_leaf_l3 (g:pathshap_walker_leaf_i3.V → Option (OT pathshap_walker_leaf_o3)) (v:pathshap_walker_leaf_i3.V):loopStep tb (envL e118) 69 pathshap_walker_leaf_lh (loopAt 3 (bodyOf Tryz.f118) .skip) pathshap_walker_leaf_i3 pathshap_walker_leaf_o3 g v=pathshap_walker_leaf_s3 g v:=by kernel_rfl
theorem pathshap_walker_leaf_eq (a_0:Int) (a_1:Bool) (a_2:List Int) (a_3:List Int) (a_4:Int) (a_5:Bool) (a_6:List Int) (a_7:List Int) (a_8:Bool) (b_9:List NODE) (b_10:List CELL) (b_11:Int) (b_12:Bool) (b_13:List RAT) (b_14:List (Int×RAT×CELL)):fnFB tb (envL e118) Tryz.f118 pathshap_walker_leaf_lh w118 c118.ps c118.rs (T:=(List RAT)×(List NODE)×(List CELL)×Int×Bool×(List (Int×RAT×CELL))) (fun y=>(y.1.1,y.2.1,y.2.2.1,y.2.2.2.1,y.2.2.2.2.1,y.2.2.2.2.2.1)) (a_0,a_1,a_2,a_3,a_4,a_5,a_6,a_7,a_8,b_9,b_10,b_11,b_12,b_13,b_14,())=pathshap_walker_leaf a_0 a_1 a_2 a_3 a_4 a_5 a_6 a_7 a_8 b_9 b_10 b_11 b_12 b_13 b_14:=by kernel_rfl
abbrev e131:List (Nat×Ctr):=[(40,c40)]
def route_goes_lh:LH
 | _=>none
theorem route_goes_eq (n_0:NODE) (c_1:CELL):fnF tb (envL e131) Tryz.f131 route_goes_lh c131.ps c131.rs (T:=Bool) (fun y=>(y.2.1)) (n_0,c_1,())=route_goes n_0 c_1:=by kernel_rfl
abbrev e105:List (Nat×Ctr):=[(131,c131)]
def route_Left_lh:LH
 | _=>none
theorem route_Left_eq (n_0:NODE) (c_1:CELL):fnF tb (envL e105) Tryz.f105 route_Left_lh c105.ps c105.rs (T:=Bool) (fun y=>(y.2.1)) (n_0,c_1,())=route_Left n_0 c_1:=by kernel_rfl
abbrev e106:List (Nat×Ctr):=[(22,c22),(132,c132)]
def ratio_Div_lh:LH
 | _=>none
theorem ratio_Div_eq (a_0:RAT) (b_1:RAT):fnF tb (envL e106) Tryz.f106 ratio_Div_lh c106.ps c106.rs (T:=RAT×Int) (fun y=>(y.2.1,y.2.2.1)) (a_0,b_1,())=ratio_Div a_0 b_1:=by kernel_rfl
abbrev e151:List (Nat×Ctr):=[]
def pathshap_Path_Copy_lh:LH
 | _=>none
theorem pathshap_Path_Copy_eq (b_0:List (Int×RAT×CELL)):fnFB tb (envL e151) Tryz.f151 pathshap_Path_Copy_lh w151 c151.ps c151.rs (T:=(List (Int×RAT×CELL))×(List (Int×RAT×CELL))) (fun y=>(y.2.1,y.2.2.1)) (b_0,())=pathshap_Path_Copy b_0:=by kernel_rfl
abbrev e119:List (Nat×Ctr):=[(22,c22),(105,c105),(106,c106),(151,c151)]
def pathshap_walker_child_lh:LH
 | _=>none
theorem pathshap_walker_child_eq (a_0:Int) (a_1:Bool) (a_2:List Int) (a_3:List Int) (a_4:Int) (a_5:Bool) (a_6:List Int) (a_7:List Int) (a_8:Bool) (a_9:Int) (a_10:Bool) (b_11:List NODE) (b_12:List CELL) (b_13:Int) (b_14:Bool) (b_15:List RAT) (b_16:List (Int×RAT×CELL)):fnFB tb (envL e119) Tryz.f119 pathshap_walker_child_lh w119 c119.ps c119.rs (T:=(List RAT)×Int×Bool×(List Int)×(List Int)×Int×Bool×(List Int)×(List Int)×Bool×Bool×(List NODE)×(List CELL)×Int×Bool×(List (Int×RAT×CELL))×(List (Int×RAT×CELL))) (fun y=>(y.1.1,y.2.1,y.2.2.1,y.2.2.2.1,y.2.2.2.2.1,y.2.2.2.2.2.1,y.2.2.2.2.2.2.1,y.2.2.2.2.2.2.2.1,y.2.2.2.2.2.2.2.2.1,y.2.2.2.2.2.2.2.2.2.1,y.2.2.2.2.2.2.2.2.2.2.1,y.2.2.2.2.2.2.2.2.2.2.2.1,y.2.2.2.2.2.2.2.2.2.2.2.2.1,y.2.2.2.2.2.2.2.2.2.2.2.2.2.1,y.2.2.2.2.2.2.2.2.2.2.2.2.2.2.1,y.2.2.2.2.2.2.2.2.2.2.2.2.2.2.2.1,y.2.2.2.2.2.2.2.2.2.2.2.2.2.2.2.2.1)) (a_0,a_1,a_2,a_3,a_4,a_5,a_6,a_7,a_8,a_9,a_10,b_11,b_12,b_13,b_14,b_15,b_16,())=pathshap_walker_child a_0 a_1 a_2 a_3 a_4 a_5 a_6 a_7 a_8 a_9 a_10 b_11 b_12 b_13 b_14 b_15 b_16:=by kernel_rfl
abbrev e82:List (Nat×Ctr):=[(56,c56),(116,c116),(117,c117),(118,c118),(119,c119)]
def pathshap_walker_walk_lh:LH
 | 18=>some ⟨pathshap_walker_walk_i9,pathshap_walker_walk_o9,lp pathshap_walker_walk_s9 K0⟩
 | 2=>some ⟨pathshap_walker_walk_i1,pathshap_walker_walk_o1,lp pathshap_walker_walk_s1 K0⟩
 | _=>none
theorem pathshap_walker_walk_l9 (g:pathshap_walker_walk_i9.V → Option (OT pathshap_walker_walk_o9)) (v:pathshap_walker_walk_i9.V):loopStep tb (envL e82) 91 pathshap_walker_walk_lh (loopAt 9 (bodyOf Tryz.f82) .skip) pathshap_walker_walk_i9 pathshap_walker_walk_o9 g v=pathshap_walker_walk_s9 g v:=by kernel_rfl
theorem pathshap_walker_walk_l1 (g:pathshap_walker_walk_i1.V → Option (OT pathshap_walker_walk_o1)) (v:pathshap_walker_walk_i1.V):loopStep tb (envL e82) 91 pathshap_walker_walk_lh (loopAt 1 (bodyOf Tryz.f82) .skip) pathshap_walker_walk_i1 pathshap_walker_walk_o1 g v=pathshap_walker_walk_s1 g v:=by kernel_rfl
theorem pathshap_walker_walk_eq (b_0:List NODE) (b_1:List CELL) (b_2:Int) (b_3:Bool) (b_4:List RAT) (b_5:List (Int×(Option ((Option (List (Int×RAT×CELL)))×Unit))×RAT×PART)):fnFB tb (envL e82) Tryz.f82 pathshap_walker_walk_lh w82 c82.ps c82.rs (T:=(List RAT)×(List NODE)×(List CELL)×Int×Bool×(List (Int×(Option ((Option (List (Int×RAT×CELL)))×Unit))×RAT×PART))) (fun y=>(y.1.1,y.2.1,y.2.2.1,y.2.2.2.1,y.2.2.2.2.1,y.2.2.2.2.2.1)) (b_0,b_1,b_2,b_3,b_4,b_5,())=pathshap_walker_walk b_0 b_1 b_2 b_3 b_4 b_5:=by kernel_rfl
abbrev e48:List (Nat×Ctr):=[(81,c81),(82,c82)]
def pathshap_all_lh:LH
 | 6=>some ⟨pathshap_all_i3,pathshap_all_o3,lp pathshap_all_s3 K0⟩
 | _=>none
theorem pathshap_all_l3 (g:pathshap_all_i3.V → Option (OT pathshap_all_o3)) (v:pathshap_all_i3.V):loopStep tb (envL e48) 34 pathshap_all_lh (loopAt 3 (bodyOf Tryz.f48) .skip) pathshap_all_i3 pathshap_all_o3 g v=pathshap_all_s3 g v:=by kernel_rfl
theorem pathshap_all_eq (m_0:MODEL) (row_1:List CELL) (fixed_2:Int) (on_3:Bool):fnF tb (envL e48) Tryz.f48 pathshap_all_lh c48.ps c48.rs (T:=(List RAT)) (fun y=>(y.2.1)) (m_0,row_1,fixed_2,on_3,())=pathshap_all m_0 row_1 fixed_2 on_3:=by kernel_rfl
abbrev e11:List (Nat×Ctr):=[(47,c47),(48,c48)]
def pathshap_Values_lh:LH
 | _=>none
theorem pathshap_Values_eq (m_0:MODEL) (row_1:List CELL):fnF tb (envL e11) Tryz.f11 pathshap_Values_lh c11.ps c11.rs (T:=(List RAT)×Int) (fun y=>(y.2.1,y.2.2.1)) (m_0,row_1,())=pathshap_Values m_0 row_1:=by kernel_rfl
abbrev e13:List (Nat×Ctr):=[(26,c26)]
def valid_Tree_lh:LH
 | _=>none
theorem valid_Tree_eq (t_0:List NODE) (features_1:Int):fnF tb (envL e13) Tryz.f13 valid_Tree_lh c13.ps c13.rs (T:=Bool) (fun y=>(y.2.1)) (t_0,features_1,())=valid_Tree t_0 features_1:=by kernel_rfl
abbrev e94:List (Nat×Ctr):=[(49,c49)]
def model_Tidy_lh:LH
 | 14=>some ⟨model_Tidy_i7,model_Tidy_o7,lp model_Tidy_s7 K0⟩
 | 6=>some ⟨model_Tidy_i3,model_Tidy_o3,lp model_Tidy_s3 K0⟩
 | _=>none
theorem model_Tidy_l7 (g:model_Tidy_i7.V → Option (OT model_Tidy_o7)) (v:model_Tidy_i7.V):loopStep tb (envL e94) 67 model_Tidy_lh (loopAt 7 (bodyOf Tryz.f94) .skip) model_Tidy_i7 model_Tidy_o7 g v=model_Tidy_s7 g v:=by kernel_rfl
theorem model_Tidy_l3 (g:model_Tidy_i3.V → Option (OT model_Tidy_o3)) (v:model_Tidy_i3.V):loopStep tb (envL e94) 67 model_Tidy_lh (loopAt 3 (bodyOf Tryz.f94) .skip) model_Tidy_i3 model_Tidy_o3 g v=model_Tidy_s3 g v:=by kernel_rfl
theorem model_Tidy_eq (a_0:MODEL):fnF tb (envL e94) Tryz.f94 model_Tidy_lh c94.ps c94.rs (T:=MODEL) (fun y=>(y.2.1)) (a_0,())=model_Tidy a_0:=by kernel_rfl
abbrev e97 (n:Nat):List (Nat×Ctr):=[(97,(c97 n))]
def trim_copyOf_lh (n:Nat):LH
 | _=>none
theorem trim_copyOf_eq (n:Nat) (t_0:List NODE) (at_1:Int) (out_2:List NODE):fnF tb (envL (e97 n)) Tryz.f97 (trim_copyOf_lh n) (c97 n).ps (c97 n).rs (T:=(List NODE)×Int) (fun y=>(y.2.1,y.2.2.1)) (t_0,at_1,out_2,())=trim_copyOf (n+1) t_0 at_1 out_2:=by kernel_rfl
abbrev e95:List (Nat×Ctr):=[(13,c13),(94,c94),(97,(c97 R0))]
def trim_Order_lh:LH
 | _=>none
theorem trim_Order_eq (t_0:List NODE) (features_1:Int):fnF tb (envL e95) Tryz.f95 trim_Order_lh c95.ps c95.rs (T:=(List NODE)×Int) (fun y=>(y.2.1,y.2.2.1)) (t_0,features_1,())=trim_Order t_0 features_1:=by kernel_rfl
abbrev e96 (n:Nat):List (Nat×Ctr):=[(30,c30),(96,(c96 n))]
def trim_shrink_lh (n:Nat):LH
 | _=>none
theorem trim_shrink_eq (n:Nat) (t_0:List NODE) (at_1:Int):fnF tb (envL (e96 n)) Tryz.f96 (trim_shrink_lh n) (c96 n).ps (c96 n).rs (T:=(List NODE)) (fun y=>(y.1.1)) (t_0,at_1,())=trim_shrink (n+1) t_0 at_1:=by kernel_rfl
abbrev e63:List (Nat×Ctr):=[(95,c95),(96,(c96 R0)),(97,(c97 R0))]
def trim_Shrink_lh:LH
 | _=>none
theorem trim_Shrink_eq (t_0:List NODE) (features_1:Int):fnF tb (envL e63) Tryz.f63 trim_Shrink_lh c63.ps c63.rs (T:=(List NODE)×Int) (fun y=>(y.2.1,y.2.2.1)) (t_0,features_1,())=trim_Shrink t_0 features_1:=by kernel_rfl
abbrev e62:List (Nat×Ctr):=[(63,c63)]
def trim_All_c1_lh:LH
 | _=>none
theorem trim_All_c1_eq (t_0:List NODE) (b_1:Int) (b_2:List (List NODE)):fnFB tb (envL e62) Tryz.f62 trim_All_c1_lh w62 c62.ps c62.rs (T:=(List NODE)×Int×(List (List NODE))) (fun y=>(y.2.1,y.2.2.1,y.2.2.2.1)) (t_0,b_1,b_2,())=trim_All_c1 t_0 b_1 b_2:=by kernel_rfl
abbrev e61v62:List (Nat×Ctr):=[(26,c26),(62,c62),(94,c94)]
def trim_every_v62_lh:LH
 | 10=>some ⟨trim_every_v62_i5,trim_every_v62_o5,lp trim_every_v62_s5 K0⟩
 | _=>none
theorem trim_every_v62_l5 (g:trim_every_v62_i5.V → Option (OT trim_every_v62_o5)) (v:trim_every_v62_i5.V):loopStep tb (envL e61v62) 34 trim_every_v62_lh (loopAt 5 (bodyOf Tryz.f61) .skip) trim_every_v62_i5 trim_every_v62_o5 g v=trim_every_v62_s5 g v:=by kernel_rfl
theorem trim_every_v62_eq (m_0:MODEL) (b_1:Int) (b_2:List (List NODE)):fnFB tb (envL e61v62) Tryz.f61 trim_every_v62_lh w61v62 c61v62.ps c61v62.rs (T:=MODEL×Int×Int×(List (List NODE))) (fun y=>(y.2.1,y.2.2.1,y.2.2.2.1,y.2.2.2.2.1)) (m_0,b_1,b_2,())=trim_every_v62 m_0 b_1 b_2:=by kernel_rfl
abbrev e25:List (Nat×Ctr):=[(61,c61v62)]
def trim_All_lh:LH
 | _=>none
theorem trim_All_eq (m_0:MODEL):fnF tb (envL e25) Tryz.f25 trim_All_lh c25.ps c25.rs (T:=MODEL×Int) (fun y=>(y.2.1,y.2.2.1)) (m_0,())=trim_All m_0:=by kernel_rfl
abbrev e65:List (Nat×Ctr):=[]
def dendronref07_exact_lh:LH
 | 8=>some ⟨dendronref07_exact_i4,dendronref07_exact_o4,lp dendronref07_exact_s4 K0⟩
 | 18=>some ⟨dendronref07_exact_i9,dendronref07_exact_o9,lp dendronref07_exact_s9 K0⟩
 | _=>none
theorem dendronref07_exact_l4 (g:dendronref07_exact_i4.V → Option (OT dendronref07_exact_o4)) (v:dendronref07_exact_i4.V):loopStep tb (envL e65) 73 dendronref07_exact_lh (loopAt 4 (bodyOf Tryz.f65) .skip) dendronref07_exact_i4 dendronref07_exact_o4 g v=dendronref07_exact_s4 g v:=by kernel_rfl
theorem dendronref07_exact_l9 (g:dendronref07_exact_i9.V → Option (OT dendronref07_exact_o9)) (v:dendronref07_exact_i9.V):loopStep tb (envL e65) 73 dendronref07_exact_lh (loopAt 9 (bodyOf Tryz.f65) .skip) dendronref07_exact_i9 dendronref07_exact_o9 g v=dendronref07_exact_s9 g v:=by kernel_rfl
theorem dendronref07_exact_eq (a_0:RAT) (a_1:RAT):fnF tb (envL e65) Tryz.f65 dendronref07_exact_lh c65.ps c65.rs (T:=Bool) (fun y=>(y.2.1)) (a_0,a_1,())=dendronref07_exact a_0 a_1:=by kernel_rfl
abbrev e27:List (Nat×Ctr):=[(65,c65)]
def dendronref07_Same_lh:LH
 | 18=>some ⟨dendronref07_Same_i9,dendronref07_Same_o9,lp dendronref07_Same_s9 K0⟩
 | 8=>some ⟨dendronref07_Same_i4,dendronref07_Same_o4,lp dendronref07_Same_s4 K0⟩
 | _=>none
theorem dendronref07_Same_l9 (g:dendronref07_Same_i9.V → Option (OT dendronref07_Same_o9)) (v:dendronref07_Same_i9.V):loopStep tb (envL e27) 126 dendronref07_Same_lh (loopAt 9 (bodyOf Tryz.f27) .skip) dendronref07_Same_i9 dendronref07_Same_o9 g v=dendronref07_Same_s9 g v:=by kernel_rfl
theorem dendronref07_Same_l4 (g:dendronref07_Same_i4.V → Option (OT dendronref07_Same_o4)) (v:dendronref07_Same_i4.V):loopStep tb (envL e27) 126 dendronref07_Same_lh (loopAt 4 (bodyOf Tryz.f27) .skip) dendronref07_Same_i4 dendronref07_Same_o4 g v=dendronref07_Same_s4 g v:=by kernel_rfl
theorem dendronref07_Same_eq (a_0:MODEL) (a_1:MODEL):fnF tb (envL e27) Tryz.f27 dendronref07_Same_lh c27.ps c27.rs (T:=Bool) (fun y=>(y.2.1)) (a_0,a_1,())=dendronref07_Same a_0 a_1:=by kernel_rfl
abbrev e28:List (Nat×Ctr):=[(30,c30),(55,c55),(56,c56),(63,c63)]
def dendronlaw25_awake_lh:LH
 | _=>none
theorem dendronlaw25_awake_eq :fnF tb (envL e28) Tryz.f28 dendronlaw25_awake_lh c28.ps c28.rs (T:=Bool) (fun y=>(y.2.1)) ()=dendronlaw25_awake :=by kernel_rfl
abbrev e29:List (Nat×Ctr):=[]
def trim_Size_lh:LH
 | 6=>some ⟨trim_Size_i3,trim_Size_o3,lp trim_Size_s3 K0⟩
 | _=>none
theorem trim_Size_l3 (g:trim_Size_i3.V → Option (OT trim_Size_o3)) (v:trim_Size_i3.V):loopStep tb (envL e29) 19 trim_Size_lh (loopAt 3 (bodyOf Tryz.f29) .skip) trim_Size_i3 trim_Size_o3 g v=trim_Size_s3 g v:=by kernel_rfl
theorem trim_Size_eq (m_0:MODEL):fnF tb (envL e29) Tryz.f29 trim_Size_lh c29.ps c29.rs (T:=Int) (fun y=>(y.2.1)) (m_0,())=trim_Size m_0:=by kernel_rfl
abbrev e104:List (Nat×Ctr):=[]
def dendronlaw11_in_lh:LH
 | 4=>some ⟨dendronlaw11_in_i2,dendronlaw11_in_o2,lp dendronlaw11_in_s2 K0⟩
 | _=>none
theorem dendronlaw11_in_l2 (g:dendronlaw11_in_i2.V → Option (OT dendronlaw11_in_o2)) (v:dendronlaw11_in_i2.V):loopStep tb (envL e104) 16 dendronlaw11_in_lh (loopAt 2 (bodyOf Tryz.f104) .skip) dendronlaw11_in_i2 dendronlaw11_in_o2 g v=dendronlaw11_in_s2 g v:=by kernel_rfl
theorem dendronlaw11_in_eq (set_0:Int) (feature_1:Int):fnF tb (envL e104) Tryz.f104 dendronlaw11_in_lh c104.ps c104.rs (T:=Bool) (fun y=>(y.2.1)) (set_0,feature_1,())=dendronlaw11_in set_0 feature_1:=by kernel_rfl
abbrev e66 (n:Nat):List (Nat×Ctr):=[(14,c14),(22,c22),(66,(c66 n)),(104,c104),(105,c105),(106,c106)]
def dendronlaw11_below_lh (n:Nat):LH
 | _=>none
theorem dendronlaw11_below_eq (n:Nat) (a_0:List NODE) (a_1:Int) (a_2:List CELL) (a_3:Int):fnF tb (envL (e66 n)) Tryz.f66 (dendronlaw11_below_lh n) (c66 n).ps (c66 n).rs (T:=RAT) (fun y=>(y.2.1)) (a_0,a_1,a_2,a_3,())=dendronlaw11_below (n+1) a_0 a_1 a_2 a_3:=by kernel_rfl
abbrev e31:List (Nat×Ctr):=[(14,c14),(21,c21),(66,(c66 R0))]
def dendronlaw11_Value_lh:LH
 | 6=>some ⟨dendronlaw11_Value_i3,dendronlaw11_Value_o3,lp dendronlaw11_Value_s3 K0⟩
 | _=>none
theorem dendronlaw11_Value_l3 (g:dendronlaw11_Value_i3.V → Option (OT dendronlaw11_Value_o3)) (v:dendronlaw11_Value_i3.V):loopStep tb (envL e31) 28 dendronlaw11_Value_lh (loopAt 3 (bodyOf Tryz.f31) .skip) dendronlaw11_Value_i3 dendronlaw11_Value_o3 g v=dendronlaw11_Value_s3 g v:=by kernel_rfl
theorem dendronlaw11_Value_eq (m_0:MODEL) (row_1:List CELL) (set_2:Int):fnF tb (envL e31) Tryz.f31 dendronlaw11_Value_lh c31.ps c31.rs (T:=RAT) (fun y=>(y.2.1)) (m_0,row_1,set_2,())=dendronlaw11_Value m_0 row_1 set_2:=by kernel_rfl
abbrev e5:List (Nat×Ctr):=[(10,c10),(11,c11),(25,c25),(26,c26),(27,c27),(28,c28),(29,c29),(30,c30),(31,c31)]
def dendronlaw25_TrimSays_lh:LH
 | 28=>some ⟨dendronlaw25_TrimSays_i14,dendronlaw25_TrimSays_o14,lp dendronlaw25_TrimSays_s14 K0⟩
 | _=>none
theorem dendronlaw25_TrimSays_l14 (g:dendronlaw25_TrimSays_i14.V → Option (OT dendronlaw25_TrimSays_o14)) (v:dendronlaw25_TrimSays_i14.V):loopStep tb (envL e5) 127 dendronlaw25_TrimSays_lh (loopAt 14 (bodyOf Tryz.f5) .skip) dendronlaw25_TrimSays_i14 dendronlaw25_TrimSays_o14 g v=dendronlaw25_TrimSays_s14 g v:=by kernel_rfl
theorem dendronlaw25_TrimSays_eq (a_0:MODEL) (a_1:List CELL) (a_2:Int):fnF tb (envL e5) Tryz.f5 dendronlaw25_TrimSays_lh c5.ps c5.rs (T:=Bool) (fun y=>(y.2.1)) (a_0,a_1,a_2,())=dendronlaw25_TrimSays a_0 a_1 a_2:=by kernel_rfl
end Go.Proofs.YthcpiofmhkhbeaaGreatDoor.X
