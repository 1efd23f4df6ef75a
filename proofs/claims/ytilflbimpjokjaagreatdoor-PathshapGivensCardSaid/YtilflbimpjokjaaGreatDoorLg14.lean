/- Own work: part of the proof; the first line of each part says what it tells. -/
import Derived.Test.YtilflbimpjokjaaGreatDoorLg10
import Derived.Test.YtilflbimpjokjaaGreatDoorLg13


namespace Go.Proofs.YtilflbimpjokjaaGreatDoor.X
open Go
set_option linter.unusedVariables false
set_option linter.unusedSimpArgs false
set_option maxRecDepth 100000
theorem F_in {ps:List (Ty×PM)} {rs:List (Ty×Bool)} {T:Type} {F:HL (fsts ps)→Option T} {enc:T→HL (lents ps)×HL (fsts rs)} {wi:Option Wir} (x:HL (fsts ps)) {r:Option T} (h:F x=r):(Ctr.mk ps rs T F enc wi).F x=r:=h
theorem hm:Tryz.prog.follows .mixedOrders=true:=by kernel_rfl
structure Hands (T:Told):Prop where
 ty:TbOk Tryz.prog tb
 h128:CtrOk T Tryz.prog 128 c128
 h136:CtrOk T Tryz.prog 136 c136
theorem n33 {T:Told} (H:Hands T):EnvOk T Tryz.prog (envL e33):=q5q (l:=e33) trivial
theorem ok33 {T:Told} (H:Hands T):CtrOk T Tryz.prog 33 c33 :=
 fn_ok H.ty (n33 H) hm (lh:=dendronlaw07_number_lh) (ct:=c33) (dcd:=fun y=>(y.2.1)) Tryz.func33 (by kernel_rfl) (by rfl) (q1q (l:=[]) (by kernel_rfl) trivial) (by decide) (fun _=>rfl) (fun x r h=>(dendronlaw07_number_eq x.1).trans h)
theorem n13 {T:Told} (H:Hands T):EnvOk T Tryz.prog (envL e13):=q5q (l:=e13) ⟨ok33 H,trivial⟩
theorem dendronlaw07_Few_p7 {T:Told} (H:Hands T):q12q T Tryz.prog 67 (.loop (q3q 7 (q4q Tryz.f13) .skip)) ⟨dendronlaw07_Few_i7,dendronlaw07_Few_o7,lp dendronlaw07_Few_s7 K0⟩ :=
 q7q H.ty (n13 H) hm (q1q (l:=[]) (by kernel_rfl) trivial) dendronlaw07_Few_l7 K0
theorem dendronlaw07_Few_p3 {T:Told} (H:Hands T):q12q T Tryz.prog 67 (.loop (q3q 3 (q4q Tryz.f13) .skip)) ⟨dendronlaw07_Few_i3,dendronlaw07_Few_o3,lp dendronlaw07_Few_s3 K0⟩ :=
 q7q H.ty (n13 H) hm (q1q (l:=[(.loop (q3q 7 (q4q Tryz.f13) .skip),⟨dendronlaw07_Few_i7,dendronlaw07_Few_o7,lp dendronlaw07_Few_s7 K0⟩)]) (by kernel_rfl) ⟨dendronlaw07_Few_p7 H,trivial⟩) dendronlaw07_Few_l3 K0
theorem ok13 {T:Told} (H:Hands T):CtrOk T Tryz.prog 13 c13 :=
 fn_ok H.ty (n13 H) hm (lh:=dendronlaw07_Few_lh) (ct:=c13) (dcd:=fun y=>(y.2.1)) Tryz.func13 (by kernel_rfl) (by rfl) (q1q (l:=[(.loop (q3q 3 (q4q Tryz.f13) .skip),⟨dendronlaw07_Few_i3,dendronlaw07_Few_o3,lp dendronlaw07_Few_s3 K0⟩)]) (by kernel_rfl) ⟨dendronlaw07_Few_p3 H,trivial⟩) (by decide) (fun _=>rfl) (fun x r h=>(dendronlaw07_Few_eq x.1).trans h)
theorem n34 {T:Told} (H:Hands T):EnvOk T Tryz.prog (envL e34):=q5q (l:=e34) trivial
theorem ok34 {T:Told} (H:Hands T):CtrOk T Tryz.prog 34 c34 :=
 fn_ok H.ty (n34 H) hm (lh:=dendronlaw09_number_lh) (ct:=c34) (dcd:=fun y=>(y.2.1)) Tryz.func34 (by kernel_rfl) (by rfl) (q1q (l:=[]) (by kernel_rfl) trivial) (by decide) (fun _=>rfl) (fun x r h=>(dendronlaw09_number_eq x.1).trans h)
theorem n14 {T:Told} (H:Hands T):EnvOk T Tryz.prog (envL e14):=q5q (l:=e14) ⟨ok34 H,trivial⟩
theorem dendronlaw09_Few_p3 {T:Told} (H:Hands T):q12q T Tryz.prog 32 (.loop (q3q 3 (q4q Tryz.f14) .skip)) ⟨dendronlaw09_Few_i3,dendronlaw09_Few_o3,lp dendronlaw09_Few_s3 K0⟩ :=
 q7q H.ty (n14 H) hm (q1q (l:=[]) (by kernel_rfl) trivial) dendronlaw09_Few_l3 K0
theorem ok14 {T:Told} (H:Hands T):CtrOk T Tryz.prog 14 c14 :=
 fn_ok H.ty (n14 H) hm (lh:=dendronlaw09_Few_lh) (ct:=c14) (dcd:=fun y=>(y.2.1)) Tryz.func14 (by kernel_rfl) (by rfl) (q1q (l:=[(.loop (q3q 3 (q4q Tryz.f14) .skip),⟨dendronlaw09_Few_i3,dendronlaw09_Few_o3,lp dendronlaw09_Few_s3 K0⟩)]) (by kernel_rfl) ⟨dendronlaw09_Few_p3 H,trivial⟩) (by decide) (fun _=>rfl) (fun x r h=>(dendronlaw09_Few_eq x.1 x.2.1).trans h)
theorem n5 {T:Told} (H:Hands T):EnvOk T Tryz.prog (envL e5):=q5q (l:=e5) ⟨ok13 H,ok14 H,trivial⟩
theorem ok5 {T:Told} (H:Hands T):CtrOk T Tryz.prog 5 c5 :=
 fn_ok H.ty (n5 H) hm (lh:=dendronlaw11_Small_lh) (ct:=c5) (dcd:=fun y=>(y.2.1,y.2.2.1)) Tryz.func5 (by kernel_rfl) (by rfl) (q1q (l:=[]) (by kernel_rfl) trivial) (by decide) (fun _=>rfl) (fun x r h=>(dendronlaw11_Small_eq x.1 x.2.1).trans h)
theorem n54 {T:Told} (H:Hands T):EnvOk T Tryz.prog (envL e54):=q5q (l:=e54) trivial
theorem model_Fits_p9 {T:Told} (H:Hands T):q12q T Tryz.prog 72 (.loop (q3q 9 (q4q Tryz.f54) .skip)) ⟨model_Fits_i9,model_Fits_o9,lp model_Fits_s9 K0⟩ :=
 q7q H.ty (n54 H) hm (q1q (l:=[]) (by kernel_rfl) trivial) model_Fits_l9 K0
theorem model_Fits_p4 {T:Told} (H:Hands T):q12q T Tryz.prog 72 (.loop (q3q 4 (q4q Tryz.f54) .skip)) ⟨model_Fits_i4,model_Fits_o4,lp model_Fits_s4 K0⟩ :=
 q7q H.ty (n54 H) hm (q1q (l:=[(.loop (q3q 9 (q4q Tryz.f54) .skip),⟨model_Fits_i9,model_Fits_o9,lp model_Fits_s9 K0⟩)]) (by kernel_rfl) ⟨model_Fits_p9 H,trivial⟩) model_Fits_l4 K0
theorem ok54 {T:Told} (H:Hands T):CtrOk T Tryz.prog 54 c54 :=
 fn_ok H.ty (n54 H) hm (lh:=model_Fits_lh) (ct:=c54) (dcd:=fun y=>(y.2.1)) Tryz.func54 (by kernel_rfl) (by rfl) (q1q (l:=[(.loop (q3q 4 (q4q Tryz.f54) .skip),⟨model_Fits_i4,model_Fits_o4,lp model_Fits_s4 K0⟩)]) (by kernel_rfl) ⟨model_Fits_p4 H,trivial⟩) (by decide) (fun _=>rfl) (fun x r h=>(model_Fits_eq x.1).trans h)
theorem n55 {T:Told} (H:Hands T):EnvOk T Tryz.prog (envL e55):=q5q (l:=e55) trivial
theorem valid_ranges_p2 {T:Told} (H:Hands T):q12q T Tryz.prog 52 (.loop (q3q 2 (q4q Tryz.f55) .skip)) ⟨valid_ranges_i2,valid_ranges_o2,lp valid_ranges_s2 K0⟩ :=
 q7q H.ty (n55 H) hm (q1q (l:=[]) (by kernel_rfl) trivial) valid_ranges_l2 K0
theorem ok55 {T:Told} (H:Hands T):CtrOk T Tryz.prog 55 c55 :=
 fn_ok H.ty (n55 H) hm (lh:=valid_ranges_lh) (ct:=c55) (dcd:=fun y=>(y.2.1,y.2.2.1)) Tryz.func55 (by kernel_rfl) (by rfl) (q1q (l:=[(.loop (q3q 2 (q4q Tryz.f55) .skip),⟨valid_ranges_i2,valid_ranges_o2,lp valid_ranges_s2 K0⟩)]) (by kernel_rfl) ⟨valid_ranges_p2 H,trivial⟩) (by decide) (fun _=>rfl) (fun x r h=>(valid_ranges_eq x.1 x.2.1).trans h)
theorem n56 {T:Told} (H:Hands T):EnvOk T Tryz.prog (envL e56):=q5q (l:=e56) trivial
theorem valid_shape_p3 {T:Told} (H:Hands T):q12q T Tryz.prog 103 (.loop (q3q 3 (q4q Tryz.f56) .skip)) ⟨valid_shape_i3,valid_shape_o3,lp valid_shape_s3 K0⟩ :=
 q7q H.ty (n56 H) hm (q1q (l:=[]) (by kernel_rfl) trivial) valid_shape_l3 K0
theorem valid_shape_p10 {T:Told} (H:Hands T):q12q T Tryz.prog 103 (.loop (q3q 10 (q4q Tryz.f56) .skip)) ⟨valid_shape_i10,valid_shape_o10,lp valid_shape_s10 K0⟩ :=
 q7q H.ty (n56 H) hm (q1q (l:=[]) (by kernel_rfl) trivial) valid_shape_l10 K0
theorem valid_shape_p17 {T:Told} (H:Hands T):q12q T Tryz.prog 103 (.loop (q3q 17 (q4q Tryz.f56) .skip)) ⟨valid_shape_i17,valid_shape_o17,lp valid_shape_s17 K0⟩ :=
 q7q H.ty (n56 H) hm (q1q (l:=[]) (by kernel_rfl) trivial) valid_shape_l17 K0
theorem valid_shape_p25 {T:Told} (H:Hands T):q12q T Tryz.prog 103 (.loop (q3q 25 (q4q Tryz.f56) .skip)) ⟨valid_shape_i25,valid_shape_o25,lp valid_shape_s25 K0⟩ :=
 q7q H.ty (n56 H) hm (q1q (l:=[]) (by kernel_rfl) trivial) valid_shape_l25 K0
theorem ok56 {T:Told} (H:Hands T):CtrOk T Tryz.prog 56 c56 :=
 fn_ok H.ty (n56 H) hm (lh:=valid_shape_lh) (ct:=c56) (dcd:=fun y=>(y.2.1,y.2.2.1)) Tryz.func56 (by kernel_rfl) (by rfl) (q1q (l:=[(.loop (q3q 3 (q4q Tryz.f56) .skip),⟨valid_shape_i3,valid_shape_o3,lp valid_shape_s3 K0⟩),(.loop (q3q 10 (q4q Tryz.f56) .skip),⟨valid_shape_i10,valid_shape_o10,lp valid_shape_s10 K0⟩),(.loop (q3q 17 (q4q Tryz.f56) .skip),⟨valid_shape_i17,valid_shape_o17,lp valid_shape_s17 K0⟩),(.loop (q3q 25 (q4q Tryz.f56) .skip),⟨valid_shape_i25,valid_shape_o25,lp valid_shape_s25 K0⟩)]) (by kernel_rfl) ⟨valid_shape_p3 H,valid_shape_p10 H,valid_shape_p17 H,valid_shape_p25 H,trivial⟩) (by decide) (fun _=>rfl) (fun x r h=>(valid_shape_eq x.1).trans h)
theorem n61 {T:Told} (H:Hands T):EnvOk T Tryz.prog (envL e61):=q5q (l:=e61) trivial
theorem nat_trim_p2 {T:Told} (H:Hands T):q12q T Tryz.prog 23 (.loop (q3q 2 (q4q Tryz.f61) .skip)) ⟨nat_trim_i2,nat_trim_o2,lp nat_trim_s2 K0⟩ :=
 q7q H.ty (n61 H) hm (q1q (l:=[]) (by kernel_rfl) trivial) nat_trim_l2 K0
theorem ok61 {T:Told} (H:Hands T):CtrOk T Tryz.prog 61 c61 :=
 fn_ok H.ty (n61 H) hm (lh:=nat_trim_lh) (ct:=c61) (dcd:=fun y=>(y.2.1)) Tryz.func61 (by kernel_rfl) (by rfl) (q1q (l:=[(.loop (q3q 2 (q4q Tryz.f61) .skip),⟨nat_trim_i2,nat_trim_o2,lp nat_trim_s2 K0⟩)]) (by kernel_rfl) ⟨nat_trim_p2 H,trivial⟩) (by decide) (fun _=>rfl) (fun x r h=>(nat_trim_eq x.1).trans h)
theorem n37 {T:Told} (H:Hands T):EnvOk T Tryz.prog (envL e37):=q5q (l:=e37) ⟨ok61 H,trivial⟩
theorem ok37 {T:Told} (H:Hands T):CtrOk T Tryz.prog 37 c37 :=
 fn_ok H.ty (n37 H) hm (lh:=nat_Of_lh) (ct:=c37) (dcd:=fun y=>(y.2.1)) Tryz.func37 (by kernel_rfl) (by rfl) (q1q (l:=[]) (by kernel_rfl) trivial) (by decide) (fun _=>rfl) (fun x r h=>(nat_Of_eq x.1).trans h)
theorem n25 {T:Told} (H:Hands T):EnvOk T Tryz.prog (envL e25):=q5q (l:=e25) ⟨ok37 H,trivial⟩
theorem ok25 {T:Told} (H:Hands T):CtrOk T Tryz.prog 25 c25 :=
 fn_ok H.ty (n25 H) hm (lh:=ratio_Zero_lh) (ct:=c25) (dcd:=fun y=>(y.2.1)) Tryz.func25 (by kernel_rfl) (by rfl) (q1q (l:=[]) (by kernel_rfl) trivial) (by decide) (fun _=>rfl) (fun x r h=>(ratio_Zero_eq ).trans h)
theorem n66 {T:Told} (H:Hands T):EnvOk T Tryz.prog (envL e66):=q5q (l:=e66) ⟨ok61 H,trivial⟩
theorem nat_Clean_p3 {T:Told} (H:Hands T):q12q T Tryz.prog 24 (.loop (q3q 3 (q4q Tryz.f66) .skip)) ⟨nat_Clean_i3,nat_Clean_o3,lp nat_Clean_s3 K0⟩ :=
 q7q H.ty (n66 H) hm (q1q (l:=[]) (by kernel_rfl) trivial) nat_Clean_l3 K0
theorem ok66 {T:Told} (H:Hands T):CtrOk T Tryz.prog 66 c66 :=
 fn_ok H.ty (n66 H) hm (lh:=nat_Clean_lh) (ct:=c66) (dcd:=fun y=>(y.2.1)) Tryz.func66 (by kernel_rfl) (by rfl) (q1q (l:=[(.loop (q3q 3 (q4q Tryz.f66) .skip),⟨nat_Clean_i3,nat_Clean_o3,lp nat_Clean_s3 K0⟩)]) (by kernel_rfl) ⟨nat_Clean_p3 H,trivial⟩) (by decide) (fun _=>rfl) (fun x r h=>(nat_Clean_eq x.1).trans h)
theorem n127 {T:Told} (H:Hands T):EnvOk T Tryz.prog (envL e127):=q5q (l:=e127) ⟨ok66 H,trivial⟩
theorem ok127 {T:Told} (H:Hands T):CtrOk T Tryz.prog 127 c127 :=
 fn_ok H.ty (n127 H) hm (lh:=nat_To_lh) (ct:=c127) (dcd:=fun y=>(y.2.1,y.2.2.1)) Tryz.func127 (by kernel_rfl) (by rfl) (q1q (l:=[]) (by kernel_rfl) trivial) (by decide) (fun _=>rfl) (fun x r h=>(nat_To_eq x.1).trans h)
theorem n109 {T:Told} (H:Hands T):EnvOk T Tryz.prog (envL e109):=q5q (l:=e109) ⟨ok37 H,ok127 H,trivial⟩
theorem nat_euclid_p3 {T:Told} (H:Hands T):q12q T Tryz.prog 27 (.loop (q3q 3 (q4q Tryz.f109) .skip)) ⟨nat_euclid_i3,nat_euclid_o3,lp nat_euclid_s3 K0⟩ :=
 q7q H.ty (n109 H) hm (q1q (l:=[]) (by kernel_rfl) trivial) nat_euclid_l3 K0
theorem ok109 {T:Told} (H:Hands T):CtrOk T Tryz.prog 109 c109 :=
 fn_ok H.ty (n109 H) hm (lh:=nat_euclid_lh) (ct:=c109) (dcd:=fun y=>(y.2.1)) Tryz.func109 (by kernel_rfl) (by rfl) (q1q (l:=[(.loop (q3q 3 (q4q Tryz.f109) .skip),⟨nat_euclid_i3,nat_euclid_o3,lp nat_euclid_s3 K0⟩)]) (by kernel_rfl) ⟨nat_euclid_p3 H,trivial⟩) (by decide) (fun _=>rfl) (fun x r h=>(nat_euclid_eq x.1 x.2.1).trans h)
theorem n110 {T:Told} (H:Hands T):EnvOk T Tryz.prog (envL e110):=q5q (l:=e110) ⟨H.h128,trivial⟩
theorem nat_zeros_p3 {T:Told} (H:Hands T):q12q T Tryz.prog 24 (.loop (q3q 3 (q4q Tryz.f110) .skip)) ⟨nat_zeros_i3,nat_zeros_o3,lp nat_zeros_s3 K0⟩ :=
 q7q H.ty (n110 H) hm (q1q (l:=[]) (by kernel_rfl) trivial) nat_zeros_l3 K0
theorem ok110 {T:Told} (H:Hands T):CtrOk T Tryz.prog 110 c110 :=
 fn_ok H.ty (n110 H) hm (lh:=nat_zeros_lh) (ct:=c110) (dcd:=fun y=>(y.2.1)) Tryz.func110 (by kernel_rfl) (by rfl) (q1q (l:=[(.loop (q3q 3 (q4q Tryz.f110) .skip),⟨nat_zeros_i3,nat_zeros_o3,lp nat_zeros_s3 K0⟩)]) (by kernel_rfl) ⟨nat_zeros_p3 H,trivial⟩) (by decide) (fun _=>rfl) (fun x r h=>(nat_zeros_eq x.1).trans h)
theorem n118 {T:Told} (H:Hands T):EnvOk T Tryz.prog (envL e118):=q5q (l:=e118) trivial
theorem ok118 {T:Told} (H:Hands T):CtrOk T Tryz.prog 118 c118 :=
 fn_ok H.ty (n118 H) hm (lh:=nat_limb_lh) (ct:=c118) (dcd:=fun y=>(y.2.1)) Tryz.func118 (by kernel_rfl) (by rfl) (q1q (l:=[]) (by kernel_rfl) trivial) (by decide) (fun _=>rfl) (fun x r h=>(nat_limb_eq x.1 x.2.1).trans h)
theorem n111 {T:Told} (H:Hands T):EnvOk T Tryz.prog (envL e111):=q5q (l:=e111) ⟨ok61 H,ok118 H,trivial⟩
theorem nat_shr_p6 {T:Told} (H:Hands T):q12q T Tryz.prog 50 (.loop (q3q 6 (q4q Tryz.f111) .skip)) ⟨nat_shr_i6,nat_shr_o6,lp nat_shr_s6 K0⟩ :=
 q7q H.ty (n111 H) hm (q1q (l:=[]) (by kernel_rfl) trivial) nat_shr_l6 K0
theorem ok111 {T:Told} (H:Hands T):CtrOk T Tryz.prog 111 c111 :=
 fn_ok H.ty (n111 H) hm (lh:=nat_shr_lh) (ct:=c111) (dcd:=fun y=>(y.2.1)) Tryz.func111 (by kernel_rfl) (by rfl) (q1q (l:=[(.loop (q3q 6 (q4q Tryz.f111) .skip),⟨nat_shr_i6,nat_shr_o6,lp nat_shr_s6 K0⟩)]) (by kernel_rfl) ⟨nat_shr_p6 H,trivial⟩) (by decide) (fun _=>rfl) (fun x r h=>(nat_shr_eq x.1 x.2.1).trans h)
theorem n112 {T:Told} (H:Hands T):EnvOk T Tryz.prog (envL e112):=q5q (l:=e112) trivial
theorem nat_order_p6 {T:Told} (H:Hands T):q12q T Tryz.prog 45 (.loop (q3q 6 (q4q Tryz.f112) .skip)) ⟨nat_order_i6,nat_order_o6,lp nat_order_s6 K0⟩ :=
 q7q H.ty (n112 H) hm (q1q (l:=[]) (by kernel_rfl) trivial) nat_order_l6 K0
theorem ok112 {T:Told} (H:Hands T):CtrOk T Tryz.prog 112 c112 :=
 fn_ok H.ty (n112 H) hm (lh:=nat_order_lh) (ct:=c112) (dcd:=fun y=>(y.2.1)) Tryz.func112 (by kernel_rfl) (by rfl) (q1q (l:=[(.loop (q3q 6 (q4q Tryz.f112) .skip),⟨nat_order_i6,nat_order_o6,lp nat_order_s6 K0⟩)]) (by kernel_rfl) ⟨nat_order_p6 H,trivial⟩) (by decide) (fun _=>rfl) (fun x r h=>(nat_order_eq x.1 x.2.1).trans h)
theorem n113 {T:Told} (H:Hands T):EnvOk T Tryz.prog (envL e113):=q5q (l:=e113) ⟨ok61 H,trivial⟩
theorem nat_shl_p4 {T:Told} (H:Hands T):q12q T Tryz.prog 51 (.loop (q3q 4 (q4q Tryz.f113) .skip)) ⟨nat_shl_i4,nat_shl_o4,lp nat_shl_s4 K0⟩ :=
 q7q H.ty (n113 H) hm (q1q (l:=[]) (by kernel_rfl) trivial) nat_shl_l4 K0
theorem ok113 {T:Told} (H:Hands T):CtrOk T Tryz.prog 113 c113 :=
 fn_ok H.ty (n113 H) hm (lh:=nat_shl_lh) (ct:=c113) (dcd:=fun y=>(y.2.1)) Tryz.func113 (by kernel_rfl) (by rfl) (q1q (l:=[(.loop (q3q 4 (q4q Tryz.f113) .skip),⟨nat_shl_i4,nat_shl_o4,lp nat_shl_s4 K0⟩)]) (by kernel_rfl) ⟨nat_shl_p4 H,trivial⟩) (by decide) (fun _=>rfl) (fun x r h=>(nat_shl_eq x.1 x.2.1).trans h)
theorem n116 {T:Told} (H:Hands T):EnvOk T Tryz.prog (envL e116):=q5q (l:=e116) ⟨ok61 H,trivial⟩
theorem nat_small_p4 {T:Told} (H:Hands T):q12q T Tryz.prog 38 (.loop (q3q 4 (q4q Tryz.f116) .skip)) ⟨nat_small_i4,nat_small_o4,lp nat_small_s4 K0⟩ :=
 q7q H.ty (n116 H) hm (q1q (l:=[]) (by kernel_rfl) trivial) nat_small_l4 K0
theorem ok116 {T:Told} (H:Hands T):CtrOk T Tryz.prog 116 c116 :=
 fn_ok H.ty (n116 H) hm (lh:=nat_small_lh) (ct:=c116) (dcd:=fun y=>(y.2.1,y.2.2.1)) Tryz.func116 (by kernel_rfl) (by rfl) (q1q (l:=[(.loop (q3q 4 (q4q Tryz.f116) .skip),⟨nat_small_i4,nat_small_o4,lp nat_small_s4 K0⟩)]) (by kernel_rfl) ⟨nat_small_p4 H,trivial⟩) (by decide) (fun _=>rfl) (fun x r h=>(nat_small_eq x.1 x.2.1).trans h)
theorem n129 {T:Told} (H:Hands T):EnvOk T Tryz.prog (envL e129):=q5q (l:=e129) ⟨H.h136,trivial⟩
theorem ok129 {T:Told} (H:Hands T):CtrOk T Tryz.prog 129 c129 :=
 fn_ok H.ty (n129 H) hm (lh:=bits_LeadingZeros32_lh) (ct:=c129) (dcd:=fun y=>(y.2.1)) Tryz.func129 (by kernel_rfl) (by rfl) (q1q (l:=[]) (by kernel_rfl) trivial) (by decide) (fun _=>rfl) (fun x r h=>(bits_LeadingZeros32_eq x.1).trans h)
theorem n137 {T:Told} (H:Hands T):EnvOk T Tryz.prog (envL e137):=q5q (l:=e137) ⟨ok118 H,trivial⟩
theorem nat_take_p3 {T:Told} (H:Hands T):q12q T Tryz.prog 46 (.loop (q3q 3 (q4q Tryz.f137) .skip)) ⟨nat_take_i3,nat_take_o3,lp nat_take_s3 K0⟩ :=
 q7q H.ty (n137 H) hm (q1q (l:=[]) (by kernel_rfl) trivial) nat_take_l3 K0
theorem ok137 {T:Told} (H:Hands T):CtrOk T Tryz.prog 137 c137 :=
 fn_ok H.ty (n137 H) hm (lh:=nat_take_lh) (ct:=c137) (dcd:=fun y=>(y.1.1,y.2.1)) Tryz.func137 (by kernel_rfl) (by rfl) (q1q (l:=[(.loop (q3q 3 (q4q Tryz.f137) .skip),⟨nat_take_i3,nat_take_o3,lp nat_take_s3 K0⟩)]) (by kernel_rfl) ⟨nat_take_p3 H,trivial⟩) (by decide) (fun _=>rfl) (fun x r h=>(nat_take_eq x.1 x.2.1 x.2.2.1).trans h)
theorem n138 {T:Told} (H:Hands T):EnvOk T Tryz.prog (envL e138):=q5q (l:=e138) ⟨ok118 H,trivial⟩
theorem nat_give_p2 {T:Told} (H:Hands T):q12q T Tryz.prog 29 (.loop (q3q 2 (q4q Tryz.f138) .skip)) ⟨nat_give_i2,nat_give_o2,lp nat_give_s2 K0⟩ :=
 q7q H.ty (n138 H) hm (q1q (l:=[]) (by kernel_rfl) trivial) nat_give_l2 K0
theorem ok138 {T:Told} (H:Hands T):CtrOk T Tryz.prog 138 c138 :=
 fn_ok H.ty (n138 H) hm (lh:=nat_give_lh) (ct:=c138) (dcd:=fun y=>(y.1.1)) Tryz.func138 (by kernel_rfl) (by rfl) (q1q (l:=[(.loop (q3q 2 (q4q Tryz.f138) .skip),⟨nat_give_i2,nat_give_o2,lp nat_give_s2 K0⟩)]) (by kernel_rfl) ⟨nat_give_p2 H,trivial⟩) (by decide) (fun _=>rfl) (fun x r h=>(nat_give_eq x.1 x.2.1).trans h)
theorem n130 {T:Told} (H:Hands T):EnvOk T Tryz.prog (envL e130):=q5q (l:=e130) ⟨ok137 H,ok138 H,trivial⟩
theorem nat_digit_p4 {T:Told} (H:Hands T):q12q T Tryz.prog 77 (.loop (q3q 4 (q4q Tryz.f130) .skip)) ⟨nat_digit_i4,nat_digit_o4,lp nat_digit_s4 K0⟩ :=
 q7q H.ty (n130 H) hm (q1q (l:=[]) (by kernel_rfl) trivial) nat_digit_l4 K0
theorem ok130 {T:Told} (H:Hands T):CtrOk T Tryz.prog 130 c130 :=
 fn_ok H.ty (n130 H) hm (lh:=nat_digit_lh) (ct:=c130) (dcd:=fun y=>(y.1.1,y.2.1)) Tryz.func130 (by kernel_rfl) (by rfl) (q1q (l:=[(.loop (q3q 4 (q4q Tryz.f130) .skip),⟨nat_digit_i4,nat_digit_o4,lp nat_digit_s4 K0⟩)]) (by kernel_rfl) ⟨nat_digit_p4 H,trivial⟩) (by decide) (fun _=>rfl) (fun x r h=>(nat_digit_eq x.1 x.2.1).trans h)
theorem n117 {T:Told} (H:Hands T):EnvOk T Tryz.prog (envL e117):=q5q (l:=e117) ⟨ok61 H,ok111 H,ok113 H,ok129 H,ok130 H,trivial⟩
theorem nat_long_p7 {T:Told} (H:Hands T):q12q T Tryz.prog 64 (.loop (q3q 7 (q4q Tryz.f117) .skip)) ⟨nat_long_i7,nat_long_o7,lp nat_long_s7 K0⟩ :=
 q7q H.ty (n117 H) hm (q1q (l:=[]) (by kernel_rfl) trivial) nat_long_l7 K0
theorem ok117 {T:Told} (H:Hands T):CtrOk T Tryz.prog 117 c117 :=
 fn_ok H.ty (n117 H) hm (lh:=nat_long_lh) (ct:=c117) (dcd:=fun y=>(y.2.1,y.2.2.1)) Tryz.func117 (by kernel_rfl) (by rfl) (q1q (l:=[(.loop (q3q 7 (q4q Tryz.f117) .skip),⟨nat_long_i7,nat_long_o7,lp nat_long_s7 K0⟩)]) (by kernel_rfl) ⟨nat_long_p7 H,trivial⟩) (by decide) (fun _=>rfl) (fun x r h=>(nat_long_eq x.1 x.2.1).trans h)
theorem n81 {T:Told} (H:Hands T):EnvOk T Tryz.prog (envL e81):=q5q (l:=e81) ⟨ok37 H,ok66 H,ok112 H,ok116 H,ok117 H,trivial⟩
theorem ok81 {T:Told} (H:Hands T):CtrOk T Tryz.prog 81 c81 :=
 fn_ok H.ty (n81 H) hm (lh:=nat_DivMod_lh) (ct:=c81) (dcd:=fun y=>(y.2.1,y.2.2.1,y.2.2.2.1)) Tryz.func81 (by kernel_rfl) (by rfl) (q1q (l:=[]) (by kernel_rfl) trivial) (by decide) (fun _=>rfl) (fun x r h=>(nat_DivMod_eq x.1 x.2.1).trans h)
theorem n114 {T:Told} (H:Hands T):EnvOk T Tryz.prog (envL e114):=q5q (l:=e114) ⟨ok81 H,trivial⟩
theorem ok114 {T:Told} (H:Hands T):CtrOk T Tryz.prog 114 c114 :=
 fn_ok H.ty (n114 H) hm (lh:=nat_rest_lh) (ct:=c114) (dcd:=fun y=>(y.2.1,y.2.2.1)) Tryz.func114 (by kernel_rfl) (by rfl) (q1q (l:=[]) (by kernel_rfl) trivial) (by decide) (fun _=>rfl) (fun x r h=>(nat_rest_eq x.1 x.2.1).trans h)
theorem n115 {T:Told} (H:Hands T):EnvOk T Tryz.prog (envL e115):=q5q (l:=e115) ⟨ok61 H,ok118 H,trivial⟩
theorem nat_minus_p4 {T:Told} (H:Hands T):q12q T Tryz.prog 39 (.loop (q3q 4 (q4q Tryz.f115) .skip)) ⟨nat_minus_i4,nat_minus_o4,lp nat_minus_s4 K0⟩ :=
 q7q H.ty (n115 H) hm (q1q (l:=[]) (by kernel_rfl) trivial) nat_minus_l4 K0
theorem ok115 {T:Told} (H:Hands T):CtrOk T Tryz.prog 115 c115 :=
 fn_ok H.ty (n115 H) hm (lh:=nat_minus_lh) (ct:=c115) (dcd:=fun y=>(y.2.1)) Tryz.func115 (by kernel_rfl) (by rfl) (q1q (l:=[(.loop (q3q 4 (q4q Tryz.f115) .skip),⟨nat_minus_i4,nat_minus_o4,lp nat_minus_s4 K0⟩)]) (by kernel_rfl) ⟨nat_minus_p4 H,trivial⟩) (by decide) (fun _=>rfl) (fun x r h=>(nat_minus_eq x.1 x.2.1).trans h)
theorem n80 {T:Told} (H:Hands T):EnvOk T Tryz.prog (envL e80):=q5q (l:=e80) ⟨ok66 H,ok109 H,ok110 H,ok111 H,ok112 H,ok113 H,ok114 H,ok115 H,trivial⟩
theorem nat_Gcd_p10 {T:Told} (H:Hands T):q12q T Tryz.prog 86 (.loop (q3q 10 (q4q Tryz.f80) .skip)) ⟨nat_Gcd_i10,nat_Gcd_o10,lp nat_Gcd_s10 K0⟩ :=
 q7q H.ty (n80 H) hm (q1q (l:=[]) (by kernel_rfl) trivial) nat_Gcd_l10 K0
theorem ok80 {T:Told} (H:Hands T):CtrOk T Tryz.prog 80 c80 :=
 fn_ok H.ty (n80 H) hm (lh:=nat_Gcd_lh) (ct:=c80) (dcd:=fun y=>(y.2.1)) Tryz.func80 (by kernel_rfl) (by rfl) (q1q (l:=[(.loop (q3q 10 (q4q Tryz.f80) .skip),⟨nat_Gcd_i10,nat_Gcd_o10,lp nat_Gcd_s10 K0⟩)]) (by kernel_rfl) ⟨nat_Gcd_p10 H,trivial⟩) (by decide) (fun _=>rfl) (fun x r h=>(nat_Gcd_eq x.1 x.2.1).trans h)
theorem n48 {T:Told} (H:Hands T):EnvOk T Tryz.prog (envL e48):=q5q (l:=e48) ⟨ok37 H,ok80 H,ok81 H,trivial⟩
theorem ok48 {T:Told} (H:Hands T):CtrOk T Tryz.prog 48 c48 :=
 fn_ok H.ty (n48 H) hm (lh:=ratio_form_lh) (ct:=c48) (dcd:=fun y=>(y.2.1)) Tryz.func48 (by kernel_rfl) (by rfl) (q1q (l:=[]) (by kernel_rfl) trivial) (by decide) (fun _=>rfl) (fun x r h=>(ratio_form_eq x.1 x.2.1).trans h)
theorem n60 {T:Told} (H:Hands T):EnvOk T Tryz.prog (envL e60):=q5q (l:=e60) trivial
theorem ok60 {T:Told} (H:Hands T):CtrOk T Tryz.prog 60 c60 :=
 fn_ok H.ty (n60 H) hm (lh:=whole_sign_lh) (ct:=c60) (dcd:=fun y=>(y.2.1)) Tryz.func60 (by kernel_rfl) (by rfl) (q1q (l:=[]) (by kernel_rfl) trivial) (by decide) (fun _=>rfl) (fun x r h=>(whole_sign_eq x.1 x.2.1).trans h)
theorem n63 {T:Told} (H:Hands T):EnvOk T Tryz.prog (envL e63):=q5q (l:=e63) ⟨ok60 H,ok66 H,trivial⟩
theorem ok63 {T:Told} (H:Hands T):CtrOk T Tryz.prog 63 c63 :=
 fn_ok H.ty (n63 H) hm (lh:=whole_Clean_lh) (ct:=c63) (dcd:=fun y=>(y.2.1)) Tryz.func63 (by kernel_rfl) (by rfl) (q1q (l:=[]) (by kernel_rfl) trivial) (by decide) (fun _=>rfl) (fun x r h=>(whole_Clean_eq x.1).trans h)
theorem n40 {T:Told} (H:Hands T):EnvOk T Tryz.prog (envL e40):=q5q (l:=e40) ⟨ok25 H,ok48 H,ok63 H,ok66 H,trivial⟩
theorem ok40 {T:Told} (H:Hands T):CtrOk T Tryz.prog 40 c40 :=
 fn_ok H.ty (n40 H) hm (lh:=ratio_Clean_lh) (ct:=c40) (dcd:=fun y=>(y.2.1)) Tryz.func40 (by kernel_rfl) (by rfl) (q1q (l:=[]) (by kernel_rfl) trivial) (by decide) (fun _=>rfl) (fun x r h=>(ratio_Clean_eq x.1).trans h)
theorem n64 {T:Told} (H:Hands T):EnvOk T Tryz.prog (envL e64):=q5q (l:=e64) ⟨ok63 H,trivial⟩
theorem ok64 {T:Told} (H:Hands T):CtrOk T Tryz.prog 64 c64 :=
 fn_ok H.ty (n64 H) hm (lh:=whole_Sign_lh) (ct:=c64) (dcd:=fun y=>(y.2.1)) Tryz.func64 (by kernel_rfl) (by rfl) (q1q (l:=[]) (by kernel_rfl) trivial) (by decide) (fun _=>rfl) (fun x r h=>(whole_Sign_eq x.1).trans h)
theorem n85 {T:Told} (H:Hands T):EnvOk T Tryz.prog (envL e85):=q5q (l:=e85) ⟨ok40 H,ok64 H,trivial⟩
theorem ok85 {T:Told} (H:Hands T):CtrOk T Tryz.prog 85 c85 :=
 fn_ok H.ty (n85 H) hm (lh:=ratio_Sign_lh) (ct:=c85) (dcd:=fun y=>(y.2.1)) Tryz.func85 (by kernel_rfl) (by rfl) (q1q (l:=[]) (by kernel_rfl) trivial) (by decide) (fun _=>rfl) (fun x r h=>(ratio_Sign_eq x.1).trans h)
theorem n57 {T:Told} (H:Hands T):EnvOk T Tryz.prog (envL e57):=q5q (l:=e57) ⟨ok85 H,trivial⟩
theorem valid_covers_p2 {T:Told} (H:Hands T):q12q T Tryz.prog 19 (.loop (q3q 2 (q4q Tryz.f57) .skip)) ⟨valid_covers_i2,valid_covers_o2,lp valid_covers_s2 K0⟩ :=
 q7q H.ty (n57 H) hm (q1q (l:=[]) (by kernel_rfl) trivial) valid_covers_l2 K0
theorem ok57 {T:Told} (H:Hands T):CtrOk T Tryz.prog 57 c57 :=
 fn_ok H.ty (n57 H) hm (lh:=valid_covers_lh) (ct:=c57) (dcd:=fun y=>(y.2.1,y.2.2.1)) Tryz.func57 (by kernel_rfl) (by rfl) (q1q (l:=[(.loop (q3q 2 (q4q Tryz.f57) .skip),⟨valid_covers_i2,valid_covers_o2,lp valid_covers_s2 K0⟩)]) (by kernel_rfl) ⟨valid_covers_p2 H,trivial⟩) (by decide) (fun _=>rfl) (fun x r h=>(valid_covers_eq x.1).trans h)
theorem n52 {T:Told} (H:Hands T):EnvOk T Tryz.prog (envL e52):=q5q (l:=e52) ⟨ok61 H,ok66 H,trivial⟩
theorem nat_Mul_p8 {T:Told} (H:Hands T):q12q T Tryz.prog 67 (.loop (q3q 8 (q4q Tryz.f52) .skip)) ⟨nat_Mul_i8,nat_Mul_o8,lp nat_Mul_s8 K0⟩ :=
 q7q H.ty (n52 H) hm (q1q (l:=[]) (by kernel_rfl) trivial) nat_Mul_l8 K0
theorem nat_Mul_p4 {T:Told} (H:Hands T):q12q T Tryz.prog 67 (.loop (q3q 4 (q4q Tryz.f52) .skip)) ⟨nat_Mul_i4,nat_Mul_o4,lp nat_Mul_s4 K0⟩ :=
 q7q H.ty (n52 H) hm (q1q (l:=[(.loop (q3q 8 (q4q Tryz.f52) .skip),⟨nat_Mul_i8,nat_Mul_o8,lp nat_Mul_s8 K0⟩)]) (by kernel_rfl) ⟨nat_Mul_p8 H,trivial⟩) nat_Mul_l4 K0
theorem ok52 {T:Told} (H:Hands T):CtrOk T Tryz.prog 52 c52 :=
 fn_ok H.ty (n52 H) hm (lh:=nat_Mul_lh) (ct:=c52) (dcd:=fun y=>(y.2.1)) Tryz.func52 (by kernel_rfl) (by rfl) (q1q (l:=[(.loop (q3q 4 (q4q Tryz.f52) .skip),⟨nat_Mul_i4,nat_Mul_o4,lp nat_Mul_s4 K0⟩)]) (by kernel_rfl) ⟨nat_Mul_p4 H,trivial⟩) (by decide) (fun _=>rfl) (fun x r h=>(nat_Mul_eq x.1 x.2.1).trans h)
theorem n50 {T:Told} (H:Hands T):EnvOk T Tryz.prog (envL e50):=q5q (l:=e50) ⟨ok52 H,ok60 H,ok63 H,trivial⟩
theorem ok50 {T:Told} (H:Hands T):CtrOk T Tryz.prog 50 c50 :=
 fn_ok H.ty (n50 H) hm (lh:=whole_Mul_lh) (ct:=c50) (dcd:=fun y=>(y.2.1)) Tryz.func50 (by kernel_rfl) (by rfl) (q1q (l:=[]) (by kernel_rfl) trivial) (by decide) (fun _=>rfl) (fun x r h=>(whole_Mul_eq x.1 x.2.1).trans h)
theorem n51 {T:Told} (H:Hands T):EnvOk T Tryz.prog (envL e51):=q5q (l:=e51) trivial
theorem ok51 {T:Told} (H:Hands T):CtrOk T Tryz.prog 51 c51 :=
 fn_ok H.ty (n51 H) hm (lh:=ratio_den_lh) (ct:=c51) (dcd:=fun y=>(y.2.1)) Tryz.func51 (by kernel_rfl) (by rfl) (q1q (l:=[]) (by kernel_rfl) trivial) (by decide) (fun _=>rfl) (fun x r h=>(ratio_den_eq x.1).trans h)
theorem n83 {T:Told} (H:Hands T):EnvOk T Tryz.prog (envL e83):=q5q (l:=e83) ⟨ok66 H,ok112 H,trivial⟩
theorem ok83 {T:Told} (H:Hands T):CtrOk T Tryz.prog 83 c83 :=
 fn_ok H.ty (n83 H) hm (lh:=nat_Cmp_lh) (ct:=c83) (dcd:=fun y=>(y.2.1)) Tryz.func83 (by kernel_rfl) (by rfl) (q1q (l:=[]) (by kernel_rfl) trivial) (by decide) (fun _=>rfl) (fun x r h=>(nat_Cmp_eq x.1 x.2.1).trans h)
theorem n62 {T:Told} (H:Hands T):EnvOk T Tryz.prog (envL e62):=q5q (l:=e62) ⟨ok63 H,ok83 H,trivial⟩
theorem ok62 {T:Told} (H:Hands T):CtrOk T Tryz.prog 62 c62 :=
 fn_ok H.ty (n62 H) hm (lh:=whole_Cmp_lh) (ct:=c62) (dcd:=fun y=>(y.2.1)) Tryz.func62 (by kernel_rfl) (by rfl) (q1q (l:=[]) (by kernel_rfl) trivial) (by decide) (fun _=>rfl) (fun x r h=>(whole_Cmp_eq x.1 x.2.1).trans h)
theorem n38 {T:Told} (H:Hands T):EnvOk T Tryz.prog (envL e38):=q5q (l:=e38) ⟨ok40 H,ok50 H,ok51 H,ok62 H,trivial⟩
theorem ok38 {T:Told} (H:Hands T):CtrOk T Tryz.prog 38 c38 :=
 fn_ok H.ty (n38 H) hm (lh:=ratio_Cmp_lh) (ct:=c38) (dcd:=fun y=>(y.2.1)) Tryz.func38 (by kernel_rfl) (by rfl) (q1q (l:=[]) (by kernel_rfl) trivial) (by decide) (fun _=>rfl) (fun x r h=>(ratio_Cmp_eq x.1 x.2.1).trans h)
theorem n18 {T:Told} (H:Hands T):EnvOk T Tryz.prog (envL e18):=q5q (l:=e18) ⟨ok38 H,trivial⟩
theorem ok18 {T:Told} (H:Hands T):CtrOk T Tryz.prog 18 c18 :=
 fn_ok H.ty (n18 H) hm (lh:=ratio_Same_lh) (ct:=c18) (dcd:=fun y=>(y.2.1)) Tryz.func18 (by kernel_rfl) (by rfl) (q1q (l:=[]) (by kernel_rfl) trivial) (by decide) (fun _=>rfl) (fun x r h=>(ratio_Same_eq x.1 x.2.1).trans h)
theorem n82 {T:Told} (H:Hands T):EnvOk T Tryz.prog (envL e82):=q5q (l:=e82) ⟨ok61 H,ok66 H,ok118 H,trivial⟩
theorem nat_Add_p5 {T:Told} (H:Hands T):q12q T Tryz.prog 43 (.loop (q3q 5 (q4q Tryz.f82) .skip)) ⟨nat_Add_i5,nat_Add_o5,lp nat_Add_s5 K0⟩ :=
 q7q H.ty (n82 H) hm (q1q (l:=[]) (by kernel_rfl) trivial) nat_Add_l5 K0
theorem ok82 {T:Told} (H:Hands T):CtrOk T Tryz.prog 82 c82 :=
 fn_ok H.ty (n82 H) hm (lh:=nat_Add_lh) (ct:=c82) (dcd:=fun y=>(y.2.1)) Tryz.func82 (by kernel_rfl) (by rfl) (q1q (l:=[(.loop (q3q 5 (q4q Tryz.f82) .skip),⟨nat_Add_i5,nat_Add_o5,lp nat_Add_s5 K0⟩)]) (by kernel_rfl) ⟨nat_Add_p5 H,trivial⟩) (by decide) (fun _=>rfl) (fun x r h=>(nat_Add_eq x.1 x.2.1).trans h)
theorem n84 {T:Told} (H:Hands T):EnvOk T Tryz.prog (envL e84):=q5q (l:=e84) ⟨ok66 H,ok112 H,ok115 H,trivial⟩
theorem ok84 {T:Told} (H:Hands T):CtrOk T Tryz.prog 84 c84 :=
 fn_ok H.ty (n84 H) hm (lh:=nat_Sub_lh) (ct:=c84) (dcd:=fun y=>(y.2.1,y.2.2.1)) Tryz.func84 (by kernel_rfl) (by rfl) (q1q (l:=[]) (by kernel_rfl) trivial) (by decide) (fun _=>rfl) (fun x r h=>(nat_Sub_eq x.1 x.2.1).trans h)
theorem n49 {T:Told} (H:Hands T):EnvOk T Tryz.prog (envL e49):=q5q (l:=e49) ⟨ok60 H,ok63 H,ok82 H,ok83 H,ok84 H,trivial⟩
theorem ok49 {T:Told} (H:Hands T):CtrOk T Tryz.prog 49 c49 :=
 fn_ok H.ty (n49 H) hm (lh:=whole_Add_lh) (ct:=c49) (dcd:=fun y=>(y.2.1)) Tryz.func49 (by kernel_rfl) (by rfl) (q1q (l:=[]) (by kernel_rfl) trivial) (by decide) (fun _=>rfl) (fun x r h=>(whole_Add_eq x.1 x.2.1).trans h)
theorem n30 {T:Told} (H:Hands T):EnvOk T Tryz.prog (envL e30):=q5q (l:=e30) ⟨ok40 H,ok48 H,ok49 H,ok50 H,ok51 H,ok52 H,trivial⟩
theorem ok30 {T:Told} (H:Hands T):CtrOk T Tryz.prog 30 c30 :=
 fn_ok H.ty (n30 H) hm (lh:=ratio_Add_lh) (ct:=c30) (dcd:=fun y=>(y.2.1)) Tryz.func30 (by kernel_rfl) (by rfl) (q1q (l:=[]) (by kernel_rfl) trivial) (by decide) (fun _=>rfl) (fun x r h=>(ratio_Add_eq x.1 x.2.1).trans h)
theorem n58 {T:Told} (H:Hands T):EnvOk T Tryz.prog (envL e58):=q5q (l:=e58) ⟨ok18 H,ok30 H,trivial⟩
theorem valid_sums_p2 {T:Told} (H:Hands T):q12q T Tryz.prog 37 (.loop (q3q 2 (q4q Tryz.f58) .skip)) ⟨valid_sums_i2,valid_sums_o2,lp valid_sums_s2 K0⟩ :=
 q7q H.ty (n58 H) hm (q1q (l:=[]) (by kernel_rfl) trivial) valid_sums_l2 K0
theorem ok58 {T:Told} (H:Hands T):CtrOk T Tryz.prog 58 c58 :=
 fn_ok H.ty (n58 H) hm (lh:=valid_sums_lh) (ct:=c58) (dcd:=fun y=>(y.2.1,y.2.2.1)) Tryz.func58 (by kernel_rfl) (by rfl) (q1q (l:=[(.loop (q3q 2 (q4q Tryz.f58) .skip),⟨valid_sums_i2,valid_sums_o2,lp valid_sums_s2 K0⟩)]) (by kernel_rfl) ⟨valid_sums_p2 H,trivial⟩) (by decide) (fun _=>rfl) (fun x r h=>(valid_sums_eq x.1).trans h)
theorem n59 {T:Told} (H:Hands T):EnvOk T Tryz.prog (envL e59):=q5q (l:=e59) trivial
theorem ok59 {T:Told} (H:Hands T):CtrOk T Tryz.prog 59 c59 :=
 fn_ok H.ty (n59 H) hm (lh:=valid_fault_lh) (ct:=c59) (dcd:=fun y=>(y.2.1)) Tryz.func59 (by kernel_rfl) (by rfl) (q1q (l:=[]) (by kernel_rfl) trivial) (by decide) (fun _=>rfl) (fun x r h=>(valid_fault_eq x.1 x.2.1 x.2.2.1).trans h)
theorem n35 {T:Told} (H:Hands T):EnvOk T Tryz.prog (envL e35):=q5q (l:=e35) ⟨ok54 H,ok55 H,ok56 H,ok57 H,ok58 H,ok59 H,trivial⟩
theorem valid_Check_p7 {T:Told} (H:Hands T):q12q T Tryz.prog 63 (.loop (q3q 7 (q4q Tryz.f35) .skip)) ⟨valid_Check_i7,valid_Check_o7,lp valid_Check_s7 K0⟩ :=
 q7q H.ty (n35 H) hm (q1q (l:=[]) (by kernel_rfl) trivial) valid_Check_l7 K0
theorem valid_Check_p4 {T:Told} (H:Hands T):q12q T Tryz.prog 63 (.loop (q3q 4 (q4q Tryz.f35) .skip)) ⟨valid_Check_i4,valid_Check_o4,lp valid_Check_s4 K0⟩ :=
 q7q H.ty (n35 H) hm (q1q (l:=[(.loop (q3q 7 (q4q Tryz.f35) .skip),⟨valid_Check_i7,valid_Check_o7,lp valid_Check_s7 K0⟩)]) (by kernel_rfl) ⟨valid_Check_p7 H,trivial⟩) valid_Check_l4 K0
theorem ok35 {T:Told} (H:Hands T):CtrOk T Tryz.prog 35 c35 :=
 fn_ok H.ty (n35 H) hm (lh:=valid_Check_lh) (ct:=c35) (dcd:=fun y=>(y.2.1)) Tryz.func35 (by kernel_rfl) (by rfl) (q1q (l:=[(.loop (q3q 4 (q4q Tryz.f35) .skip),⟨valid_Check_i4,valid_Check_o4,lp valid_Check_s4 K0⟩)]) (by kernel_rfl) ⟨valid_Check_p4 H,trivial⟩) (by decide) (fun _=>rfl) (fun x r h=>(valid_Check_eq x.1).trans h)
theorem n15 {T:Told} (H:Hands T):EnvOk T Tryz.prog (envL e15):=q5q (l:=e15) ⟨ok35 H,trivial⟩
theorem ok15 {T:Told} (H:Hands T):CtrOk T Tryz.prog 15 c15 :=
 fn_ok H.ty (n15 H) hm (lh:=valid_Ok_lh) (ct:=c15) (dcd:=fun y=>(y.2.1)) Tryz.func15 (by kernel_rfl) (by rfl) (q1q (l:=[]) (by kernel_rfl) trivial) (by decide) (fun _=>rfl) (fun x r h=>(valid_Ok_eq x.1).trans h)
theorem n6 {T:Told} (H:Hands T):EnvOk T Tryz.prog (envL e6):=q5q (l:=e6) ⟨ok15 H,trivial⟩
theorem ok6 {T:Told} (H:Hands T):CtrOk T Tryz.prog 6 c6 :=
 fn_ok H.ty (n6 H) hm (lh:=dendronlaw10_Why_lh) (ct:=c6) (dcd:=fun y=>(y.2.1)) Tryz.func6 (by kernel_rfl) (by rfl) (q1q (l:=[]) (by kernel_rfl) trivial) (by decide) (fun _=>rfl) (fun x r h=>(dendronlaw10_Why_eq x.1 x.2.1).trans h)
theorem n41 {T:Told} (H:Hands T):EnvOk T Tryz.prog (envL e41):=q5q (l:=e41) ⟨ok15 H,trivial⟩
theorem ok41 {T:Told} (H:Hands T):CtrOk T Tryz.prog 41 c41 :=
 fn_ok H.ty (n41 H) hm (lh:=route_fits_lh) (ct:=c41) (dcd:=fun y=>(y.2.1)) Tryz.func41 (by kernel_rfl) (by rfl) (q1q (l:=[]) (by kernel_rfl) trivial) (by decide) (fun _=>rfl) (fun x r h=>(route_fits_eq x.1 x.2.1).trans h)
theorem n20 {T:Told} (H:Hands T):EnvOk T Tryz.prog (envL e20):=q5q (l:=e20) ⟨ok41 H,trivial⟩
theorem ok20 {T:Told} (H:Hands T):CtrOk T Tryz.prog 20 c20 :=
 fn_ok H.ty (n20 H) hm (lh:=route_Fits_lh) (ct:=c20) (dcd:=fun y=>(y.2.1)) Tryz.func20 (by kernel_rfl) (by rfl) (q1q (l:=[]) (by kernel_rfl) trivial) (by decide) (fun _=>rfl) (fun x r h=>(route_Fits_eq x.1 x.2.1).trans h)
theorem n42 {T:Told} (H:Hands T):EnvOk T Tryz.prog (envL e42):=q5q (l:=e42) ⟨ok25 H,trivial⟩
theorem pathshap_zeros_p3 {T:Told} (H:Hands T):q12q T Tryz.prog 13 (.loop (q3q 3 (q4q Tryz.f42) .skip)) ⟨pathshap_zeros_i3,pathshap_zeros_o3,lp pathshap_zeros_s3 K0⟩ :=
 q7q H.ty (n42 H) hm (q1q (l:=[]) (by kernel_rfl) trivial) pathshap_zeros_l3 K0
theorem ok42 {T:Told} (H:Hands T):CtrOk T Tryz.prog 42 c42 :=
 fn_ok H.ty (n42 H) hm (lh:=pathshap_zeros_lh) (ct:=c42) (dcd:=fun y=>(y.2.1)) Tryz.func42 (by kernel_rfl) (by rfl) (q1q (l:=[(.loop (q3q 3 (q4q Tryz.f42) .skip),⟨pathshap_zeros_i3,pathshap_zeros_o3,lp pathshap_zeros_s3 K0⟩)]) (by kernel_rfl) ⟨pathshap_zeros_p3 H,trivial⟩) (by decide) (fun _=>rfl) (fun x r h=>(pathshap_zeros_eq x.1).trans h)
theorem n36 {T:Told} (H:Hands T):EnvOk T Tryz.prog (envL e36):=q5q (l:=e36) ⟨ok37 H,ok60 H,trivial⟩
theorem ok36 {T:Told} (H:Hands T):CtrOk T Tryz.prog 36 c36 :=
 fn_ok H.ty (n36 H) hm (lh:=whole_Of_lh) (ct:=c36) (dcd:=fun y=>(y.2.1)) Tryz.func36 (by kernel_rfl) (by rfl) (q1q (l:=[]) (by kernel_rfl) trivial) (by decide) (fun _=>rfl) (fun x r h=>(whole_Of_eq x.1).trans h)
theorem n16 {T:Told} (H:Hands T):EnvOk T Tryz.prog (envL e16):=q5q (l:=e16) ⟨ok36 H,ok37 H,trivial⟩
theorem ok16 {T:Told} (H:Hands T):CtrOk T Tryz.prog 16 c16 :=
 fn_ok H.ty (n16 H) hm (lh:=ratio_Of_lh) (ct:=c16) (dcd:=fun y=>(y.2.1)) Tryz.func16 (by kernel_rfl) (by rfl) (q1q (l:=[]) (by kernel_rfl) trivial) (by decide) (fun _=>rfl) (fun x r h=>(ratio_Of_eq x.1).trans h)
theorem n17 {T:Told} (H:Hands T):EnvOk T Tryz.prog (envL e17):=q5q (l:=e17) ⟨ok16 H,trivial⟩
theorem ok17 {T:Told} (H:Hands T):CtrOk T Tryz.prog 17 c17 :=
 fn_ok H.ty (n17 H) hm (lh:=ratio_One_lh) (ct:=c17) (dcd:=fun y=>(y.2.1)) Tryz.func17 (by kernel_rfl) (by rfl) (q1q (l:=[]) (by kernel_rfl) trivial) (by decide) (fun _=>rfl) (fun x r h=>(ratio_One_eq ).trans h)
theorem n67 {T:Told} (H:Hands T):EnvOk T Tryz.prog (envL e67):=q5q (l:=e67) ⟨ok17 H,trivial⟩
theorem ok67 {T:Told} (H:Hands T):CtrOk T Tryz.prog 67 c67 :=
 fn_okB H.ty (n67 H) hm (lh:=pathshap_New_lh) (ct:=c67) (wi:=w67) (dcd:=fun y=>(y.2.1)) Tryz.func67 (by kernel_rfl) (by rfl) (q1q (l:=[]) (by kernel_rfl) trivial) (fun _=>rfl) rfl (fun x r h=>(pathshap_New_eq ).trans h)
theorem n31 {T:Told} (H:Hands T):EnvOk T Tryz.prog (envL e31):=q5q (l:=e31) ⟨ok40 H,ok48 H,ok50 H,ok52 H,trivial⟩
theorem ok31 {T:Told} (H:Hands T):CtrOk T Tryz.prog 31 c31 :=
 fn_ok H.ty (n31 H) hm (lh:=ratio_Mul_lh) (ct:=c31) (dcd:=fun y=>(y.2.1)) Tryz.func31 (by kernel_rfl) (by rfl) (q1q (l:=[]) (by kernel_rfl) trivial) (by decide) (fun _=>rfl) (fun x r h=>(ratio_Mul_eq x.1 x.2.1).trans h)
theorem n86 {T:Told} (H:Hands T):EnvOk T Tryz.prog (envL e86):=q5q (l:=e86) trivial
theorem pathshap_Path_Find_p4 {T:Told} (H:Hands T):q12q T Tryz.prog 29 (.loop (q3q 4 (q4q Tryz.f86) .skip)) ⟨pathshap_Path_Find_i4,pathshap_Path_Find_o4,lp pathshap_Path_Find_s4 K0⟩ :=
 q7q H.ty (n86 H) hm (q1q (l:=[]) (by kernel_rfl) trivial) pathshap_Path_Find_l4 K0
theorem ok86 {T:Told} (H:Hands T):CtrOk T Tryz.prog 86 c86 :=
 fn_okB H.ty (n86 H) hm (lh:=pathshap_Path_Find_lh) (ct:=c86) (wi:=w86) (dcd:=fun y=>(y.2.1,y.2.2.1)) Tryz.func86 (by kernel_rfl) (by rfl) (q1q (l:=[(.loop (q3q 4 (q4q Tryz.f86) .skip),⟨pathshap_Path_Find_i4,pathshap_Path_Find_o4,lp pathshap_Path_Find_s4 K0⟩)]) (by kernel_rfl) ⟨pathshap_Path_Find_p4 H,trivial⟩) (fun _=>rfl) rfl (fun x r h=>(pathshap_Path_Find_eq x.1 x.2.1).trans h)
theorem n87 {T:Told} (H:Hands T):EnvOk T Tryz.prog (envL e87):=q5q (l:=e87) trivial
theorem pathshap_Path_Parts_p5 {T:Told} (H:Hands T):q12q T Tryz.prog 32 (.loop (q3q 5 (q4q Tryz.f87) .skip)) ⟨pathshap_Path_Parts_i5,pathshap_Path_Parts_o5,lp pathshap_Path_Parts_s5 K0⟩ :=
 q7q H.ty (n87 H) hm (q1q (l:=[]) (by kernel_rfl) trivial) pathshap_Path_Parts_l5 K0
theorem ok87 {T:Told} (H:Hands T):CtrOk T Tryz.prog 87 c87 :=
 fn_okB H.ty (n87 H) hm (lh:=pathshap_Path_Parts_lh) (ct:=c87) (wi:=w87) (dcd:=fun y=>(y.2.1,y.2.2.1)) Tryz.func87 (by kernel_rfl) (by rfl) (q1q (l:=[(.loop (q3q 5 (q4q Tryz.f87) .skip),⟨pathshap_Path_Parts_i5,pathshap_Path_Parts_o5,lp pathshap_Path_Parts_s5 K0⟩)]) (by kernel_rfl) ⟨pathshap_Path_Parts_p5 H,trivial⟩) (fun _=>rfl) rfl (fun x r h=>(pathshap_Path_Parts_eq x.1).trans h)
theorem n65 {T:Told} (H:Hands T):EnvOk T Tryz.prog (envL e65):=q5q (l:=e65) ⟨ok60 H,ok63 H,trivial⟩
theorem ok65 {T:Told} (H:Hands T):CtrOk T Tryz.prog 65 c65 :=
 fn_ok H.ty (n65 H) hm (lh:=whole_Neg_lh) (ct:=c65) (dcd:=fun y=>(y.2.1)) Tryz.func65 (by kernel_rfl) (by rfl) (q1q (l:=[]) (by kernel_rfl) trivial) (by decide) (fun _=>rfl) (fun x r h=>(whole_Neg_eq x.1).trans h)
theorem n39 {T:Told} (H:Hands T):EnvOk T Tryz.prog (envL e39):=q5q (l:=e39) ⟨ok48 H,ok63 H,ok64 H,ok65 H,trivial⟩
theorem ok39 {T:Told} (H:Hands T):CtrOk T Tryz.prog 39 c39 :=
 fn_ok H.ty (n39 H) hm (lh:=ratio_Make_lh) (ct:=c39) (dcd:=fun y=>(y.2.1,y.2.2.1)) Tryz.func39 (by kernel_rfl) (by rfl) (q1q (l:=[]) (by kernel_rfl) trivial) (by decide) (fun _=>rfl) (fun x r h=>(ratio_Make_eq x.1 x.2.1).trans h)
theorem n19 {T:Told} (H:Hands T):EnvOk T Tryz.prog (envL e19):=q5q (l:=e19) ⟨ok36 H,ok39 H,ok40 H,trivial⟩
theorem ok19 {T:Told} (H:Hands T):CtrOk T Tryz.prog 19 c19 :=
 fn_ok H.ty (n19 H) hm (lh:=ratio_Frac_lh) (ct:=c19) (dcd:=fun y=>(y.2.1)) Tryz.func19 (by kernel_rfl) (by rfl) (q1q (l:=[]) (by kernel_rfl) trivial) (by decide) (fun _=>rfl) (fun x r h=>(ratio_Frac_eq x.1 x.2.1).trans h)
theorem n53 {T:Told} (H:Hands T):EnvOk T Tryz.prog (envL e53):=q5q (l:=e53) ⟨ok40 H,ok65 H,trivial⟩
theorem ok53 {T:Told} (H:Hands T):CtrOk T Tryz.prog 53 c53 :=
 fn_ok H.ty (n53 H) hm (lh:=ratio_Neg_lh) (ct:=c53) (dcd:=fun y=>(y.2.1)) Tryz.func53 (by kernel_rfl) (by rfl) (q1q (l:=[]) (by kernel_rfl) trivial) (by decide) (fun _=>rfl) (fun x r h=>(ratio_Neg_eq x.1).trans h)
theorem n32 {T:Told} (H:Hands T):EnvOk T Tryz.prog (envL e32):=q5q (l:=e32) ⟨ok30 H,ok53 H,trivial⟩
theorem ok32 {T:Told} (H:Hands T):CtrOk T Tryz.prog 32 c32 :=
 fn_ok H.ty (n32 H) hm (lh:=ratio_Sub_lh) (ct:=c32) (dcd:=fun y=>(y.2.1)) Tryz.func32 (by kernel_rfl) (by rfl) (q1q (l:=[]) (by kernel_rfl) trivial) (by decide) (fun _=>rfl) (fun x r h=>(ratio_Sub_eq x.1 x.2.1).trans h)
theorem n121 {T:Told} (H:Hands T):EnvOk T Tryz.prog (envL e121):=q5q (l:=e121) ⟨ok39 H,ok40 H,ok51 H,trivial⟩
theorem ok121 {T:Told} (H:Hands T):CtrOk T Tryz.prog 121 c121 :=
 fn_ok H.ty (n121 H) hm (lh:=ratio_Inv_lh) (ct:=c121) (dcd:=fun y=>(y.2.1,y.2.2.1)) Tryz.func121 (by kernel_rfl) (by rfl) (q1q (l:=[]) (by kernel_rfl) trivial) (by decide) (fun _=>rfl) (fun x r h=>(ratio_Inv_eq x.1).trans h)
theorem n119 {T:Told} (H:Hands T):EnvOk T Tryz.prog (envL e119):=q5q (l:=e119) ⟨ok19 H,ok31 H,ok32 H,ok121 H,trivial⟩
theorem pathshap_Path_without_p7 {T:Told} (H:Hands T):q12q T Tryz.prog 104 (.loop (q3q 7 (q4q Tryz.f119) .skip)) ⟨pathshap_Path_without_i7,pathshap_Path_without_o7,lp pathshap_Path_without_s7 K0⟩ :=
 q7q H.ty (n119 H) hm (q1q (l:=[]) (by kernel_rfl) trivial) pathshap_Path_without_l7 K0
theorem ok119 {T:Told} (H:Hands T):CtrOk T Tryz.prog 119 c119 :=
 fn_okB H.ty (n119 H) hm (lh:=pathshap_Path_without_lh) (ct:=c119) (wi:=w119) (dcd:=fun y=>(y.2.1,y.2.2.1)) Tryz.func119 (by kernel_rfl) (by rfl) (q1q (l:=[(.loop (q3q 7 (q4q Tryz.f119) .skip),⟨pathshap_Path_without_i7,pathshap_Path_without_o7,lp pathshap_Path_without_s7 K0⟩)]) (by kernel_rfl) ⟨pathshap_Path_without_p7 H,trivial⟩) (fun _=>rfl) rfl (fun x r h=>(pathshap_Path_without_eq x.1 x.2.1).trans h)
theorem n88 {T:Told} (H:Hands T):EnvOk T Tryz.prog (envL e88):=q5q (l:=e88) ⟨ok119 H,trivial⟩
theorem pathshap_Path_Unwind_p8 {T:Told} (H:Hands T):q12q T Tryz.prog 66 (.loop (q3q 8 (q4q Tryz.f88) .skip)) ⟨pathshap_Path_Unwind_i8,pathshap_Path_Unwind_o8,lp pathshap_Path_Unwind_s8 K0⟩ :=
 q7q H.ty (n88 H) hm (q1q (l:=[]) (by kernel_rfl) trivial) pathshap_Path_Unwind_l8 K0
theorem ok88 {T:Told} (H:Hands T):CtrOk T Tryz.prog 88 c88 :=
 fn_okB H.ty (n88 H) hm (lh:=pathshap_Path_Unwind_lh) (ct:=c88) (wi:=w88) (dcd:=fun y=>(y.2.1,y.2.2.1)) Tryz.func88 (by kernel_rfl) (by rfl) (q1q (l:=[(.loop (q3q 8 (q4q Tryz.f88) .skip),⟨pathshap_Path_Unwind_i8,pathshap_Path_Unwind_o8,lp pathshap_Path_Unwind_s8 K0⟩)]) (by kernel_rfl) ⟨pathshap_Path_Unwind_p8 H,trivial⟩) (fun _=>rfl) rfl (fun x r h=>(pathshap_Path_Unwind_eq x.1 x.2.1).trans h)
theorem n89 {T:Told} (H:Hands T):EnvOk T Tryz.prog (envL e89):=q5q (l:=e89) ⟨ok19 H,ok25 H,ok30 H,ok31 H,ok40 H,ok85 H,ok86 H,trivial⟩
theorem pathshap_Path_Extend_p10 {T:Told} (H:Hands T):q12q T Tryz.prog 113 (.loop (q3q 10 (q4q Tryz.f89) .skip)) ⟨pathshap_Path_Extend_i10,pathshap_Path_Extend_o10,lp pathshap_Path_Extend_s10 K0⟩ :=
 q7q H.ty (n89 H) hm (q1q (l:=[]) (by kernel_rfl) trivial) pathshap_Path_Extend_l10 K0
theorem ok89 {T:Told} (H:Hands T):CtrOk T Tryz.prog 89 c89 :=
 fn_okB H.ty (n89 H) hm (lh:=pathshap_Path_Extend_lh) (ct:=c89) (wi:=w89) (dcd:=fun y=>(y.2.1,y.2.2.1)) Tryz.func89 (by kernel_rfl) (by rfl) (q1q (l:=[(.loop (q3q 10 (q4q Tryz.f89) .skip),⟨pathshap_Path_Extend_i10,pathshap_Path_Extend_o10,lp pathshap_Path_Extend_s10 K0⟩)]) (by kernel_rfl) ⟨pathshap_Path_Extend_p10 H,trivial⟩) (fun _=>rfl) rfl (fun x r h=>(pathshap_Path_Extend_eq x.1 x.2.1 x.2.2.1 x.2.2.2.1).trans h)
theorem n68 {T:Told} (H:Hands T):EnvOk T Tryz.prog (envL e68):=q5q (l:=e68) ⟨ok31 H,ok86 H,ok87 H,ok88 H,ok89 H,trivial⟩
theorem ok68 {T:Told} (H:Hands T):CtrOk T Tryz.prog 68 c68 :=
 fn_okB H.ty (n68 H) hm (lh:=pathshap_place_join_lh) (ct:=c68) (wi:=w68) (dcd:=fun y=>(y.2.1,y.2.2.1,y.2.2.2.1,y.2.2.2.2.1,y.2.2.2.2.2.1,y.2.2.2.2.2.2.1,y.2.2.2.2.2.2.2.1,y.2.2.2.2.2.2.2.2.1,y.2.2.2.2.2.2.2.2.2.1,y.2.2.2.2.2.2.2.2.2.2.1)) Tryz.func68 (by kernel_rfl) (by rfl) (q1q (l:=[]) (by kernel_rfl) trivial) (fun _=>rfl) rfl (fun x r h=>(pathshap_place_join_eq x.1 x.2.1 x.2.2.1 x.2.2.2.1 x.2.2.2.2.1 x.2.2.2.2.2.1 x.2.2.2.2.2.2.1 x.2.2.2.2.2.2.2.1 x.2.2.2.2.2.2.2.2.1 x.2.2.2.2.2.2.2.2.2.1).trans h)
theorem n120 {T:Told} (H:Hands T):EnvOk T Tryz.prog (envL e120):=q5q (l:=e120) ⟨ok25 H,ok30 H,trivial⟩
theorem ratio_Sum_p3 {T:Told} (H:Hands T):q12q T Tryz.prog 18 (.loop (q3q 3 (q4q Tryz.f120) .skip)) ⟨ratio_Sum_i3,ratio_Sum_o3,lp ratio_Sum_s3 K0⟩ :=
 q7q H.ty (n120 H) hm (q1q (l:=[]) (by kernel_rfl) trivial) ratio_Sum_l3 K0
theorem ok120 {T:Told} (H:Hands T):CtrOk T Tryz.prog 120 c120 :=
 fn_ok H.ty (n120 H) hm (lh:=ratio_Sum_lh) (ct:=c120) (dcd:=fun y=>(y.2.1)) Tryz.func120 (by kernel_rfl) (by rfl) (q1q (l:=[(.loop (q3q 3 (q4q Tryz.f120) .skip),⟨ratio_Sum_i3,ratio_Sum_o3,lp ratio_Sum_s3 K0⟩)]) (by kernel_rfl) ⟨ratio_Sum_p3 H,trivial⟩) (by decide) (fun _=>rfl) (fun x r h=>(ratio_Sum_eq x.1).trans h)
theorem n90 {T:Told} (H:Hands T):EnvOk T Tryz.prog (envL e90):=q5q (l:=e90) ⟨ok119 H,ok120 H,trivial⟩
theorem ok90 {T:Told} (H:Hands T):CtrOk T Tryz.prog 90 c90 :=
 fn_okB H.ty (n90 H) hm (lh:=pathshap_Path_Sum_lh) (ct:=c90) (wi:=w90) (dcd:=fun y=>(y.2.1,y.2.2.1,y.2.2.2.1)) Tryz.func90 (by kernel_rfl) (by rfl) (q1q (l:=[]) (by kernel_rfl) trivial) (fun _=>rfl) rfl (fun x r h=>(pathshap_Path_Sum_eq x.1 x.2.1).trans h)
theorem n69 {T:Told} (H:Hands T):EnvOk T Tryz.prog (envL e69):=q5q (l:=e69) ⟨ok17 H,ok30 H,ok31 H,ok53 H,ok87 H,ok90 H,trivial⟩
theorem pathshap_walker_leaf_p3 {T:Told} (H:Hands T):q12q T Tryz.prog 69 (.loop (q3q 3 (q4q Tryz.f69) .skip)) ⟨pathshap_walker_leaf_i3,pathshap_walker_leaf_o3,lp pathshap_walker_leaf_s3 K0⟩ :=
 q7q H.ty (n69 H) hm (q1q (l:=[]) (by kernel_rfl) trivial) pathshap_walker_leaf_l3 K0
theorem ok69 {T:Told} (H:Hands T):CtrOk T Tryz.prog 69 c69 :=
 fn_okB H.ty (n69 H) hm (lh:=pathshap_walker_leaf_lh) (ct:=c69) (wi:=w69) (dcd:=fun y=>(y.1.1,y.2.1,y.2.2.1,y.2.2.2.1,y.2.2.2.2.1,y.2.2.2.2.2.1)) Tryz.func69 (by kernel_rfl) (by rfl) (q1q (l:=[(.loop (q3q 3 (q4q Tryz.f69) .skip),⟨pathshap_walker_leaf_i3,pathshap_walker_leaf_o3,lp pathshap_walker_leaf_s3 K0⟩)]) (by kernel_rfl) ⟨pathshap_walker_leaf_p3 H,trivial⟩) (fun _=>rfl) rfl (fun x r h=>(pathshap_walker_leaf_eq x.1 x.2.1 x.2.2.1 x.2.2.2.1 x.2.2.2.2.1 x.2.2.2.2.2.1 x.2.2.2.2.2.2.1 x.2.2.2.2.2.2.2.1 x.2.2.2.2.2.2.2.2.1 x.2.2.2.2.2.2.2.2.2.1 x.2.2.2.2.2.2.2.2.2.2.1 x.2.2.2.2.2.2.2.2.2.2.2.1 x.2.2.2.2.2.2.2.2.2.2.2.2.1 x.2.2.2.2.2.2.2.2.2.2.2.2.2.1 x.2.2.2.2.2.2.2.2.2.2.2.2.2.2.1).trans h)
theorem n94 {T:Told} (H:Hands T):EnvOk T Tryz.prog (envL e94):=q5q (l:=e94) ⟨ok38 H,trivial⟩
theorem ok94 {T:Told} (H:Hands T):CtrOk T Tryz.prog 94 c94 :=
 fn_ok H.ty (n94 H) hm (lh:=route_goes_lh) (ct:=c94) (dcd:=fun y=>(y.2.1)) Tryz.func94 (by kernel_rfl) (by rfl) (q1q (l:=[]) (by kernel_rfl) trivial) (by decide) (fun _=>rfl) (fun x r h=>(route_goes_eq x.1 x.2.1).trans h)
theorem n73 {T:Told} (H:Hands T):EnvOk T Tryz.prog (envL e73):=q5q (l:=e73) ⟨ok94 H,trivial⟩
theorem ok73 {T:Told} (H:Hands T):CtrOk T Tryz.prog 73 c73 :=
 fn_ok H.ty (n73 H) hm (lh:=route_Left_lh) (ct:=c73) (dcd:=fun y=>(y.2.1)) Tryz.func73 (by kernel_rfl) (by rfl) (q1q (l:=[]) (by kernel_rfl) trivial) (by decide) (fun _=>rfl) (fun x r h=>(route_Left_eq x.1 x.2.1).trans h)
theorem n91 {T:Told} (H:Hands T):EnvOk T Tryz.prog (envL e91):=q5q (l:=e91) ⟨ok31 H,ok121 H,trivial⟩
theorem ok91 {T:Told} (H:Hands T):CtrOk T Tryz.prog 91 c91 :=
 fn_ok H.ty (n91 H) hm (lh:=ratio_Div_lh) (ct:=c91) (dcd:=fun y=>(y.2.1,y.2.2.1)) Tryz.func91 (by kernel_rfl) (by rfl) (q1q (l:=[]) (by kernel_rfl) trivial) (by decide) (fun _=>rfl) (fun x r h=>(ratio_Div_eq x.1 x.2.1).trans h)
theorem n92 {T:Told} (H:Hands T):EnvOk T Tryz.prog (envL e92):=q5q (l:=e92) trivial
theorem ok92 {T:Told} (H:Hands T):CtrOk T Tryz.prog 92 c92 :=
 fn_okB H.ty (n92 H) hm (lh:=pathshap_Path_Copy_lh) (ct:=c92) (wi:=w92) (dcd:=fun y=>(y.2.1,y.2.2.1)) Tryz.func92 (by kernel_rfl) (by rfl) (q1q (l:=[]) (by kernel_rfl) trivial) (fun _=>rfl) rfl (fun x r h=>(pathshap_Path_Copy_eq x.1).trans h)
theorem n70 {T:Told} (H:Hands T):EnvOk T Tryz.prog (envL e70):=q5q (l:=e70) ⟨ok31 H,ok73 H,ok91 H,ok92 H,trivial⟩
theorem ok70 {T:Told} (H:Hands T):CtrOk T Tryz.prog 70 c70 :=
 fn_okB H.ty (n70 H) hm (lh:=pathshap_walker_child_lh) (ct:=c70) (wi:=w70) (dcd:=fun y=>(y.1.1,y.2.1,y.2.2.1,y.2.2.2.1,y.2.2.2.2.1,y.2.2.2.2.2.1,y.2.2.2.2.2.2.1,y.2.2.2.2.2.2.2.1,y.2.2.2.2.2.2.2.2.1,y.2.2.2.2.2.2.2.2.2.1,y.2.2.2.2.2.2.2.2.2.2.1,y.2.2.2.2.2.2.2.2.2.2.2.1,y.2.2.2.2.2.2.2.2.2.2.2.2.1,y.2.2.2.2.2.2.2.2.2.2.2.2.2.1,y.2.2.2.2.2.2.2.2.2.2.2.2.2.2.1,y.2.2.2.2.2.2.2.2.2.2.2.2.2.2.2.1,y.2.2.2.2.2.2.2.2.2.2.2.2.2.2.2.2.1)) Tryz.func70 (by kernel_rfl) (by rfl) (q1q (l:=[]) (by kernel_rfl) trivial) (fun _=>rfl) rfl (fun x r h=>(pathshap_walker_child_eq x.1 x.2.1 x.2.2.1 x.2.2.2.1 x.2.2.2.2.1 x.2.2.2.2.2.1 x.2.2.2.2.2.2.1 x.2.2.2.2.2.2.2.1 x.2.2.2.2.2.2.2.2.1 x.2.2.2.2.2.2.2.2.2.1 x.2.2.2.2.2.2.2.2.2.2.1 x.2.2.2.2.2.2.2.2.2.2.2.1 x.2.2.2.2.2.2.2.2.2.2.2.2.1 x.2.2.2.2.2.2.2.2.2.2.2.2.2.1 x.2.2.2.2.2.2.2.2.2.2.2.2.2.2.1 x.2.2.2.2.2.2.2.2.2.2.2.2.2.2.2.1 x.2.2.2.2.2.2.2.2.2.2.2.2.2.2.2.2.1).trans h)
theorem n43 {T:Told} (H:Hands T):EnvOk T Tryz.prog (envL e43):=q5q (l:=e43) ⟨ok17 H,ok67 H,ok68 H,ok69 H,ok70 H,trivial⟩
theorem pathshap_walker_walk_p9 {T:Told} (H:Hands T):q12q T Tryz.prog 91 (.loop (q3q 9 (q4q Tryz.f43) .skip)) ⟨pathshap_walker_walk_i9,pathshap_walker_walk_o9,lp pathshap_walker_walk_s9 K0⟩ :=
 q7q H.ty (n43 H) hm (q1q (l:=[]) (by kernel_rfl) trivial) pathshap_walker_walk_l9 K0
theorem pathshap_walker_walk_p1 {T:Told} (H:Hands T):q12q T Tryz.prog 91 (.loop (q3q 1 (q4q Tryz.f43) .skip)) ⟨pathshap_walker_walk_i1,pathshap_walker_walk_o1,lp pathshap_walker_walk_s1 K0⟩ :=
 q7q H.ty (n43 H) hm (q1q (l:=[(.loop (q3q 9 (q4q Tryz.f43) .skip),⟨pathshap_walker_walk_i9,pathshap_walker_walk_o9,lp pathshap_walker_walk_s9 K0⟩)]) (by kernel_rfl) ⟨pathshap_walker_walk_p9 H,trivial⟩) pathshap_walker_walk_l1 K0
theorem ok43 {T:Told} (H:Hands T):CtrOk T Tryz.prog 43 c43 :=
 fn_okB H.ty (n43 H) hm (lh:=pathshap_walker_walk_lh) (ct:=c43) (wi:=w43) (dcd:=fun y=>(y.1.1,y.2.1,y.2.2.1,y.2.2.2.1,y.2.2.2.2.1,y.2.2.2.2.2.1)) Tryz.func43 (by kernel_rfl) (by rfl) (q1q (l:=[(.loop (q3q 1 (q4q Tryz.f43) .skip),⟨pathshap_walker_walk_i1,pathshap_walker_walk_o1,lp pathshap_walker_walk_s1 K0⟩)]) (by kernel_rfl) ⟨pathshap_walker_walk_p1 H,trivial⟩) (fun _=>rfl) rfl (fun x r h=>(pathshap_walker_walk_eq x.1 x.2.1 x.2.2.1 x.2.2.2.1 x.2.2.2.2.1 x.2.2.2.2.2.1).trans h)
theorem n21 {T:Told} (H:Hands T):EnvOk T Tryz.prog (envL e21):=q5q (l:=e21) ⟨ok42 H,ok43 H,trivial⟩
theorem pathshap_all_p3 {T:Told} (H:Hands T):q12q T Tryz.prog 34 (.loop (q3q 3 (q4q Tryz.f21) .skip)) ⟨pathshap_all_i3,pathshap_all_o3,lp pathshap_all_s3 K0⟩ :=
 q7q H.ty (n21 H) hm (q1q (l:=[]) (by kernel_rfl) trivial) pathshap_all_l3 K0
theorem ok21 {T:Told} (H:Hands T):CtrOk T Tryz.prog 21 c21 :=
 fn_ok H.ty (n21 H) hm (lh:=pathshap_all_lh) (ct:=c21) (dcd:=fun y=>(y.2.1)) Tryz.func21 (by kernel_rfl) (by rfl) (q1q (l:=[(.loop (q3q 3 (q4q Tryz.f21) .skip),⟨pathshap_all_i3,pathshap_all_o3,lp pathshap_all_s3 K0⟩)]) (by kernel_rfl) ⟨pathshap_all_p3 H,trivial⟩) (by decide) (fun _=>rfl) (fun x r h=>(pathshap_all_eq x.1 x.2.1 x.2.2.1 x.2.2.2.1).trans h)
theorem n8 {T:Told} (H:Hands T):EnvOk T Tryz.prog (envL e8):=q5q (l:=e8) ⟨ok20 H,ok21 H,trivial⟩
theorem ok8 {T:Told} (H:Hands T):CtrOk T Tryz.prog 8 c8 :=
 fn_ok H.ty (n8 H) hm (lh:=pathshap_Values_lh) (ct:=c8) (dcd:=fun y=>(y.2.1,y.2.2.1)) Tryz.func8 (by kernel_rfl) (by rfl) (q1q (l:=[]) (by kernel_rfl) trivial) (by decide) (fun _=>rfl) (fun x r h=>(pathshap_Values_eq x.1 x.2.1).trans h)
theorem n7 {T:Told} (H:Hands T):EnvOk T Tryz.prog (envL e7):=q5q (l:=e7) ⟨ok8 H,ok16 H,ok17 H,ok18 H,ok19 H,trivial⟩
theorem dendronlaw15_awake_cF {r} (h:c7.F ()=r):dendronlaw15_awake=r:=by
 subst h
 delta c7
 exact(@F_in [] _ _ (fun _=>dendronlaw15_awake) _ _ () _ rfl).symm
theorem dendronlaw15_awake_fx (x) (r:c7.T) (h:c7.F x=some r):fnF tb (envL e7) Tryz.f7 dendronlaw15_awake_lh c7.ps c7.rs (T:=c7.T) (fun y=>(y.2.1)) x=some r:=by
 cases x
 exact dendronlaw15_awake_eq.trans (dendronlaw15_awake_cF h)
theorem ok7 {T:Told} (H:Hands T):CtrOk T Tryz.prog 7 c7 :=
 fn_ok H.ty (n7 H) hm (lh:=dendronlaw15_awake_lh) (ct:=c7) (dcd:=fun y=>(y.2.1)) Tryz.func7 (by kernel_rfl) (by rfl) (q1q (l:=[]) (by kernel_rfl) trivial) (by decide) (fun _=>rfl) (fun x r h=>dendronlaw15_awake_fx x r h)
theorem n71 {T:Told} (H:Hands T):EnvOk T Tryz.prog (envL e71):=q5q (l:=e71) trivial
theorem ok71 {T:Told} (H:Hands T):CtrOk T Tryz.prog 71 c71 :=
 fn_ok H.ty (n71 H) hm (lh:=expect_known_lh) (ct:=c71) (dcd:=fun y=>(y.2.1)) Tryz.func71 (by kernel_rfl) (by rfl) (q1q (l:=[]) (by kernel_rfl) trivial) (by decide) (fun _=>rfl) (fun x r h=>(expect_known_eq x.1 x.2.1).trans h)
theorem n93 {T:Told} (H:Hands T):EnvOk T Tryz.prog (envL e93):=q5q (l:=e93) ⟨ok91 H,trivial⟩
theorem ok93 {T:Told} (H:Hands T):CtrOk T Tryz.prog 93 c93 :=
 fn_ok H.ty (n93 H) hm (lh:=expect_over_lh) (ct:=c93) (dcd:=fun y=>(y.2.1)) Tryz.func93 (by kernel_rfl) (by rfl) (q1q (l:=[]) (by kernel_rfl) trivial) (by decide) (fun _=>rfl) (fun x r h=>(expect_over_eq x.1 x.2.1).trans h)
theorem n72 {T:Told} (H:Hands T):EnvOk T Tryz.prog (envL e72):=q5q (l:=e72) ⟨ok30 H,ok31 H,ok93 H,trivial⟩
theorem ok72 {T:Told} (H:Hands T):CtrOk T Tryz.prog 72 c72 :=
 fn_ok H.ty (n72 H) hm (lh:=expect_mean_lh) (ct:=c72) (dcd:=fun y=>(y.2.1)) Tryz.func72 (by kernel_rfl) (by rfl) (q1q (l:=[]) (by kernel_rfl) trivial) (by decide) (fun _=>rfl) (fun x r h=>(expect_mean_eq x.1 x.2.1 x.2.2.1 x.2.2.2.1).trans h)
theorem n44 {T:Told} (H:Hands T) (n:Nat) (hr:CtrOk T Tryz.prog 44 (c44 n)):EnvOk T Tryz.prog (envL (e44 n)):=q5q (l:=(e44 n)) ⟨ok40 H,hr,ok71 H,ok72 H,ok73 H,trivial⟩
theorem ok44 {T:Told} (H:Hands T):∀ n,CtrOk T Tryz.prog 44 (c44 n)
 | 0=>CtrOk.never Tryz.func44 (by kernel_rfl) (by rfl) (fun _=>rfl)
 | n+1=>fn_ok H.ty (n44 H n (ok44 H n)) hm (lh:=expect_value_lh n) (ct:=c44 (n+1)) (dcd:=fun y=>(y.2.1)) Tryz.func44 (by kernel_rfl) (by rfl) (q1q (l:=[]) (by kernel_rfl) trivial) (Nat.le_of_ble_eq_true rfl) (fun _=>rfl) (fun x r h=>(expect_value_eq n x.1 x.2.1 x.2.2.1 x.2.2.2.1).trans h)
theorem n22 {T:Told} (H:Hands T):EnvOk T Tryz.prog (envL e22):=q5q (l:=e22) ⟨ok20 H,ok25 H,ok30 H,ok44 H R0,trivial⟩
theorem expect_Value_p6 {T:Told} (H:Hands T):q12q T Tryz.prog 35 (.loop (q3q 6 (q4q Tryz.f22) .skip)) ⟨expect_Value_i6,expect_Value_o6,lp expect_Value_s6 K0⟩ :=
 q7q H.ty (n22 H) hm (q1q (l:=[]) (by kernel_rfl) trivial) expect_Value_l6 K0
theorem ok22 {T:Told} (H:Hands T):CtrOk T Tryz.prog 22 c22 :=
 fn_ok H.ty (n22 H) hm (lh:=expect_Value_lh) (ct:=c22) (dcd:=fun y=>(y.2.1,y.2.2.1)) Tryz.func22 (by kernel_rfl) (by rfl) (q1q (l:=[(.loop (q3q 6 (q4q Tryz.f22) .skip),⟨expect_Value_i6,expect_Value_o6,lp expect_Value_s6 K0⟩)]) (by kernel_rfl) ⟨expect_Value_p6 H,trivial⟩) (by decide) (fun _=>rfl) (fun x r h=>(expect_Value_eq x.1 x.2.1 x.2.2.1).trans h)
theorem n9 {T:Told} (H:Hands T):EnvOk T Tryz.prog (envL e9):=q5q (l:=e9) ⟨ok20 H,ok22 H,trivial⟩
theorem expect_Table_p8 {T:Told} (H:Hands T):q12q T Tryz.prog 39 (.loop (q3q 8 (q4q Tryz.f9) .skip)) ⟨expect_Table_i8,expect_Table_o8,lp expect_Table_s8 K0⟩ :=
 q7q H.ty (n9 H) hm (q1q (l:=[]) (by kernel_rfl) trivial) expect_Table_l8 K0
theorem ok9 {T:Told} (H:Hands T):CtrOk T Tryz.prog 9 c9 :=
 fn_ok H.ty (n9 H) hm (lh:=expect_Table_lh) (ct:=c9) (dcd:=fun y=>(y.2.1,y.2.2.1)) Tryz.func9 (by kernel_rfl) (by rfl) (q1q (l:=[(.loop (q3q 8 (q4q Tryz.f9) .skip),⟨expect_Table_i8,expect_Table_o8,lp expect_Table_s8 K0⟩)]) (by kernel_rfl) ⟨expect_Table_p8 H,trivial⟩) (by decide) (fun _=>rfl) (fun x r h=>(expect_Table_eq x.1 x.2.1).trans h)
theorem n98 {T:Told} (H:Hands T):EnvOk T Tryz.prog (envL e98):=q5q (l:=e98) trivial
theorem dendronref01_Small_p2 {T:Told} (H:Hands T):q12q T Tryz.prog 14 (.loop (q3q 2 (q4q Tryz.f98) .skip)) ⟨dendronref01_Small_i2,dendronref01_Small_o2,lp dendronref01_Small_s2 K0⟩ :=
 q7q H.ty (n98 H) hm (q1q (l:=[]) (by kernel_rfl) trivial) dendronref01_Small_l2 K0
theorem ok98 {T:Told} (H:Hands T):CtrOk T Tryz.prog 98 c98 :=
 fn_ok H.ty (n98 H) hm (lh:=dendronref01_Small_lh) (ct:=c98) (dcd:=fun y=>(y.2.1)) Tryz.func98 (by kernel_rfl) (by rfl) (q1q (l:=[(.loop (q3q 2 (q4q Tryz.f98) .skip),⟨dendronref01_Small_i2,dendronref01_Small_o2,lp dendronref01_Small_s2 K0⟩)]) (by kernel_rfl) ⟨dendronref01_Small_p2 H,trivial⟩) (by decide) (fun _=>rfl) (fun x r h=>(dendronref01_Small_eq x.1).trans h)
theorem n123 {T:Told} (H:Hands T):EnvOk T Tryz.prog (envL e123):=q5q (l:=e123) trivial
theorem ok123 {T:Told} (H:Hands T):CtrOk T Tryz.prog 123 c123 :=
 fn_ok H.ty (n123 H) hm (lh:=dendronref01_digit_lh) (ct:=c123) (dcd:=fun y=>(y.2.1)) Tryz.func123 (by kernel_rfl) (by rfl) (q1q (l:=[]) (by kernel_rfl) trivial) (by decide) (fun _=>rfl) (fun x r h=>(dendronref01_digit_eq x.1 x.2.1).trans h)
theorem n102 {T:Told} (H:Hands T):EnvOk T Tryz.prog (envL e102):=q5q (l:=e102) ⟨ok123 H,trivial⟩
theorem dendronref01_Plus_p4 {T:Told} (H:Hands T):q12q T Tryz.prog 41 (.loop (q3q 4 (q4q Tryz.f102) .skip)) ⟨dendronref01_Plus_i4,dendronref01_Plus_o4,lp dendronref01_Plus_s4 K0⟩ :=
 q7q H.ty (n102 H) hm (q1q (l:=[]) (by kernel_rfl) trivial) dendronref01_Plus_l4 K0
theorem ok102 {T:Told} (H:Hands T):CtrOk T Tryz.prog 102 c102 :=
 fn_ok H.ty (n102 H) hm (lh:=dendronref01_Plus_lh) (ct:=c102) (dcd:=fun y=>(y.2.1)) Tryz.func102 (by kernel_rfl) (by rfl) (q1q (l:=[(.loop (q3q 4 (q4q Tryz.f102) .skip),⟨dendronref01_Plus_i4,dendronref01_Plus_o4,lp dendronref01_Plus_s4 K0⟩)]) (by kernel_rfl) ⟨dendronref01_Plus_p4 H,trivial⟩) (by decide) (fun _=>rfl) (fun x r h=>(dendronref01_Plus_eq x.1 x.2.1).trans h)
theorem n124 {T:Told} (H:Hands T):EnvOk T Tryz.prog (envL e124):=q5q (l:=e124) trivial
theorem dendronref01_Trim_p2 {T:Told} (H:Hands T):q12q T Tryz.prog 21 (.loop (q3q 2 (q4q Tryz.f124) .skip)) ⟨dendronref01_Trim_i2,dendronref01_Trim_o2,lp dendronref01_Trim_s2 K0⟩ :=
 q7q H.ty (n124 H) hm (q1q (l:=[]) (by kernel_rfl) trivial) dendronref01_Trim_l2 K0
theorem ok124 {T:Told} (H:Hands T):CtrOk T Tryz.prog 124 c124 :=
 fn_ok H.ty (n124 H) hm (lh:=dendronref01_Trim_lh) (ct:=c124) (dcd:=fun y=>(y.2.1)) Tryz.func124 (by kernel_rfl) (by rfl) (q1q (l:=[(.loop (q3q 2 (q4q Tryz.f124) .skip),⟨dendronref01_Trim_i2,dendronref01_Trim_o2,lp dendronref01_Trim_s2 K0⟩)]) (by kernel_rfl) ⟨dendronref01_Trim_p2 H,trivial⟩) (by decide) (fun _=>rfl) (fun x r h=>(dendronref01_Trim_eq x.1).trans h)
theorem n103 {T:Told} (H:Hands T):EnvOk T Tryz.prog (envL e103):=q5q (l:=e103) ⟨ok124 H,trivial⟩
theorem dendronref01_Times_p7 {T:Told} (H:Hands T):q12q T Tryz.prog 63 (.loop (q3q 7 (q4q Tryz.f103) .skip)) ⟨dendronref01_Times_i7,dendronref01_Times_o7,lp dendronref01_Times_s7 K0⟩ :=
 q7q H.ty (n103 H) hm (q1q (l:=[]) (by kernel_rfl) trivial) dendronref01_Times_l7 K0
theorem dendronref01_Times_p3 {T:Told} (H:Hands T):q12q T Tryz.prog 63 (.loop (q3q 3 (q4q Tryz.f103) .skip)) ⟨dendronref01_Times_i3,dendronref01_Times_o3,lp dendronref01_Times_s3 K0⟩ :=
 q7q H.ty (n103 H) hm (q1q (l:=[(.loop (q3q 7 (q4q Tryz.f103) .skip),⟨dendronref01_Times_i7,dendronref01_Times_o7,lp dendronref01_Times_s7 K0⟩)]) (by kernel_rfl) ⟨dendronref01_Times_p7 H,trivial⟩) dendronref01_Times_l3 K0
theorem ok103 {T:Told} (H:Hands T):CtrOk T Tryz.prog 103 c103 :=
 fn_ok H.ty (n103 H) hm (lh:=dendronref01_Times_lh) (ct:=c103) (dcd:=fun y=>(y.2.1)) Tryz.func103 (by kernel_rfl) (by rfl) (q1q (l:=[(.loop (q3q 3 (q4q Tryz.f103) .skip),⟨dendronref01_Times_i3,dendronref01_Times_o3,lp dendronref01_Times_s3 K0⟩)]) (by kernel_rfl) ⟨dendronref01_Times_p3 H,trivial⟩) (by decide) (fun _=>rfl) (fun x r h=>(dendronref01_Times_eq x.1 x.2.1).trans h)
theorem n76 {T:Told} (H:Hands T):EnvOk T Tryz.prog (envL e76):=q5q (l:=e76) ⟨ok98 H,ok102 H,ok103 H,trivial⟩
theorem dendronref01_From_p4 {T:Told} (H:Hands T):q12q T Tryz.prog 26 (.loop (q3q 4 (q4q Tryz.f76) .skip)) ⟨dendronref01_From_i4,dendronref01_From_o4,lp dendronref01_From_s4 K0⟩ :=
 q7q H.ty (n76 H) hm (q1q (l:=[]) (by kernel_rfl) trivial) dendronref01_From_l4 K0
theorem ok76 {T:Told} (H:Hands T):CtrOk T Tryz.prog 76 c76 :=
 fn_ok H.ty (n76 H) hm (lh:=dendronref01_From_lh) (ct:=c76) (dcd:=fun y=>(y.2.1)) Tryz.func76 (by kernel_rfl) (by rfl) (q1q (l:=[(.loop (q3q 4 (q4q Tryz.f76) .skip),⟨dendronref01_From_i4,dendronref01_From_o4,lp dendronref01_From_s4 K0⟩)]) (by kernel_rfl) ⟨dendronref01_From_p4 H,trivial⟩) (by decide) (fun _=>rfl) (fun x r h=>(dendronref01_From_eq x.1).trans h)
theorem n105 {T:Told} (H:Hands T):EnvOk T Tryz.prog (envL e105):=q5q (l:=e105) trivial
theorem ok105 {T:Told} (H:Hands T):CtrOk T Tryz.prog 105 c105 :=
 fn_ok H.ty (n105 H) hm (lh:=dendronref02_Make_lh) (ct:=c105) (dcd:=fun y=>(y.2.1)) Tryz.func105 (by kernel_rfl) (by rfl) (q1q (l:=[]) (by kernel_rfl) trivial) (by decide) (fun _=>rfl) (fun x r h=>(dendronref02_Make_eq x.1 x.2.1).trans h)
theorem n104 {T:Told} (H:Hands T):EnvOk T Tryz.prog (envL e104):=q5q (l:=e104) ⟨ok98 H,ok102 H,ok105 H,trivial⟩
theorem ok104 {T:Told} (H:Hands T):CtrOk T Tryz.prog 104 c104 :=
 fn_ok H.ty (n104 H) hm (lh:=dendronref02_Small_lh) (ct:=c104) (dcd:=fun y=>(y.2.1)) Tryz.func104 (by kernel_rfl) (by rfl) (q1q (l:=[]) (by kernel_rfl) trivial) (by decide) (fun _=>rfl) (fun x r h=>(dendronref02_Small_eq x.1).trans h)
theorem n77 {T:Told} (H:Hands T):EnvOk T Tryz.prog (envL e77):=q5q (l:=e77) ⟨ok98 H,ok104 H,trivial⟩
theorem ok77 {T:Told} (H:Hands T):CtrOk T Tryz.prog 77 c77 :=
 fn_ok H.ty (n77 H) hm (lh:=dendronref03_Small_lh) (ct:=c77) (dcd:=fun y=>(y.2.1)) Tryz.func77 (by kernel_rfl) (by rfl) (q1q (l:=[]) (by kernel_rfl) trivial) (by decide) (fun _=>rfl) (fun x r h=>(dendronref03_Small_eq x.1 x.2.1).trans h)
theorem n78 {T:Told} (H:Hands T):EnvOk T Tryz.prog (envL e78):=q5q (l:=e78) ⟨ok76 H,ok105 H,trivial⟩
theorem ok78 {T:Told} (H:Hands T):CtrOk T Tryz.prog 78 c78 :=
 fn_ok H.ty (n78 H) hm (lh:=dendronref02_From_lh) (ct:=c78) (dcd:=fun y=>(y.2.1)) Tryz.func78 (by kernel_rfl) (by rfl) (q1q (l:=[]) (by kernel_rfl) trivial) (by decide) (fun _=>rfl) (fun x r h=>(dendronref02_From_eq x.1).trans h)
theorem n46 {T:Told} (H:Hands T):EnvOk T Tryz.prog (envL e46):=q5q (l:=e46) ⟨ok76 H,ok77 H,ok78 H,trivial⟩
theorem ok46 {T:Told} (H:Hands T):CtrOk T Tryz.prog 46 c46 :=
 fn_ok H.ty (n46 H) hm (lh:=dendronref03_From_lh) (ct:=c46) (dcd:=fun y=>(y.2.1)) Tryz.func46 (by kernel_rfl) (by rfl) (q1q (l:=[]) (by kernel_rfl) trivial) (by decide) (fun _=>rfl) (fun x r h=>(dendronref03_From_eq x.1).trans h)
theorem n95 {T:Told} (H:Hands T):EnvOk T Tryz.prog (envL e95):=q5q (l:=e95) trivial
theorem dendronref01_Right_p2 {T:Told} (H:Hands T):q12q T Tryz.prog 27 (.loop (q3q 2 (q4q Tryz.f95) .skip)) ⟨dendronref01_Right_i2,dendronref01_Right_o2,lp dendronref01_Right_s2 K0⟩ :=
 q7q H.ty (n95 H) hm (q1q (l:=[]) (by kernel_rfl) trivial) dendronref01_Right_l2 K0
theorem ok95 {T:Told} (H:Hands T):CtrOk T Tryz.prog 95 c95 :=
 fn_ok H.ty (n95 H) hm (lh:=dendronref01_Right_lh) (ct:=c95) (dcd:=fun y=>(y.2.1)) Tryz.func95 (by kernel_rfl) (by rfl) (q1q (l:=[(.loop (q3q 2 (q4q Tryz.f95) .skip),⟨dendronref01_Right_i2,dendronref01_Right_o2,lp dendronref01_Right_s2 K0⟩)]) (by kernel_rfl) ⟨dendronref01_Right_p2 H,trivial⟩) (by decide) (fun _=>rfl) (fun x r h=>(dendronref01_Right_eq x.1).trans h)
theorem n97 {T:Told} (H:Hands T):EnvOk T Tryz.prog (envL e97):=q5q (l:=e97) trivial
theorem dendronref01_Order_p6 {T:Told} (H:Hands T):q12q T Tryz.prog 41 (.loop (q3q 6 (q4q Tryz.f97) .skip)) ⟨dendronref01_Order_i6,dendronref01_Order_o6,lp dendronref01_Order_s6 K0⟩ :=
 q7q H.ty (n97 H) hm (q1q (l:=[]) (by kernel_rfl) trivial) dendronref01_Order_l6 K0
theorem ok97 {T:Told} (H:Hands T):CtrOk T Tryz.prog 97 c97 :=
 fn_ok H.ty (n97 H) hm (lh:=dendronref01_Order_lh) (ct:=c97) (dcd:=fun y=>(y.2.1)) Tryz.func97 (by kernel_rfl) (by rfl) (q1q (l:=[(.loop (q3q 6 (q4q Tryz.f97) .skip),⟨dendronref01_Order_i6,dendronref01_Order_o6,lp dendronref01_Order_s6 K0⟩)]) (by kernel_rfl) ⟨dendronref01_Order_p6 H,trivial⟩) (by decide) (fun _=>rfl) (fun x r h=>(dendronref01_Order_eq x.1 x.2.1).trans h)
theorem n131 {T:Told} (H:Hands T):EnvOk T Tryz.prog (envL e131):=q5q (l:=e131) ⟨ok123 H,ok124 H,trivial⟩
theorem dendronref01_Minus_p4 {T:Told} (H:Hands T):q12q T Tryz.prog 35 (.loop (q3q 4 (q4q Tryz.f131) .skip)) ⟨dendronref01_Minus_i4,dendronref01_Minus_o4,lp dendronref01_Minus_s4 K0⟩ :=
 q7q H.ty (n131 H) hm (q1q (l:=[]) (by kernel_rfl) trivial) dendronref01_Minus_l4 K0
theorem ok131 {T:Told} (H:Hands T):CtrOk T Tryz.prog 131 c131 :=
 fn_ok H.ty (n131 H) hm (lh:=dendronref01_Minus_lh) (ct:=c131) (dcd:=fun y=>(y.2.1)) Tryz.func131 (by kernel_rfl) (by rfl) (q1q (l:=[(.loop (q3q 4 (q4q Tryz.f131) .skip),⟨dendronref01_Minus_i4,dendronref01_Minus_o4,lp dendronref01_Minus_s4 K0⟩)]) (by kernel_rfl) ⟨dendronref01_Minus_p4 H,trivial⟩) (by decide) (fun _=>rfl) (fun x r h=>(dendronref01_Minus_eq x.1 x.2.1).trans h)
theorem n122 {T:Told} (H:Hands T):EnvOk T Tryz.prog (envL e122):=q5q (l:=e122) ⟨ok97 H,ok98 H,ok103 H,ok124 H,ok131 H,trivial⟩
theorem dendronref01_Over_p12 {T:Told} (H:Hands T):q12q T Tryz.prog 65 (.loop (q3q 12 (q4q Tryz.f122) .skip)) ⟨dendronref01_Over_i12,dendronref01_Over_o12,lp dendronref01_Over_s12 K0⟩ :=
 q7q H.ty (n122 H) hm (q1q (l:=[]) (by kernel_rfl) trivial) dendronref01_Over_l12 K0
theorem dendronref01_Over_p4 {T:Told} (H:Hands T):q12q T Tryz.prog 65 (.loop (q3q 4 (q4q Tryz.f122) .skip)) ⟨dendronref01_Over_i4,dendronref01_Over_o4,lp dendronref01_Over_s4 K0⟩ :=
 q7q H.ty (n122 H) hm (q1q (l:=[(.loop (q3q 12 (q4q Tryz.f122) .skip),⟨dendronref01_Over_i12,dendronref01_Over_o12,lp dendronref01_Over_s12 K0⟩)]) (by kernel_rfl) ⟨dendronref01_Over_p12 H,trivial⟩) dendronref01_Over_l4 K0
theorem ok122 {T:Told} (H:Hands T):CtrOk T Tryz.prog 122 c122 :=
 fn_ok H.ty (n122 H) hm (lh:=dendronref01_Over_lh) (ct:=c122) (dcd:=fun y=>(y.2.1,y.2.2.1)) Tryz.func122 (by kernel_rfl) (by rfl) (q1q (l:=[(.loop (q3q 4 (q4q Tryz.f122) .skip),⟨dendronref01_Over_i4,dendronref01_Over_o4,lp dendronref01_Over_s4 K0⟩)]) (by kernel_rfl) ⟨dendronref01_Over_p4 H,trivial⟩) (by decide) (fun _=>rfl) (fun x r h=>(dendronref01_Over_eq x.1 x.2.1).trans h)
theorem n96 {T:Told} (H:Hands T):EnvOk T Tryz.prog (envL e96):=q5q (l:=e96) ⟨ok122 H,trivial⟩
theorem dendronref01_Gcd_p1 {T:Told} (H:Hands T):q12q T Tryz.prog 19 (.loop (q3q 1 (q4q Tryz.f96) .skip)) ⟨dendronref01_Gcd_i1,dendronref01_Gcd_o1,lp dendronref01_Gcd_s1 K0⟩ :=
 q7q H.ty (n96 H) hm (q1q (l:=[]) (by kernel_rfl) trivial) dendronref01_Gcd_l1 K0
theorem ok96 {T:Told} (H:Hands T):CtrOk T Tryz.prog 96 c96 :=
 fn_ok H.ty (n96 H) hm (lh:=dendronref01_Gcd_lh) (ct:=c96) (dcd:=fun y=>(y.2.1)) Tryz.func96 (by kernel_rfl) (by rfl) (q1q (l:=[(.loop (q3q 1 (q4q Tryz.f96) .skip),⟨dendronref01_Gcd_i1,dendronref01_Gcd_o1,lp dendronref01_Gcd_s1 K0⟩)]) (by kernel_rfl) ⟨dendronref01_Gcd_p1 H,trivial⟩) (by decide) (fun _=>rfl) (fun x r h=>(dendronref01_Gcd_eq x.1 x.2.1).trans h)
theorem n74 {T:Told} (H:Hands T):EnvOk T Tryz.prog (envL e74):=q5q (l:=e74) ⟨ok76 H,ok95 H,ok96 H,ok97 H,ok98 H,trivial⟩
theorem ok74 {T:Told} (H:Hands T):CtrOk T Tryz.prog 74 c74 :=
 fn_ok H.ty (n74 H) hm (lh:=dendronref03_Right_lh) (ct:=c74) (dcd:=fun y=>(y.2.1)) Tryz.func74 (by kernel_rfl) (by rfl) (q1q (l:=[]) (by kernel_rfl) trivial) (by decide) (fun _=>rfl) (fun x r h=>(dendronref03_Right_eq x.1).trans h)
theorem n99 {T:Told} (H:Hands T):EnvOk T Tryz.prog (envL e99):=q5q (l:=e99) ⟨ok97 H,trivial⟩
theorem ok99 {T:Told} (H:Hands T):CtrOk T Tryz.prog 99 c99 :=
 fn_ok H.ty (n99 H) hm (lh:=dendronref02_Order_lh) (ct:=c99) (dcd:=fun y=>(y.2.1)) Tryz.func99 (by kernel_rfl) (by rfl) (q1q (l:=[]) (by kernel_rfl) trivial) (by decide) (fun _=>rfl) (fun x r h=>(dendronref02_Order_eq x.1 x.2.1).trans h)
theorem n100 {T:Told} (H:Hands T):EnvOk T Tryz.prog (envL e100):=q5q (l:=e100) ⟨ok103 H,ok105 H,trivial⟩
theorem ok100 {T:Told} (H:Hands T):CtrOk T Tryz.prog 100 c100 :=
 fn_ok H.ty (n100 H) hm (lh:=dendronref02_Times_lh) (ct:=c100) (dcd:=fun y=>(y.2.1)) Tryz.func100 (by kernel_rfl) (by rfl) (q1q (l:=[]) (by kernel_rfl) trivial) (by decide) (fun _=>rfl) (fun x r h=>(dendronref02_Times_eq x.1 x.2.1).trans h)
theorem n101 {T:Told} (H:Hands T):EnvOk T Tryz.prog (envL e101):=q5q (l:=e101) ⟨ok105 H,trivial⟩
theorem ok101 {T:Told} (H:Hands T):CtrOk T Tryz.prog 101 c101 :=
 fn_ok H.ty (n101 H) hm (lh:=dendronref03_den_lh) (ct:=c101) (dcd:=fun y=>(y.2.1)) Tryz.func101 (by kernel_rfl) (by rfl) (q1q (l:=[]) (by kernel_rfl) trivial) (by decide) (fun _=>rfl) (fun x r h=>(dendronref03_den_eq x.1).trans h)
theorem n75 {T:Told} (H:Hands T):EnvOk T Tryz.prog (envL e75):=q5q (l:=e75) ⟨ok99 H,ok100 H,ok101 H,trivial⟩
theorem ok75 {T:Told} (H:Hands T):CtrOk T Tryz.prog 75 c75 :=
 fn_ok H.ty (n75 H) hm (lh:=dendronref03_Order_lh) (ct:=c75) (dcd:=fun y=>(y.2.1)) Tryz.func75 (by kernel_rfl) (by rfl) (q1q (l:=[]) (by kernel_rfl) trivial) (by decide) (fun _=>rfl) (fun x r h=>(dendronref03_Order_eq x.1 x.2.1).trans h)
theorem n45 {T:Told} (H:Hands T):EnvOk T Tryz.prog (envL e45):=q5q (l:=e45) ⟨ok46 H,ok74 H,ok75 H,trivial⟩
theorem ok45 {T:Told} (H:Hands T):CtrOk T Tryz.prog 45 c45 :=
 fn_ok H.ty (n45 H) hm (lh:=dendronref03_Is_lh) (ct:=c45) (dcd:=fun y=>(y.2.1)) Tryz.func45 (by kernel_rfl) (by rfl) (q1q (l:=[]) (by kernel_rfl) trivial) (by decide) (fun _=>rfl) (fun x r h=>(dendronref03_Is_eq x.1 x.2.1).trans h)
theorem n23 {T:Told} (H:Hands T):EnvOk T Tryz.prog (envL e23):=q5q (l:=e23) ⟨ok45 H,ok46 H,trivial⟩
theorem ok23 {T:Told} (H:Hands T):CtrOk T Tryz.prog 23 c23 :=
 fn_ok H.ty (n23 H) hm (lh:=dendronref10_Is_lh) (ct:=c23) (dcd:=fun y=>(y.2.1)) Tryz.func23 (by kernel_rfl) (by rfl) (q1q (l:=[]) (by kernel_rfl) trivial) (by decide) (fun _=>rfl) (fun x r h=>(dendronref10_Is_eq x.1 x.2.1).trans h)
theorem n10 {T:Told} (H:Hands T):EnvOk T Tryz.prog (envL e10):=q5q (l:=e10) ⟨ok23 H,trivial⟩
theorem dendronref10_All_p4 {T:Told} (H:Hands T):q12q T Tryz.prog 27 (.loop (q3q 4 (q4q Tryz.f10) .skip)) ⟨dendronref10_All_i4,dendronref10_All_o4,lp dendronref10_All_s4 K0⟩ :=
 q7q H.ty (n10 H) hm (q1q (l:=[]) (by kernel_rfl) trivial) dendronref10_All_l4 K0
theorem ok10 {T:Told} (H:Hands T):CtrOk T Tryz.prog 10 c10 :=
 fn_ok H.ty (n10 H) hm (lh:=dendronref10_All_lh) (ct:=c10) (dcd:=fun y=>(y.2.1)) Tryz.func10 (by kernel_rfl) (by rfl) (q1q (l:=[(.loop (q3q 4 (q4q Tryz.f10) .skip),⟨dendronref10_All_i4,dendronref10_All_o4,lp dendronref10_All_s4 K0⟩)]) (by kernel_rfl) ⟨dendronref10_All_p4 H,trivial⟩) (by decide) (fun _=>rfl) (fun x r h=>(dendronref10_All_eq x.1 x.2.1).trans h)
theorem n24 {T:Told} (H:Hands T):EnvOk T Tryz.prog (envL e24):=q5q (l:=e24) trivial
theorem ok24 {T:Told} (H:Hands T):CtrOk T Tryz.prog 24 c24 :=
 fn_okB H.ty (n24 H) hm (lh:=weigh_New_lh) (ct:=c24) (wi:=w24) (dcd:=fun y=>(y.2.1,y.2.2.1,y.2.2.2.1,y.2.2.2.2.1)) Tryz.func24 (by kernel_rfl) (by rfl) (q1q (l:=[]) (by kernel_rfl) trivial) (fun _=>rfl) rfl (fun x r h=>(weigh_New_eq ).trans h)
theorem n26 {T:Told} (H:Hands T):EnvOk T Tryz.prog (envL e26):=q5q (l:=e26) trivial
theorem dendronlaw15_two_p3 {T:Told} (H:Hands T):q12q T Tryz.prog 13 (.loop (q3q 3 (q4q Tryz.f26) .skip)) ⟨dendronlaw15_two_i3,dendronlaw15_two_o3,lp dendronlaw15_two_s3 K0⟩ :=
 q7q H.ty (n26 H) hm (q1q (l:=[]) (by kernel_rfl) trivial) dendronlaw15_two_l3 K0
theorem ok26 {T:Told} (H:Hands T):CtrOk T Tryz.prog 26 c26 :=
 fn_ok H.ty (n26 H) hm (lh:=dendronlaw15_two_lh) (ct:=c26) (dcd:=fun y=>(y.2.1)) Tryz.func26 (by kernel_rfl) (by rfl) (q1q (l:=[(.loop (q3q 3 (q4q Tryz.f26) .skip),⟨dendronlaw15_two_i3,dendronlaw15_two_o3,lp dendronlaw15_two_s3 K0⟩)]) (by kernel_rfl) ⟨dendronlaw15_two_p3 H,trivial⟩) (by decide) (fun _=>rfl) (fun x r h=>(dendronlaw15_two_eq x.1).trans h)
theorem n27 {T:Told} (H:Hands T):EnvOk T Tryz.prog (envL e27):=q5q (l:=e27) trivial
theorem dendronlaw15_in_p2 {T:Told} (H:Hands T):q12q T Tryz.prog 16 (.loop (q3q 2 (q4q Tryz.f27) .skip)) ⟨dendronlaw15_in_i2,dendronlaw15_in_o2,lp dendronlaw15_in_s2 K0⟩ :=
 q7q H.ty (n27 H) hm (q1q (l:=[]) (by kernel_rfl) trivial) dendronlaw15_in_l2 K0
theorem ok27 {T:Told} (H:Hands T):CtrOk T Tryz.prog 27 c27 :=
 fn_ok H.ty (n27 H) hm (lh:=dendronlaw15_in_lh) (ct:=c27) (dcd:=fun y=>(y.2.1)) Tryz.func27 (by kernel_rfl) (by rfl) (q1q (l:=[(.loop (q3q 2 (q4q Tryz.f27) .skip),⟨dendronlaw15_in_i2,dendronlaw15_in_o2,lp dendronlaw15_in_s2 K0⟩)]) (by kernel_rfl) ⟨dendronlaw15_in_p2 H,trivial⟩) (by decide) (fun _=>rfl) (fun x r h=>(dendronlaw15_in_eq x.1 x.2.1).trans h)
theorem n28 {T:Told} (H:Hands T):EnvOk T Tryz.prog (envL e28):=q5q (l:=e28) ⟨ok27 H,trivial⟩
theorem dendronlaw15_size_p3 {T:Told} (H:Hands T):q12q T Tryz.prog 18 (.loop (q3q 3 (q4q Tryz.f28) .skip)) ⟨dendronlaw15_size_i3,dendronlaw15_size_o3,lp dendronlaw15_size_s3 K0⟩ :=
 q7q H.ty (n28 H) hm (q1q (l:=[]) (by kernel_rfl) trivial) dendronlaw15_size_l3 K0
theorem ok28 {T:Told} (H:Hands T):CtrOk T Tryz.prog 28 c28 :=
 fn_ok H.ty (n28 H) hm (lh:=dendronlaw15_size_lh) (ct:=c28) (dcd:=fun y=>(y.2.1)) Tryz.func28 (by kernel_rfl) (by rfl) (q1q (l:=[(.loop (q3q 3 (q4q Tryz.f28) .skip),⟨dendronlaw15_size_i3,dendronlaw15_size_o3,lp dendronlaw15_size_s3 K0⟩)]) (by kernel_rfl) ⟨dendronlaw15_size_p3 H,trivial⟩) (by decide) (fun _=>rfl) (fun x r h=>(dendronlaw15_size_eq x.1 x.2.1).trans h)
theorem n108 {T:Told} (H:Hands T):EnvOk T Tryz.prog (envL e108):=q5q (l:=e108) ⟨ok36 H,ok50 H,trivial⟩
theorem weigh_products_p4 {T:Told} (H:Hands T):q12q T Tryz.prog 21 (.loop (q3q 4 (q4q Tryz.f108) .skip)) ⟨weigh_products_i4,weigh_products_o4,lp weigh_products_s4 K0⟩ :=
 q7q H.ty (n108 H) hm (q1q (l:=[]) (by kernel_rfl) trivial) weigh_products_l4 K0
theorem ok108 {T:Told} (H:Hands T):CtrOk T Tryz.prog 108 c108 :=
 fn_ok H.ty (n108 H) hm (lh:=weigh_products_lh) (ct:=c108) (dcd:=fun y=>(y.2.1)) Tryz.func108 (by kernel_rfl) (by rfl) (q1q (l:=[(.loop (q3q 4 (q4q Tryz.f108) .skip),⟨weigh_products_i4,weigh_products_o4,lp weigh_products_s4 K0⟩)]) (by kernel_rfl) ⟨weigh_products_p4 H,trivial⟩) (by decide) (fun _=>rfl) (fun x r h=>(weigh_products_eq ).trans h)
theorem n107 {T:Told} (H:Hands T):EnvOk T Tryz.prog (envL e107):=q5q (l:=e107) ⟨ok108 H,trivial⟩
theorem ok107 {T:Told} (H:Hands T):CtrOk T Tryz.prog 107 c107 :=
 fn_okB H.ty (n107 H) hm (lh:=weigh_Table_at_c1_lh) (ct:=c107) (wi:=w107) (dcd:=fun y=>(y.2.1,y.2.2.1,y.2.2.2.1,y.2.2.2.2.1)) Tryz.func107 (by kernel_rfl) (by rfl) (q1q (l:=[]) (by kernel_rfl) trivial) (fun _=>rfl) rfl (fun x r h=>(weigh_Table_at_c1_eq x.1 x.2.1 x.2.2.1 x.2.2.2.1).trans h)
theorem ok79 {T:Told} (H:Hands T):CtrOk T Tryz.prog 79 c79:=at_walk (ok107 H)
theorem n47 {T:Told} (H:Hands T):EnvOk T Tryz.prog (envL e47):=q5q (l:=e47) ⟨ok39 H,ok50 H,ok79 H,trivial⟩
theorem ok47 {T:Told} (H:Hands T):CtrOk T Tryz.prog 47 c47 :=
 fn_okB H.ty (n47 H) hm (lh:=weigh_Table_quotient_lh) (ct:=c47) (wi:=w47) (dcd:=fun y=>(y.2.1,y.2.2.1,y.2.2.2.1,y.2.2.2.2.1,y.2.2.2.2.2.1)) Tryz.func47 (by kernel_rfl) (by rfl) (q1q (l:=[]) (by kernel_rfl) trivial) (fun _=>rfl) rfl (fun x r h=>(weigh_Table_quotient_eq x.1 x.2.1 x.2.2.1 x.2.2.2.1 x.2.2.2.2.1 x.2.2.2.2.2.1 x.2.2.2.2.2.2.1).trans h)
theorem n29 {T:Told} (H:Hands T):EnvOk T Tryz.prog (envL e29):=q5q (l:=e29) ⟨ok47 H,trivial⟩
theorem ok29 {T:Told} (H:Hands T):CtrOk T Tryz.prog 29 c29 :=
 fn_okB H.ty (n29 H) hm (lh:=weigh_Table_Weight_lh) (ct:=c29) (wi:=w29) (dcd:=fun y=>(y.2.1,y.2.2.1,y.2.2.2.1,y.2.2.2.2.1,y.2.2.2.2.2.1,y.2.2.2.2.2.2.1)) Tryz.func29 (by kernel_rfl) (by rfl) (q1q (l:=[]) (by kernel_rfl) trivial) (fun _=>rfl) rfl (fun x r h=>(weigh_Table_Weight_eq x.1 x.2.1 x.2.2.1 x.2.2.2.1 x.2.2.2.2.1 x.2.2.2.2.2.1).trans h)
theorem n11 {T:Told} (H:Hands T):EnvOk T Tryz.prog (envL e11):=q5q (l:=e11) ⟨ok24 H,ok25 H,ok26 H,ok27 H,ok28 H,ok29 H,ok30 H,ok31 H,ok32 H,trivial⟩
theorem dendronlaw15_Shapley_p11 {T:Told} (H:Hands T):q12q T Tryz.prog 93 (.loop (q3q 11 (q4q Tryz.f11) .skip)) ⟨dendronlaw15_Shapley_i11,dendronlaw15_Shapley_o11,lp dendronlaw15_Shapley_s11 K0⟩ :=
 q7q H.ty (n11 H) hm (q1q (l:=[]) (by kernel_rfl) trivial) dendronlaw15_Shapley_l11 K0
theorem dendronlaw15_Shapley_p7 {T:Told} (H:Hands T):q12q T Tryz.prog 93 (.loop (q3q 7 (q4q Tryz.f11) .skip)) ⟨dendronlaw15_Shapley_i7,dendronlaw15_Shapley_o7,lp dendronlaw15_Shapley_s7 K0⟩ :=
 q7q H.ty (n11 H) hm (q1q (l:=[(.loop (q3q 11 (q4q Tryz.f11) .skip),⟨dendronlaw15_Shapley_i11,dendronlaw15_Shapley_o11,lp dendronlaw15_Shapley_s11 K0⟩)]) (by kernel_rfl) ⟨dendronlaw15_Shapley_p11 H,trivial⟩) dendronlaw15_Shapley_l7 K0
theorem ok11 {T:Told} (H:Hands T):CtrOk T Tryz.prog 11 c11 :=
 fn_ok H.ty (n11 H) hm (lh:=dendronlaw15_Shapley_lh) (ct:=c11) (dcd:=fun y=>(y.2.1)) Tryz.func11 (by kernel_rfl) (by rfl) (q1q (l:=[(.loop (q3q 7 (q4q Tryz.f11) .skip),⟨dendronlaw15_Shapley_i7,dendronlaw15_Shapley_o7,lp dendronlaw15_Shapley_s7 K0⟩)]) (by kernel_rfl) ⟨dendronlaw15_Shapley_p7 H,trivial⟩) (by decide) (fun _=>rfl) (fun x r h=>(dendronlaw15_Shapley_eq x.1 x.2.1 x.2.2.1 x.2.2.2.1).trans h)
theorem n12 {T:Told} (H:Hands T):EnvOk T Tryz.prog (envL e12):=q5q (l:=e12) ⟨ok20 H,ok21 H,trivial⟩
theorem ok12 {T:Told} (H:Hands T):CtrOk T Tryz.prog 12 c12 :=
 fn_ok H.ty (n12 H) hm (lh:=pathshap_Given_lh) (ct:=c12) (dcd:=fun y=>(y.2.1,y.2.2.1)) Tryz.func12 (by kernel_rfl) (by rfl) (q1q (l:=[]) (by kernel_rfl) trivial) (by decide) (fun _=>rfl) (fun x r h=>(pathshap_Given_eq x.1 x.2.1 x.2.2.1 x.2.2.2.1).trans h)
theorem n4 {T:Told} (H:Hands T):EnvOk T Tryz.prog (envL e4):=q5q (l:=e4) ⟨ok5 H,ok6 H,ok7 H,ok9 H,ok10 H,ok11 H,ok12 H,trivial⟩
theorem ok4 {T:Told} (H:Hands T):CtrOk T Tryz.prog 4 c4 :=
 fn_ok H.ty (n4 H) hm (lh:=dendronlaw15_PathshapGivens_lh) (ct:=c4) (dcd:=fun y=>(y.2.1)) Tryz.func4 (by kernel_rfl) (by rfl) (q1q (l:=[]) (by kernel_rfl) trivial) (by decide) (fun _=>rfl) (fun x r h=>(dendronlaw15_PathshapGivens_eq x.1 x.2.1 x.2.2.1 x.2.2.2.1).trans h)
end Go.Proofs.YtilflbimpjokjaaGreatDoor.X
