/- Own work: part of the proof; the first line of each part says what it tells. -/
import Derived.Test.YthcpiofmhkhbeaaDoorLb10


namespace Go.Proofs.YthcpiofmhkhbeaaDoor.X
open Go
set_option linter.unusedVariables false
set_option linter.unusedSimpArgs false
set_option maxRecDepth 100000
theorem F_in {ps:List (Ty × PM)} {rs:List (Ty × Bool)} {T:Type} {F:HL (fsts ps) → Option T} {enc:T → HL (lents ps) × HL (fsts rs)} {wi:Option Wir} (x:HL (fsts ps)) {r:Option T} (h:F x = r):(Ctr.mk ps rs T F enc wi).F x = r:=h
theorem hm:Tryd.prog.follows .mixedOrders = true:=by kernel_rfl
structure Hands (T:Told):Prop where
 ty:TbOk Tryd.prog tb
 h106:CtrOk T Tryd.prog 106 c106
 h109:CtrOk T Tryd.prog 109 c109
theorem n25 {T:Told} (H:Hands T):EnvOk T Tryd.prog (envL e25):=envL_ok (l:=e25) trivial
theorem ok25 {T:Told} (H:Hands T):CtrOk T Tryd.prog 25 c25 :=
 fn_ok H.ty (n25 H) hm (lh:=dendronlaw09_number_lh) (ct:=c25) (dcd:=fun y=>(y.2.1)) Tryd.func25 (by kernel_rfl) (by rfl) (LHok_of (l:=[]) (by kernel_rfl) trivial) (by decide) (fun _=>rfl) (fun x r h=>(dendronlaw09_number_eq x.1).trans h)
theorem n6 {T:Told} (H:Hands T):EnvOk T Tryd.prog (envL e6):=envL_ok (l:=e6) ⟨ok25 H,trivial⟩
theorem dendronlaw09_Few_p3 {T:Told} (H:Hands T):PieceOk T Tryd.prog 32 (.loop (loopAt 3 (bodyOf Tryd.f6) .skip)) ⟨dendronlaw09_Few_i3,dendronlaw09_Few_o3,lp dendronlaw09_Few_s3 K0⟩ :=
 loop_piece H.ty (n6 H) hm (LHok_of (l:=[]) (by kernel_rfl) trivial) dendronlaw09_Few_l3 K0
theorem ok6 {T:Told} (H:Hands T):CtrOk T Tryd.prog 6 c6 :=
 fn_ok H.ty (n6 H) hm (lh:=dendronlaw09_Few_lh) (ct:=c6) (dcd:=fun y=>(y.2.1)) Tryd.func6 (by kernel_rfl) (by rfl) (LHok_of (l:=[(.loop (loopAt 3 (bodyOf Tryd.f6) .skip),⟨dendronlaw09_Few_i3,dendronlaw09_Few_o3,lp dendronlaw09_Few_s3 K0⟩)]) (by kernel_rfl) ⟨dendronlaw09_Few_p3 H,trivial⟩) (by decide) (fun _=>rfl) (fun x r h=>(dendronlaw09_Few_eq x.1 x.2.1).trans h)
theorem n26 {T:Told} (H:Hands T):EnvOk T Tryd.prog (envL e26):=envL_ok (l:=e26) trivial
theorem ok26 {T:Told} (H:Hands T):CtrOk T Tryd.prog 26 c26 :=
 fn_ok H.ty (n26 H) hm (lh:=dendronlaw07_number_lh) (ct:=c26) (dcd:=fun y=>(y.2.1)) Tryd.func26 (by kernel_rfl) (by rfl) (LHok_of (l:=[]) (by kernel_rfl) trivial) (by decide) (fun _=>rfl) (fun x r h=>(dendronlaw07_number_eq x.1).trans h)
theorem n7 {T:Told} (H:Hands T):EnvOk T Tryd.prog (envL e7):=envL_ok (l:=e7) ⟨ok26 H,trivial⟩
theorem dendronlaw07_Few_p7 {T:Told} (H:Hands T):PieceOk T Tryd.prog 67 (.loop (loopAt 7 (bodyOf Tryd.f7) .skip)) ⟨dendronlaw07_Few_i7,dendronlaw07_Few_o7,lp dendronlaw07_Few_s7 K0⟩ :=
 loop_piece H.ty (n7 H) hm (LHok_of (l:=[]) (by kernel_rfl) trivial) dendronlaw07_Few_l7 K0
theorem dendronlaw07_Few_p3 {T:Told} (H:Hands T):PieceOk T Tryd.prog 67 (.loop (loopAt 3 (bodyOf Tryd.f7) .skip)) ⟨dendronlaw07_Few_i3,dendronlaw07_Few_o3,lp dendronlaw07_Few_s3 K0⟩ :=
 loop_piece H.ty (n7 H) hm (LHok_of (l:=[(.loop (loopAt 7 (bodyOf Tryd.f7) .skip),⟨dendronlaw07_Few_i7,dendronlaw07_Few_o7,lp dendronlaw07_Few_s7 K0⟩)]) (by kernel_rfl) ⟨dendronlaw07_Few_p7 H,trivial⟩) dendronlaw07_Few_l3 K0
theorem ok7 {T:Told} (H:Hands T):CtrOk T Tryd.prog 7 c7 :=
 fn_ok H.ty (n7 H) hm (lh:=dendronlaw07_Few_lh) (ct:=c7) (dcd:=fun y=>(y.2.1)) Tryd.func7 (by kernel_rfl) (by rfl) (LHok_of (l:=[(.loop (loopAt 3 (bodyOf Tryd.f7) .skip),⟨dendronlaw07_Few_i3,dendronlaw07_Few_o3,lp dendronlaw07_Few_s3 K0⟩)]) (by kernel_rfl) ⟨dendronlaw07_Few_p3 H,trivial⟩) (by decide) (fun _=>rfl) (fun x r h=>(dendronlaw07_Few_eq x.1).trans h)
theorem n65 {T:Told} (H:Hands T):EnvOk T Tryd.prog (envL e65):=envL_ok (l:=e65) trivial
theorem model_Fits_p9 {T:Told} (H:Hands T):PieceOk T Tryd.prog 72 (.loop (loopAt 9 (bodyOf Tryd.f65) .skip)) ⟨model_Fits_i9,model_Fits_o9,lp model_Fits_s9 K0⟩ :=
 loop_piece H.ty (n65 H) hm (LHok_of (l:=[]) (by kernel_rfl) trivial) model_Fits_l9 K0
theorem model_Fits_p4 {T:Told} (H:Hands T):PieceOk T Tryd.prog 72 (.loop (loopAt 4 (bodyOf Tryd.f65) .skip)) ⟨model_Fits_i4,model_Fits_o4,lp model_Fits_s4 K0⟩ :=
 loop_piece H.ty (n65 H) hm (LHok_of (l:=[(.loop (loopAt 9 (bodyOf Tryd.f65) .skip),⟨model_Fits_i9,model_Fits_o9,lp model_Fits_s9 K0⟩)]) (by kernel_rfl) ⟨model_Fits_p9 H,trivial⟩) model_Fits_l4 K0
theorem ok65 {T:Told} (H:Hands T):CtrOk T Tryd.prog 65 c65 :=
 fn_ok H.ty (n65 H) hm (lh:=model_Fits_lh) (ct:=c65) (dcd:=fun y=>(y.2.1)) Tryd.func65 (by kernel_rfl) (by rfl) (LHok_of (l:=[(.loop (loopAt 4 (bodyOf Tryd.f65) .skip),⟨model_Fits_i4,model_Fits_o4,lp model_Fits_s4 K0⟩)]) (by kernel_rfl) ⟨model_Fits_p4 H,trivial⟩) (by decide) (fun _=>rfl) (fun x r h=>(model_Fits_eq x.1).trans h)
theorem n66 {T:Told} (H:Hands T):EnvOk T Tryd.prog (envL e66):=envL_ok (l:=e66) trivial
theorem valid_ranges_p2 {T:Told} (H:Hands T):PieceOk T Tryd.prog 52 (.loop (loopAt 2 (bodyOf Tryd.f66) .skip)) ⟨valid_ranges_i2,valid_ranges_o2,lp valid_ranges_s2 K0⟩ :=
 loop_piece H.ty (n66 H) hm (LHok_of (l:=[]) (by kernel_rfl) trivial) valid_ranges_l2 K0
theorem ok66 {T:Told} (H:Hands T):CtrOk T Tryd.prog 66 c66 :=
 fn_ok H.ty (n66 H) hm (lh:=valid_ranges_lh) (ct:=c66) (dcd:=fun y=>(y.2.1,y.2.2.1)) Tryd.func66 (by kernel_rfl) (by rfl) (LHok_of (l:=[(.loop (loopAt 2 (bodyOf Tryd.f66) .skip),⟨valid_ranges_i2,valid_ranges_o2,lp valid_ranges_s2 K0⟩)]) (by kernel_rfl) ⟨valid_ranges_p2 H,trivial⟩) (by decide) (fun _=>rfl) (fun x r h=>(valid_ranges_eq x.1 x.2.1).trans h)
theorem n67 {T:Told} (H:Hands T):EnvOk T Tryd.prog (envL e67):=envL_ok (l:=e67) trivial
theorem valid_shape_p3 {T:Told} (H:Hands T):PieceOk T Tryd.prog 103 (.loop (loopAt 3 (bodyOf Tryd.f67) .skip)) ⟨valid_shape_i3,valid_shape_o3,lp valid_shape_s3 K0⟩ :=
 loop_piece H.ty (n67 H) hm (LHok_of (l:=[]) (by kernel_rfl) trivial) valid_shape_l3 K0
theorem valid_shape_p10 {T:Told} (H:Hands T):PieceOk T Tryd.prog 103 (.loop (loopAt 10 (bodyOf Tryd.f67) .skip)) ⟨valid_shape_i10,valid_shape_o10,lp valid_shape_s10 K0⟩ :=
 loop_piece H.ty (n67 H) hm (LHok_of (l:=[]) (by kernel_rfl) trivial) valid_shape_l10 K0
theorem valid_shape_p17 {T:Told} (H:Hands T):PieceOk T Tryd.prog 103 (.loop (loopAt 17 (bodyOf Tryd.f67) .skip)) ⟨valid_shape_i17,valid_shape_o17,lp valid_shape_s17 K0⟩ :=
 loop_piece H.ty (n67 H) hm (LHok_of (l:=[]) (by kernel_rfl) trivial) valid_shape_l17 K0
theorem valid_shape_p25 {T:Told} (H:Hands T):PieceOk T Tryd.prog 103 (.loop (loopAt 25 (bodyOf Tryd.f67) .skip)) ⟨valid_shape_i25,valid_shape_o25,lp valid_shape_s25 K0⟩ :=
 loop_piece H.ty (n67 H) hm (LHok_of (l:=[]) (by kernel_rfl) trivial) valid_shape_l25 K0
theorem ok67 {T:Told} (H:Hands T):CtrOk T Tryd.prog 67 c67 :=
 fn_ok H.ty (n67 H) hm (lh:=valid_shape_lh) (ct:=c67) (dcd:=fun y=>(y.2.1,y.2.2.1)) Tryd.func67 (by kernel_rfl) (by rfl) (LHok_of (l:=[(.loop (loopAt 3 (bodyOf Tryd.f67) .skip),⟨valid_shape_i3,valid_shape_o3,lp valid_shape_s3 K0⟩),(.loop (loopAt 10 (bodyOf Tryd.f67) .skip),⟨valid_shape_i10,valid_shape_o10,lp valid_shape_s10 K0⟩),(.loop (loopAt 17 (bodyOf Tryd.f67) .skip),⟨valid_shape_i17,valid_shape_o17,lp valid_shape_s17 K0⟩),(.loop (loopAt 25 (bodyOf Tryd.f67) .skip),⟨valid_shape_i25,valid_shape_o25,lp valid_shape_s25 K0⟩)]) (by kernel_rfl) ⟨valid_shape_p3 H,valid_shape_p10 H,valid_shape_p17 H,valid_shape_p25 H,trivial⟩) (by decide) (fun _=>rfl) (fun x r h=>(valid_shape_eq x.1).trans h)
theorem n49 {T:Told} (H:Hands T):EnvOk T Tryd.prog (envL e49):=envL_ok (l:=e49) trivial
theorem nat_trim_p2 {T:Told} (H:Hands T):PieceOk T Tryd.prog 23 (.loop (loopAt 2 (bodyOf Tryd.f49) .skip)) ⟨nat_trim_i2,nat_trim_o2,lp nat_trim_s2 K0⟩ :=
 loop_piece H.ty (n49 H) hm (LHok_of (l:=[]) (by kernel_rfl) trivial) nat_trim_l2 K0
theorem ok49 {T:Told} (H:Hands T):CtrOk T Tryd.prog 49 c49 :=
 fn_ok H.ty (n49 H) hm (lh:=nat_trim_lh) (ct:=c49) (dcd:=fun y=>(y.2.1)) Tryd.func49 (by kernel_rfl) (by rfl) (LHok_of (l:=[(.loop (loopAt 2 (bodyOf Tryd.f49) .skip),⟨nat_trim_i2,nat_trim_o2,lp nat_trim_s2 K0⟩)]) (by kernel_rfl) ⟨nat_trim_p2 H,trivial⟩) (by decide) (fun _=>rfl) (fun x r h=>(nat_trim_eq x.1).trans h)
theorem n61 {T:Told} (H:Hands T):EnvOk T Tryd.prog (envL e61):=envL_ok (l:=e61) ⟨ok49 H,trivial⟩
theorem nat_Clean_p3 {T:Told} (H:Hands T):PieceOk T Tryd.prog 24 (.loop (loopAt 3 (bodyOf Tryd.f61) .skip)) ⟨nat_Clean_i3,nat_Clean_o3,lp nat_Clean_s3 K0⟩ :=
 loop_piece H.ty (n61 H) hm (LHok_of (l:=[]) (by kernel_rfl) trivial) nat_Clean_l3 K0
theorem ok61 {T:Told} (H:Hands T):CtrOk T Tryd.prog 61 c61 :=
 fn_ok H.ty (n61 H) hm (lh:=nat_Clean_lh) (ct:=c61) (dcd:=fun y=>(y.2.1)) Tryd.func61 (by kernel_rfl) (by rfl) (LHok_of (l:=[(.loop (loopAt 3 (bodyOf Tryd.f61) .skip),⟨nat_Clean_i3,nat_Clean_o3,lp nat_Clean_s3 K0⟩)]) (by kernel_rfl) ⟨nat_Clean_p3 H,trivial⟩) (by decide) (fun _=>rfl) (fun x r h=>(nat_Clean_eq x.1).trans h)
theorem n71 {T:Told} (H:Hands T):EnvOk T Tryd.prog (envL e71):=envL_ok (l:=e71) trivial
theorem ok71 {T:Told} (H:Hands T):CtrOk T Tryd.prog 71 c71 :=
 fn_ok H.ty (n71 H) hm (lh:=whole_sign_lh) (ct:=c71) (dcd:=fun y=>(y.2.1)) Tryd.func71 (by kernel_rfl) (by rfl) (LHok_of (l:=[]) (by kernel_rfl) trivial) (by decide) (fun _=>rfl) (fun x r h=>(whole_sign_eq x.1 x.2.1).trans h)
theorem n60 {T:Told} (H:Hands T):EnvOk T Tryd.prog (envL e60):=envL_ok (l:=e60) ⟨ok61 H,ok71 H,trivial⟩
theorem ok60 {T:Told} (H:Hands T):CtrOk T Tryd.prog 60 c60 :=
 fn_ok H.ty (n60 H) hm (lh:=whole_Clean_lh) (ct:=c60) (dcd:=fun y=>(y.2.1)) Tryd.func60 (by kernel_rfl) (by rfl) (LHok_of (l:=[]) (by kernel_rfl) trivial) (by decide) (fun _=>rfl) (fun x r h=>(whole_Clean_eq x.1).trans h)
theorem n39 {T:Told} (H:Hands T):EnvOk T Tryd.prog (envL e39):=envL_ok (l:=e39) ⟨ok60 H,trivial⟩
theorem ok39 {T:Told} (H:Hands T):CtrOk T Tryd.prog 39 c39 :=
 fn_ok H.ty (n39 H) hm (lh:=whole_Sign_lh) (ct:=c39) (dcd:=fun y=>(y.2.1)) Tryd.func39 (by kernel_rfl) (by rfl) (LHok_of (l:=[]) (by kernel_rfl) trivial) (by decide) (fun _=>rfl) (fun x r h=>(whole_Sign_eq x.1).trans h)
theorem n31 {T:Told} (H:Hands T):EnvOk T Tryd.prog (envL e31):=envL_ok (l:=e31) ⟨ok49 H,trivial⟩
theorem ok31 {T:Told} (H:Hands T):CtrOk T Tryd.prog 31 c31 :=
 fn_ok H.ty (n31 H) hm (lh:=nat_Of_lh) (ct:=c31) (dcd:=fun y=>(y.2.1)) Tryd.func31 (by kernel_rfl) (by rfl) (LHok_of (l:=[]) (by kernel_rfl) trivial) (by decide) (fun _=>rfl) (fun x r h=>(nat_Of_eq x.1).trans h)
theorem n11 {T:Told} (H:Hands T):EnvOk T Tryd.prog (envL e11):=envL_ok (l:=e11) ⟨ok31 H,trivial⟩
theorem ok11 {T:Told} (H:Hands T):CtrOk T Tryd.prog 11 c11 :=
 fn_ok H.ty (n11 H) hm (lh:=ratio_Zero_lh) (ct:=c11) (dcd:=fun y=>(y.2.1)) Tryd.func11 (by kernel_rfl) (by rfl) (LHok_of (l:=[]) (by kernel_rfl) trivial) (by decide) (fun _=>rfl) (fun x r h=>(ratio_Zero_eq ).trans h)
theorem n85 {T:Told} (H:Hands T):EnvOk T Tryd.prog (envL e85):=envL_ok (l:=e85) trivial
theorem nat_order_p6 {T:Told} (H:Hands T):PieceOk T Tryd.prog 45 (.loop (loopAt 6 (bodyOf Tryd.f85) .skip)) ⟨nat_order_i6,nat_order_o6,lp nat_order_s6 K0⟩ :=
 loop_piece H.ty (n85 H) hm (LHok_of (l:=[]) (by kernel_rfl) trivial) nat_order_l6 K0
theorem ok85 {T:Told} (H:Hands T):CtrOk T Tryd.prog 85 c85 :=
 fn_ok H.ty (n85 H) hm (lh:=nat_order_lh) (ct:=c85) (dcd:=fun y=>(y.2.1)) Tryd.func85 (by kernel_rfl) (by rfl) (LHok_of (l:=[(.loop (loopAt 6 (bodyOf Tryd.f85) .skip),⟨nat_order_i6,nat_order_o6,lp nat_order_s6 K0⟩)]) (by kernel_rfl) ⟨nat_order_p6 H,trivial⟩) (by decide) (fun _=>rfl) (fun x r h=>(nat_order_eq x.1 x.2.1).trans h)
theorem n105 {T:Told} (H:Hands T):EnvOk T Tryd.prog (envL e105):=envL_ok (l:=e105) ⟨ok61 H,trivial⟩
theorem ok105 {T:Told} (H:Hands T):CtrOk T Tryd.prog 105 c105 :=
 fn_ok H.ty (n105 H) hm (lh:=nat_To_lh) (ct:=c105) (dcd:=fun y=>(y.2.1,y.2.2.1)) Tryd.func105 (by kernel_rfl) (by rfl) (LHok_of (l:=[]) (by kernel_rfl) trivial) (by decide) (fun _=>rfl) (fun x r h=>(nat_To_eq x.1).trans h)
theorem n93 {T:Told} (H:Hands T):EnvOk T Tryd.prog (envL e93):=envL_ok (l:=e93) ⟨ok31 H,ok105 H,trivial⟩
theorem nat_euclid_p3 {T:Told} (H:Hands T):PieceOk T Tryd.prog 27 (.loop (loopAt 3 (bodyOf Tryd.f93) .skip)) ⟨nat_euclid_i3,nat_euclid_o3,lp nat_euclid_s3 K0⟩ :=
 loop_piece H.ty (n93 H) hm (LHok_of (l:=[]) (by kernel_rfl) trivial) nat_euclid_l3 K0
theorem ok93 {T:Told} (H:Hands T):CtrOk T Tryd.prog 93 c93 :=
 fn_ok H.ty (n93 H) hm (lh:=nat_euclid_lh) (ct:=c93) (dcd:=fun y=>(y.2.1)) Tryd.func93 (by kernel_rfl) (by rfl) (LHok_of (l:=[(.loop (loopAt 3 (bodyOf Tryd.f93) .skip),⟨nat_euclid_i3,nat_euclid_o3,lp nat_euclid_s3 K0⟩)]) (by kernel_rfl) ⟨nat_euclid_p3 H,trivial⟩) (by decide) (fun _=>rfl) (fun x r h=>(nat_euclid_eq x.1 x.2.1).trans h)
theorem n94 {T:Told} (H:Hands T):EnvOk T Tryd.prog (envL e94):=envL_ok (l:=e94) ⟨H.h106,trivial⟩
theorem nat_zeros_p3 {T:Told} (H:Hands T):PieceOk T Tryd.prog 24 (.loop (loopAt 3 (bodyOf Tryd.f94) .skip)) ⟨nat_zeros_i3,nat_zeros_o3,lp nat_zeros_s3 K0⟩ :=
 loop_piece H.ty (n94 H) hm (LHok_of (l:=[]) (by kernel_rfl) trivial) nat_zeros_l3 K0
theorem ok94 {T:Told} (H:Hands T):CtrOk T Tryd.prog 94 c94 :=
 fn_ok H.ty (n94 H) hm (lh:=nat_zeros_lh) (ct:=c94) (dcd:=fun y=>(y.2.1)) Tryd.func94 (by kernel_rfl) (by rfl) (LHok_of (l:=[(.loop (loopAt 3 (bodyOf Tryd.f94) .skip),⟨nat_zeros_i3,nat_zeros_o3,lp nat_zeros_s3 K0⟩)]) (by kernel_rfl) ⟨nat_zeros_p3 H,trivial⟩) (by decide) (fun _=>rfl) (fun x r h=>(nat_zeros_eq x.1).trans h)
theorem n101 {T:Told} (H:Hands T):EnvOk T Tryd.prog (envL e101):=envL_ok (l:=e101) trivial
theorem ok101 {T:Told} (H:Hands T):CtrOk T Tryd.prog 101 c101 :=
 fn_ok H.ty (n101 H) hm (lh:=nat_limb_lh) (ct:=c101) (dcd:=fun y=>(y.2.1)) Tryd.func101 (by kernel_rfl) (by rfl) (LHok_of (l:=[]) (by kernel_rfl) trivial) (by decide) (fun _=>rfl) (fun x r h=>(nat_limb_eq x.1 x.2.1).trans h)
theorem n95 {T:Told} (H:Hands T):EnvOk T Tryd.prog (envL e95):=envL_ok (l:=e95) ⟨ok49 H,ok101 H,trivial⟩
theorem nat_shr_p6 {T:Told} (H:Hands T):PieceOk T Tryd.prog 50 (.loop (loopAt 6 (bodyOf Tryd.f95) .skip)) ⟨nat_shr_i6,nat_shr_o6,lp nat_shr_s6 K0⟩ :=
 loop_piece H.ty (n95 H) hm (LHok_of (l:=[]) (by kernel_rfl) trivial) nat_shr_l6 K0
theorem ok95 {T:Told} (H:Hands T):CtrOk T Tryd.prog 95 c95 :=
 fn_ok H.ty (n95 H) hm (lh:=nat_shr_lh) (ct:=c95) (dcd:=fun y=>(y.2.1)) Tryd.func95 (by kernel_rfl) (by rfl) (LHok_of (l:=[(.loop (loopAt 6 (bodyOf Tryd.f95) .skip),⟨nat_shr_i6,nat_shr_o6,lp nat_shr_s6 K0⟩)]) (by kernel_rfl) ⟨nat_shr_p6 H,trivial⟩) (by decide) (fun _=>rfl) (fun x r h=>(nat_shr_eq x.1 x.2.1).trans h)
theorem n96 {T:Told} (H:Hands T):EnvOk T Tryd.prog (envL e96):=envL_ok (l:=e96) ⟨ok49 H,trivial⟩
theorem nat_shl_p4 {T:Told} (H:Hands T):PieceOk T Tryd.prog 51 (.loop (loopAt 4 (bodyOf Tryd.f96) .skip)) ⟨nat_shl_i4,nat_shl_o4,lp nat_shl_s4 K0⟩ :=
 loop_piece H.ty (n96 H) hm (LHok_of (l:=[]) (by kernel_rfl) trivial) nat_shl_l4 K0
theorem ok96 {T:Told} (H:Hands T):CtrOk T Tryd.prog 96 c96 :=
 fn_ok H.ty (n96 H) hm (lh:=nat_shl_lh) (ct:=c96) (dcd:=fun y=>(y.2.1)) Tryd.func96 (by kernel_rfl) (by rfl) (LHok_of (l:=[(.loop (loopAt 4 (bodyOf Tryd.f96) .skip),⟨nat_shl_i4,nat_shl_o4,lp nat_shl_s4 K0⟩)]) (by kernel_rfl) ⟨nat_shl_p4 H,trivial⟩) (by decide) (fun _=>rfl) (fun x r h=>(nat_shl_eq x.1 x.2.1).trans h)
theorem n99 {T:Told} (H:Hands T):EnvOk T Tryd.prog (envL e99):=envL_ok (l:=e99) ⟨ok49 H,trivial⟩
theorem nat_small_p4 {T:Told} (H:Hands T):PieceOk T Tryd.prog 38 (.loop (loopAt 4 (bodyOf Tryd.f99) .skip)) ⟨nat_small_i4,nat_small_o4,lp nat_small_s4 K0⟩ :=
 loop_piece H.ty (n99 H) hm (LHok_of (l:=[]) (by kernel_rfl) trivial) nat_small_l4 K0
theorem ok99 {T:Told} (H:Hands T):CtrOk T Tryd.prog 99 c99 :=
 fn_ok H.ty (n99 H) hm (lh:=nat_small_lh) (ct:=c99) (dcd:=fun y=>(y.2.1,y.2.2.1)) Tryd.func99 (by kernel_rfl) (by rfl) (LHok_of (l:=[(.loop (loopAt 4 (bodyOf Tryd.f99) .skip),⟨nat_small_i4,nat_small_o4,lp nat_small_s4 K0⟩)]) (by kernel_rfl) ⟨nat_small_p4 H,trivial⟩) (by decide) (fun _=>rfl) (fun x r h=>(nat_small_eq x.1 x.2.1).trans h)
theorem n107 {T:Told} (H:Hands T):EnvOk T Tryd.prog (envL e107):=envL_ok (l:=e107) ⟨H.h109,trivial⟩
theorem ok107 {T:Told} (H:Hands T):CtrOk T Tryd.prog 107 c107 :=
 fn_ok H.ty (n107 H) hm (lh:=bits_LeadingZeros32_lh) (ct:=c107) (dcd:=fun y=>(y.2.1)) Tryd.func107 (by kernel_rfl) (by rfl) (LHok_of (l:=[]) (by kernel_rfl) trivial) (by decide) (fun _=>rfl) (fun x r h=>(bits_LeadingZeros32_eq x.1).trans h)
theorem n110 {T:Told} (H:Hands T):EnvOk T Tryd.prog (envL e110):=envL_ok (l:=e110) ⟨ok101 H,trivial⟩
theorem nat_take_p3 {T:Told} (H:Hands T):PieceOk T Tryd.prog 46 (.loop (loopAt 3 (bodyOf Tryd.f110) .skip)) ⟨nat_take_i3,nat_take_o3,lp nat_take_s3 K0⟩ :=
 loop_piece H.ty (n110 H) hm (LHok_of (l:=[]) (by kernel_rfl) trivial) nat_take_l3 K0
theorem ok110 {T:Told} (H:Hands T):CtrOk T Tryd.prog 110 c110 :=
 fn_ok H.ty (n110 H) hm (lh:=nat_take_lh) (ct:=c110) (dcd:=fun y=>(y.1.1,y.2.1)) Tryd.func110 (by kernel_rfl) (by rfl) (LHok_of (l:=[(.loop (loopAt 3 (bodyOf Tryd.f110) .skip),⟨nat_take_i3,nat_take_o3,lp nat_take_s3 K0⟩)]) (by kernel_rfl) ⟨nat_take_p3 H,trivial⟩) (by decide) (fun _=>rfl) (fun x r h=>(nat_take_eq x.1 x.2.1 x.2.2.1).trans h)
theorem n111 {T:Told} (H:Hands T):EnvOk T Tryd.prog (envL e111):=envL_ok (l:=e111) ⟨ok101 H,trivial⟩
theorem nat_give_p2 {T:Told} (H:Hands T):PieceOk T Tryd.prog 29 (.loop (loopAt 2 (bodyOf Tryd.f111) .skip)) ⟨nat_give_i2,nat_give_o2,lp nat_give_s2 K0⟩ :=
 loop_piece H.ty (n111 H) hm (LHok_of (l:=[]) (by kernel_rfl) trivial) nat_give_l2 K0
theorem ok111 {T:Told} (H:Hands T):CtrOk T Tryd.prog 111 c111 :=
 fn_ok H.ty (n111 H) hm (lh:=nat_give_lh) (ct:=c111) (dcd:=fun y=>(y.1.1)) Tryd.func111 (by kernel_rfl) (by rfl) (LHok_of (l:=[(.loop (loopAt 2 (bodyOf Tryd.f111) .skip),⟨nat_give_i2,nat_give_o2,lp nat_give_s2 K0⟩)]) (by kernel_rfl) ⟨nat_give_p2 H,trivial⟩) (by decide) (fun _=>rfl) (fun x r h=>(nat_give_eq x.1 x.2.1).trans h)
theorem n108 {T:Told} (H:Hands T):EnvOk T Tryd.prog (envL e108):=envL_ok (l:=e108) ⟨ok110 H,ok111 H,trivial⟩
theorem nat_digit_p4 {T:Told} (H:Hands T):PieceOk T Tryd.prog 77 (.loop (loopAt 4 (bodyOf Tryd.f108) .skip)) ⟨nat_digit_i4,nat_digit_o4,lp nat_digit_s4 K0⟩ :=
 loop_piece H.ty (n108 H) hm (LHok_of (l:=[]) (by kernel_rfl) trivial) nat_digit_l4 K0
theorem ok108 {T:Told} (H:Hands T):CtrOk T Tryd.prog 108 c108 :=
 fn_ok H.ty (n108 H) hm (lh:=nat_digit_lh) (ct:=c108) (dcd:=fun y=>(y.1.1,y.2.1)) Tryd.func108 (by kernel_rfl) (by rfl) (LHok_of (l:=[(.loop (loopAt 4 (bodyOf Tryd.f108) .skip),⟨nat_digit_i4,nat_digit_o4,lp nat_digit_s4 K0⟩)]) (by kernel_rfl) ⟨nat_digit_p4 H,trivial⟩) (by decide) (fun _=>rfl) (fun x r h=>(nat_digit_eq x.1 x.2.1).trans h)
theorem n100 {T:Told} (H:Hands T):EnvOk T Tryd.prog (envL e100):=envL_ok (l:=e100) ⟨ok49 H,ok95 H,ok96 H,ok107 H,ok108 H,trivial⟩
theorem nat_long_p7 {T:Told} (H:Hands T):PieceOk T Tryd.prog 64 (.loop (loopAt 7 (bodyOf Tryd.f100) .skip)) ⟨nat_long_i7,nat_long_o7,lp nat_long_s7 K0⟩ :=
 loop_piece H.ty (n100 H) hm (LHok_of (l:=[]) (by kernel_rfl) trivial) nat_long_l7 K0
theorem ok100 {T:Told} (H:Hands T):CtrOk T Tryd.prog 100 c100 :=
 fn_ok H.ty (n100 H) hm (lh:=nat_long_lh) (ct:=c100) (dcd:=fun y=>(y.2.1,y.2.2.1)) Tryd.func100 (by kernel_rfl) (by rfl) (LHok_of (l:=[(.loop (loopAt 7 (bodyOf Tryd.f100) .skip),⟨nat_long_i7,nat_long_o7,lp nat_long_s7 K0⟩)]) (by kernel_rfl) ⟨nat_long_p7 H,trivial⟩) (by decide) (fun _=>rfl) (fun x r h=>(nat_long_eq x.1 x.2.1).trans h)
theorem n78 {T:Told} (H:Hands T):EnvOk T Tryd.prog (envL e78):=envL_ok (l:=e78) ⟨ok31 H,ok61 H,ok85 H,ok99 H,ok100 H,trivial⟩
theorem ok78 {T:Told} (H:Hands T):CtrOk T Tryd.prog 78 c78 :=
 fn_ok H.ty (n78 H) hm (lh:=nat_DivMod_lh) (ct:=c78) (dcd:=fun y=>(y.2.1,y.2.2.1,y.2.2.2.1)) Tryd.func78 (by kernel_rfl) (by rfl) (LHok_of (l:=[]) (by kernel_rfl) trivial) (by decide) (fun _=>rfl) (fun x r h=>(nat_DivMod_eq x.1 x.2.1).trans h)
theorem n97 {T:Told} (H:Hands T):EnvOk T Tryd.prog (envL e97):=envL_ok (l:=e97) ⟨ok78 H,trivial⟩
theorem ok97 {T:Told} (H:Hands T):CtrOk T Tryd.prog 97 c97 :=
 fn_ok H.ty (n97 H) hm (lh:=nat_rest_lh) (ct:=c97) (dcd:=fun y=>(y.2.1,y.2.2.1)) Tryd.func97 (by kernel_rfl) (by rfl) (LHok_of (l:=[]) (by kernel_rfl) trivial) (by decide) (fun _=>rfl) (fun x r h=>(nat_rest_eq x.1 x.2.1).trans h)
theorem n98 {T:Told} (H:Hands T):EnvOk T Tryd.prog (envL e98):=envL_ok (l:=e98) ⟨ok49 H,ok101 H,trivial⟩
theorem nat_minus_p4 {T:Told} (H:Hands T):PieceOk T Tryd.prog 39 (.loop (loopAt 4 (bodyOf Tryd.f98) .skip)) ⟨nat_minus_i4,nat_minus_o4,lp nat_minus_s4 K0⟩ :=
 loop_piece H.ty (n98 H) hm (LHok_of (l:=[]) (by kernel_rfl) trivial) nat_minus_l4 K0
theorem ok98 {T:Told} (H:Hands T):CtrOk T Tryd.prog 98 c98 :=
 fn_ok H.ty (n98 H) hm (lh:=nat_minus_lh) (ct:=c98) (dcd:=fun y=>(y.2.1)) Tryd.func98 (by kernel_rfl) (by rfl) (LHok_of (l:=[(.loop (loopAt 4 (bodyOf Tryd.f98) .skip),⟨nat_minus_i4,nat_minus_o4,lp nat_minus_s4 K0⟩)]) (by kernel_rfl) ⟨nat_minus_p4 H,trivial⟩) (by decide) (fun _=>rfl) (fun x r h=>(nat_minus_eq x.1 x.2.1).trans h)
theorem n77 {T:Told} (H:Hands T):EnvOk T Tryd.prog (envL e77):=envL_ok (l:=e77) ⟨ok61 H,ok85 H,ok93 H,ok94 H,ok95 H,ok96 H,ok97 H,ok98 H,trivial⟩
theorem nat_Gcd_p10 {T:Told} (H:Hands T):PieceOk T Tryd.prog 86 (.loop (loopAt 10 (bodyOf Tryd.f77) .skip)) ⟨nat_Gcd_i10,nat_Gcd_o10,lp nat_Gcd_s10 K0⟩ :=
 loop_piece H.ty (n77 H) hm (LHok_of (l:=[]) (by kernel_rfl) trivial) nat_Gcd_l10 K0
theorem ok77 {T:Told} (H:Hands T):CtrOk T Tryd.prog 77 c77 :=
 fn_ok H.ty (n77 H) hm (lh:=nat_Gcd_lh) (ct:=c77) (dcd:=fun y=>(y.2.1)) Tryd.func77 (by kernel_rfl) (by rfl) (LHok_of (l:=[(.loop (loopAt 10 (bodyOf Tryd.f77) .skip),⟨nat_Gcd_i10,nat_Gcd_o10,lp nat_Gcd_s10 K0⟩)]) (by kernel_rfl) ⟨nat_Gcd_p10 H,trivial⟩) (by decide) (fun _=>rfl) (fun x r h=>(nat_Gcd_eq x.1 x.2.1).trans h)
theorem n55 {T:Told} (H:Hands T):EnvOk T Tryd.prog (envL e55):=envL_ok (l:=e55) ⟨ok31 H,ok77 H,ok78 H,trivial⟩
theorem ok55 {T:Told} (H:Hands T):CtrOk T Tryd.prog 55 c55 :=
 fn_ok H.ty (n55 H) hm (lh:=ratio_form_lh) (ct:=c55) (dcd:=fun y=>(y.2.1)) Tryd.func55 (by kernel_rfl) (by rfl) (LHok_of (l:=[]) (by kernel_rfl) trivial) (by decide) (fun _=>rfl) (fun x r h=>(ratio_form_eq x.1 x.2.1).trans h)
theorem n40 {T:Told} (H:Hands T):EnvOk T Tryd.prog (envL e40):=envL_ok (l:=e40) ⟨ok11 H,ok55 H,ok60 H,ok61 H,trivial⟩
theorem ok40 {T:Told} (H:Hands T):CtrOk T Tryd.prog 40 c40 :=
 fn_ok H.ty (n40 H) hm (lh:=ratio_Clean_lh) (ct:=c40) (dcd:=fun y=>(y.2.1)) Tryd.func40 (by kernel_rfl) (by rfl) (LHok_of (l:=[]) (by kernel_rfl) trivial) (by decide) (fun _=>rfl) (fun x r h=>(ratio_Clean_eq x.1).trans h)
theorem n19 {T:Told} (H:Hands T):EnvOk T Tryd.prog (envL e19):=envL_ok (l:=e19) ⟨ok39 H,ok40 H,trivial⟩
theorem ok19 {T:Told} (H:Hands T):CtrOk T Tryd.prog 19 c19 :=
 fn_ok H.ty (n19 H) hm (lh:=ratio_Sign_lh) (ct:=c19) (dcd:=fun y=>(y.2.1)) Tryd.func19 (by kernel_rfl) (by rfl) (LHok_of (l:=[]) (by kernel_rfl) trivial) (by decide) (fun _=>rfl) (fun x r h=>(ratio_Sign_eq x.1).trans h)
theorem n68 {T:Told} (H:Hands T):EnvOk T Tryd.prog (envL e68):=envL_ok (l:=e68) ⟨ok19 H,trivial⟩
theorem valid_covers_p2 {T:Told} (H:Hands T):PieceOk T Tryd.prog 19 (.loop (loopAt 2 (bodyOf Tryd.f68) .skip)) ⟨valid_covers_i2,valid_covers_o2,lp valid_covers_s2 K0⟩ :=
 loop_piece H.ty (n68 H) hm (LHok_of (l:=[]) (by kernel_rfl) trivial) valid_covers_l2 K0
theorem ok68 {T:Told} (H:Hands T):CtrOk T Tryd.prog 68 c68 :=
 fn_ok H.ty (n68 H) hm (lh:=valid_covers_lh) (ct:=c68) (dcd:=fun y=>(y.2.1,y.2.2.1)) Tryd.func68 (by kernel_rfl) (by rfl) (LHok_of (l:=[(.loop (loopAt 2 (bodyOf Tryd.f68) .skip),⟨valid_covers_i2,valid_covers_o2,lp valid_covers_s2 K0⟩)]) (by kernel_rfl) ⟨valid_covers_p2 H,trivial⟩) (by decide) (fun _=>rfl) (fun x r h=>(valid_covers_eq x.1).trans h)
theorem n72 {T:Told} (H:Hands T):EnvOk T Tryd.prog (envL e72):=envL_ok (l:=e72) ⟨ok61 H,ok85 H,trivial⟩
theorem ok72 {T:Told} (H:Hands T):CtrOk T Tryd.prog 72 c72 :=
 fn_ok H.ty (n72 H) hm (lh:=nat_Cmp_lh) (ct:=c72) (dcd:=fun y=>(y.2.1)) Tryd.func72 (by kernel_rfl) (by rfl) (LHok_of (l:=[]) (by kernel_rfl) trivial) (by decide) (fun _=>rfl) (fun x r h=>(nat_Cmp_eq x.1 x.2.1).trans h)
theorem n50 {T:Told} (H:Hands T):EnvOk T Tryd.prog (envL e50):=envL_ok (l:=e50) ⟨ok60 H,ok72 H,trivial⟩
theorem ok50 {T:Told} (H:Hands T):CtrOk T Tryd.prog 50 c50 :=
 fn_ok H.ty (n50 H) hm (lh:=whole_Cmp_lh) (ct:=c50) (dcd:=fun y=>(y.2.1)) Tryd.func50 (by kernel_rfl) (by rfl) (LHok_of (l:=[]) (by kernel_rfl) trivial) (by decide) (fun _=>rfl) (fun x r h=>(whole_Cmp_eq x.1 x.2.1).trans h)
theorem n57 {T:Told} (H:Hands T):EnvOk T Tryd.prog (envL e57):=envL_ok (l:=e57) ⟨ok49 H,ok61 H,trivial⟩
theorem nat_Mul_p8 {T:Told} (H:Hands T):PieceOk T Tryd.prog 67 (.loop (loopAt 8 (bodyOf Tryd.f57) .skip)) ⟨nat_Mul_i8,nat_Mul_o8,lp nat_Mul_s8 K0⟩ :=
 loop_piece H.ty (n57 H) hm (LHok_of (l:=[]) (by kernel_rfl) trivial) nat_Mul_l8 K0
theorem nat_Mul_p4 {T:Told} (H:Hands T):PieceOk T Tryd.prog 67 (.loop (loopAt 4 (bodyOf Tryd.f57) .skip)) ⟨nat_Mul_i4,nat_Mul_o4,lp nat_Mul_s4 K0⟩ :=
 loop_piece H.ty (n57 H) hm (LHok_of (l:=[(.loop (loopAt 8 (bodyOf Tryd.f57) .skip),⟨nat_Mul_i8,nat_Mul_o8,lp nat_Mul_s8 K0⟩)]) (by kernel_rfl) ⟨nat_Mul_p8 H,trivial⟩) nat_Mul_l4 K0
theorem ok57 {T:Told} (H:Hands T):CtrOk T Tryd.prog 57 c57 :=
 fn_ok H.ty (n57 H) hm (lh:=nat_Mul_lh) (ct:=c57) (dcd:=fun y=>(y.2.1)) Tryd.func57 (by kernel_rfl) (by rfl) (LHok_of (l:=[(.loop (loopAt 4 (bodyOf Tryd.f57) .skip),⟨nat_Mul_i4,nat_Mul_o4,lp nat_Mul_s4 K0⟩)]) (by kernel_rfl) ⟨nat_Mul_p4 H,trivial⟩) (by decide) (fun _=>rfl) (fun x r h=>(nat_Mul_eq x.1 x.2.1).trans h)
theorem n51 {T:Told} (H:Hands T):EnvOk T Tryd.prog (envL e51):=envL_ok (l:=e51) ⟨ok57 H,ok60 H,ok71 H,trivial⟩
theorem ok51 {T:Told} (H:Hands T):CtrOk T Tryd.prog 51 c51 :=
 fn_ok H.ty (n51 H) hm (lh:=whole_Mul_lh) (ct:=c51) (dcd:=fun y=>(y.2.1)) Tryd.func51 (by kernel_rfl) (by rfl) (LHok_of (l:=[]) (by kernel_rfl) trivial) (by decide) (fun _=>rfl) (fun x r h=>(whole_Mul_eq x.1 x.2.1).trans h)
theorem n52 {T:Told} (H:Hands T):EnvOk T Tryd.prog (envL e52):=envL_ok (l:=e52) trivial
theorem ok52 {T:Told} (H:Hands T):CtrOk T Tryd.prog 52 c52 :=
 fn_ok H.ty (n52 H) hm (lh:=ratio_den_lh) (ct:=c52) (dcd:=fun y=>(y.2.1)) Tryd.func52 (by kernel_rfl) (by rfl) (LHok_of (l:=[]) (by kernel_rfl) trivial) (by decide) (fun _=>rfl) (fun x r h=>(ratio_den_eq x.1).trans h)
theorem n32 {T:Told} (H:Hands T):EnvOk T Tryd.prog (envL e32):=envL_ok (l:=e32) ⟨ok40 H,ok50 H,ok51 H,ok52 H,trivial⟩
theorem ok32 {T:Told} (H:Hands T):CtrOk T Tryd.prog 32 c32 :=
 fn_ok H.ty (n32 H) hm (lh:=ratio_Cmp_lh) (ct:=c32) (dcd:=fun y=>(y.2.1)) Tryd.func32 (by kernel_rfl) (by rfl) (LHok_of (l:=[]) (by kernel_rfl) trivial) (by decide) (fun _=>rfl) (fun x r h=>(ratio_Cmp_eq x.1 x.2.1).trans h)
theorem n12 {T:Told} (H:Hands T):EnvOk T Tryd.prog (envL e12):=envL_ok (l:=e12) ⟨ok32 H,trivial⟩
theorem ok12 {T:Told} (H:Hands T):CtrOk T Tryd.prog 12 c12 :=
 fn_ok H.ty (n12 H) hm (lh:=ratio_Same_lh) (ct:=c12) (dcd:=fun y=>(y.2.1)) Tryd.func12 (by kernel_rfl) (by rfl) (LHok_of (l:=[]) (by kernel_rfl) trivial) (by decide) (fun _=>rfl) (fun x r h=>(ratio_Same_eq x.1 x.2.1).trans h)
theorem n79 {T:Told} (H:Hands T):EnvOk T Tryd.prog (envL e79):=envL_ok (l:=e79) ⟨ok49 H,ok61 H,ok101 H,trivial⟩
theorem nat_Add_p5 {T:Told} (H:Hands T):PieceOk T Tryd.prog 43 (.loop (loopAt 5 (bodyOf Tryd.f79) .skip)) ⟨nat_Add_i5,nat_Add_o5,lp nat_Add_s5 K0⟩ :=
 loop_piece H.ty (n79 H) hm (LHok_of (l:=[]) (by kernel_rfl) trivial) nat_Add_l5 K0
theorem ok79 {T:Told} (H:Hands T):CtrOk T Tryd.prog 79 c79 :=
 fn_ok H.ty (n79 H) hm (lh:=nat_Add_lh) (ct:=c79) (dcd:=fun y=>(y.2.1)) Tryd.func79 (by kernel_rfl) (by rfl) (LHok_of (l:=[(.loop (loopAt 5 (bodyOf Tryd.f79) .skip),⟨nat_Add_i5,nat_Add_o5,lp nat_Add_s5 K0⟩)]) (by kernel_rfl) ⟨nat_Add_p5 H,trivial⟩) (by decide) (fun _=>rfl) (fun x r h=>(nat_Add_eq x.1 x.2.1).trans h)
theorem n80 {T:Told} (H:Hands T):EnvOk T Tryd.prog (envL e80):=envL_ok (l:=e80) ⟨ok61 H,ok85 H,ok98 H,trivial⟩
theorem ok80 {T:Told} (H:Hands T):CtrOk T Tryd.prog 80 c80 :=
 fn_ok H.ty (n80 H) hm (lh:=nat_Sub_lh) (ct:=c80) (dcd:=fun y=>(y.2.1,y.2.2.1)) Tryd.func80 (by kernel_rfl) (by rfl) (LHok_of (l:=[]) (by kernel_rfl) trivial) (by decide) (fun _=>rfl) (fun x r h=>(nat_Sub_eq x.1 x.2.1).trans h)
theorem n56 {T:Told} (H:Hands T):EnvOk T Tryd.prog (envL e56):=envL_ok (l:=e56) ⟨ok60 H,ok71 H,ok72 H,ok79 H,ok80 H,trivial⟩
theorem ok56 {T:Told} (H:Hands T):CtrOk T Tryd.prog 56 c56 :=
 fn_ok H.ty (n56 H) hm (lh:=whole_Add_lh) (ct:=c56) (dcd:=fun y=>(y.2.1)) Tryd.func56 (by kernel_rfl) (by rfl) (LHok_of (l:=[]) (by kernel_rfl) trivial) (by decide) (fun _=>rfl) (fun x r h=>(whole_Add_eq x.1 x.2.1).trans h)
theorem n36 {T:Told} (H:Hands T):EnvOk T Tryd.prog (envL e36):=envL_ok (l:=e36) ⟨ok40 H,ok51 H,ok52 H,ok55 H,ok56 H,ok57 H,trivial⟩
theorem ok36 {T:Told} (H:Hands T):CtrOk T Tryd.prog 36 c36 :=
 fn_ok H.ty (n36 H) hm (lh:=ratio_Add_lh) (ct:=c36) (dcd:=fun y=>(y.2.1)) Tryd.func36 (by kernel_rfl) (by rfl) (LHok_of (l:=[]) (by kernel_rfl) trivial) (by decide) (fun _=>rfl) (fun x r h=>(ratio_Add_eq x.1 x.2.1).trans h)
theorem n69 {T:Told} (H:Hands T):EnvOk T Tryd.prog (envL e69):=envL_ok (l:=e69) ⟨ok12 H,ok36 H,trivial⟩
theorem valid_sums_p2 {T:Told} (H:Hands T):PieceOk T Tryd.prog 37 (.loop (loopAt 2 (bodyOf Tryd.f69) .skip)) ⟨valid_sums_i2,valid_sums_o2,lp valid_sums_s2 K0⟩ :=
 loop_piece H.ty (n69 H) hm (LHok_of (l:=[]) (by kernel_rfl) trivial) valid_sums_l2 K0
theorem ok69 {T:Told} (H:Hands T):CtrOk T Tryd.prog 69 c69 :=
 fn_ok H.ty (n69 H) hm (lh:=valid_sums_lh) (ct:=c69) (dcd:=fun y=>(y.2.1,y.2.2.1)) Tryd.func69 (by kernel_rfl) (by rfl) (LHok_of (l:=[(.loop (loopAt 2 (bodyOf Tryd.f69) .skip),⟨valid_sums_i2,valid_sums_o2,lp valid_sums_s2 K0⟩)]) (by kernel_rfl) ⟨valid_sums_p2 H,trivial⟩) (by decide) (fun _=>rfl) (fun x r h=>(valid_sums_eq x.1).trans h)
theorem n70 {T:Told} (H:Hands T):EnvOk T Tryd.prog (envL e70):=envL_ok (l:=e70) trivial
theorem ok70 {T:Told} (H:Hands T):CtrOk T Tryd.prog 70 c70 :=
 fn_ok H.ty (n70 H) hm (lh:=valid_fault_lh) (ct:=c70) (dcd:=fun y=>(y.2.1)) Tryd.func70 (by kernel_rfl) (by rfl) (LHok_of (l:=[]) (by kernel_rfl) trivial) (by decide) (fun _=>rfl) (fun x r h=>(valid_fault_eq x.1 x.2.1 x.2.2.1).trans h)
theorem n46 {T:Told} (H:Hands T):EnvOk T Tryd.prog (envL e46):=envL_ok (l:=e46) ⟨ok65 H,ok66 H,ok67 H,ok68 H,ok69 H,ok70 H,trivial⟩
theorem valid_Check_p7 {T:Told} (H:Hands T):PieceOk T Tryd.prog 63 (.loop (loopAt 7 (bodyOf Tryd.f46) .skip)) ⟨valid_Check_i7,valid_Check_o7,lp valid_Check_s7 K0⟩ :=
 loop_piece H.ty (n46 H) hm (LHok_of (l:=[]) (by kernel_rfl) trivial) valid_Check_l7 K0
theorem valid_Check_p4 {T:Told} (H:Hands T):PieceOk T Tryd.prog 63 (.loop (loopAt 4 (bodyOf Tryd.f46) .skip)) ⟨valid_Check_i4,valid_Check_o4,lp valid_Check_s4 K0⟩ :=
 loop_piece H.ty (n46 H) hm (LHok_of (l:=[(.loop (loopAt 7 (bodyOf Tryd.f46) .skip),⟨valid_Check_i7,valid_Check_o7,lp valid_Check_s7 K0⟩)]) (by kernel_rfl) ⟨valid_Check_p7 H,trivial⟩) valid_Check_l4 K0
theorem ok46 {T:Told} (H:Hands T):CtrOk T Tryd.prog 46 c46 :=
 fn_ok H.ty (n46 H) hm (lh:=valid_Check_lh) (ct:=c46) (dcd:=fun y=>(y.2.1)) Tryd.func46 (by kernel_rfl) (by rfl) (LHok_of (l:=[(.loop (loopAt 4 (bodyOf Tryd.f46) .skip),⟨valid_Check_i4,valid_Check_o4,lp valid_Check_s4 K0⟩)]) (by kernel_rfl) ⟨valid_Check_p4 H,trivial⟩) (by decide) (fun _=>rfl) (fun x r h=>(valid_Check_eq x.1).trans h)
theorem n27 {T:Told} (H:Hands T):EnvOk T Tryd.prog (envL e27):=envL_ok (l:=e27) ⟨ok46 H,trivial⟩
theorem ok27 {T:Told} (H:Hands T):CtrOk T Tryd.prog 27 c27 :=
 fn_ok H.ty (n27 H) hm (lh:=valid_Ok_lh) (ct:=c27) (dcd:=fun y=>(y.2.1)) Tryd.func27 (by kernel_rfl) (by rfl) (LHok_of (l:=[]) (by kernel_rfl) trivial) (by decide) (fun _=>rfl) (fun x r h=>(valid_Ok_eq x.1).trans h)
theorem n8 {T:Told} (H:Hands T):EnvOk T Tryd.prog (envL e8):=envL_ok (l:=e8) ⟨ok27 H,trivial⟩
theorem ok8 {T:Told} (H:Hands T):CtrOk T Tryd.prog 8 c8 :=
 fn_ok H.ty (n8 H) hm (lh:=valid_Tree_lh) (ct:=c8) (dcd:=fun y=>(y.2.1)) Tryd.func8 (by kernel_rfl) (by rfl) (LHok_of (l:=[]) (by kernel_rfl) trivial) (by decide) (fun _=>rfl) (fun x r h=>(valid_Tree_eq x.1 x.2.1).trans h)
theorem n35 {T:Told} (H:Hands T):EnvOk T Tryd.prog (envL e35):=envL_ok (l:=e35) ⟨ok27 H,trivial⟩
theorem ok35 {T:Told} (H:Hands T):CtrOk T Tryd.prog 35 c35 :=
 fn_ok H.ty (n35 H) hm (lh:=route_fits_lh) (ct:=c35) (dcd:=fun y=>(y.2.1)) Tryd.func35 (by kernel_rfl) (by rfl) (LHok_of (l:=[]) (by kernel_rfl) trivial) (by decide) (fun _=>rfl) (fun x r h=>(route_fits_eq x.1 x.2.1).trans h)
theorem n33 {T:Told} (H:Hands T):EnvOk T Tryd.prog (envL e33):=envL_ok (l:=e33) ⟨ok35 H,trivial⟩
theorem ok33 {T:Told} (H:Hands T):CtrOk T Tryd.prog 33 c33 :=
 fn_ok H.ty (n33 H) hm (lh:=route_Fits_lh) (ct:=c33) (dcd:=fun y=>(y.2.1)) Tryd.func33 (by kernel_rfl) (by rfl) (LHok_of (l:=[]) (by kernel_rfl) trivial) (by decide) (fun _=>rfl) (fun x r h=>(route_Fits_eq x.1 x.2.1).trans h)
theorem n53 {T:Told} (H:Hands T):EnvOk T Tryd.prog (envL e53):=envL_ok (l:=e53) ⟨ok11 H,trivial⟩
theorem pathshap_zeros_p3 {T:Told} (H:Hands T):PieceOk T Tryd.prog 13 (.loop (loopAt 3 (bodyOf Tryd.f53) .skip)) ⟨pathshap_zeros_i3,pathshap_zeros_o3,lp pathshap_zeros_s3 K0⟩ :=
 loop_piece H.ty (n53 H) hm (LHok_of (l:=[]) (by kernel_rfl) trivial) pathshap_zeros_l3 K0
theorem ok53 {T:Told} (H:Hands T):CtrOk T Tryd.prog 53 c53 :=
 fn_ok H.ty (n53 H) hm (lh:=pathshap_zeros_lh) (ct:=c53) (dcd:=fun y=>(y.2.1)) Tryd.func53 (by kernel_rfl) (by rfl) (LHok_of (l:=[(.loop (loopAt 3 (bodyOf Tryd.f53) .skip),⟨pathshap_zeros_i3,pathshap_zeros_o3,lp pathshap_zeros_s3 K0⟩)]) (by kernel_rfl) ⟨pathshap_zeros_p3 H,trivial⟩) (by decide) (fun _=>rfl) (fun x r h=>(pathshap_zeros_eq x.1).trans h)
theorem n47 {T:Told} (H:Hands T):EnvOk T Tryd.prog (envL e47):=envL_ok (l:=e47) ⟨ok31 H,ok71 H,trivial⟩
theorem ok47 {T:Told} (H:Hands T):CtrOk T Tryd.prog 47 c47 :=
 fn_ok H.ty (n47 H) hm (lh:=whole_Of_lh) (ct:=c47) (dcd:=fun y=>(y.2.1)) Tryd.func47 (by kernel_rfl) (by rfl) (LHok_of (l:=[]) (by kernel_rfl) trivial) (by decide) (fun _=>rfl) (fun x r h=>(whole_Of_eq x.1).trans h)
theorem n28 {T:Told} (H:Hands T):EnvOk T Tryd.prog (envL e28):=envL_ok (l:=e28) ⟨ok31 H,ok47 H,trivial⟩
theorem ok28 {T:Told} (H:Hands T):CtrOk T Tryd.prog 28 c28 :=
 fn_ok H.ty (n28 H) hm (lh:=ratio_Of_lh) (ct:=c28) (dcd:=fun y=>(y.2.1)) Tryd.func28 (by kernel_rfl) (by rfl) (LHok_of (l:=[]) (by kernel_rfl) trivial) (by decide) (fun _=>rfl) (fun x r h=>(ratio_Of_eq x.1).trans h)
theorem n29 {T:Told} (H:Hands T):EnvOk T Tryd.prog (envL e29):=envL_ok (l:=e29) ⟨ok28 H,trivial⟩
theorem ok29 {T:Told} (H:Hands T):CtrOk T Tryd.prog 29 c29 :=
 fn_ok H.ty (n29 H) hm (lh:=ratio_One_lh) (ct:=c29) (dcd:=fun y=>(y.2.1)) Tryd.func29 (by kernel_rfl) (by rfl) (LHok_of (l:=[]) (by kernel_rfl) trivial) (by decide) (fun _=>rfl) (fun x r h=>(ratio_One_eq ).trans h)
theorem n73 {T:Told} (H:Hands T):EnvOk T Tryd.prog (envL e73):=envL_ok (l:=e73) ⟨ok29 H,trivial⟩
theorem ok73 {T:Told} (H:Hands T):CtrOk T Tryd.prog 73 c73 :=
 fn_okB H.ty (n73 H) hm (lh:=pathshap_New_lh) (ct:=c73) (wi:=w73) (dcd:=fun y=>(y.2.1)) Tryd.func73 (by kernel_rfl) (by rfl) (LHok_of (l:=[]) (by kernel_rfl) trivial) (fun _=>rfl) rfl (fun x r h=>(pathshap_New_eq ).trans h)
theorem n64 {T:Told} (H:Hands T):EnvOk T Tryd.prog (envL e64):=envL_ok (l:=e64) ⟨ok40 H,ok51 H,ok55 H,ok57 H,trivial⟩
theorem ok64 {T:Told} (H:Hands T):CtrOk T Tryd.prog 64 c64 :=
 fn_ok H.ty (n64 H) hm (lh:=ratio_Mul_lh) (ct:=c64) (dcd:=fun y=>(y.2.1)) Tryd.func64 (by kernel_rfl) (by rfl) (LHok_of (l:=[]) (by kernel_rfl) trivial) (by decide) (fun _=>rfl) (fun x r h=>(ratio_Mul_eq x.1 x.2.1).trans h)
theorem n86 {T:Told} (H:Hands T):EnvOk T Tryd.prog (envL e86):=envL_ok (l:=e86) trivial
theorem pathshap_Path_Find_p4 {T:Told} (H:Hands T):PieceOk T Tryd.prog 29 (.loop (loopAt 4 (bodyOf Tryd.f86) .skip)) ⟨pathshap_Path_Find_i4,pathshap_Path_Find_o4,lp pathshap_Path_Find_s4 K0⟩ :=
 loop_piece H.ty (n86 H) hm (LHok_of (l:=[]) (by kernel_rfl) trivial) pathshap_Path_Find_l4 K0
theorem ok86 {T:Told} (H:Hands T):CtrOk T Tryd.prog 86 c86 :=
 fn_okB H.ty (n86 H) hm (lh:=pathshap_Path_Find_lh) (ct:=c86) (wi:=w86) (dcd:=fun y=>(y.2.1,y.2.2.1)) Tryd.func86 (by kernel_rfl) (by rfl) (LHok_of (l:=[(.loop (loopAt 4 (bodyOf Tryd.f86) .skip),⟨pathshap_Path_Find_i4,pathshap_Path_Find_o4,lp pathshap_Path_Find_s4 K0⟩)]) (by kernel_rfl) ⟨pathshap_Path_Find_p4 H,trivial⟩) (fun _=>rfl) rfl (fun x r h=>(pathshap_Path_Find_eq x.1 x.2.1).trans h)
theorem n87 {T:Told} (H:Hands T):EnvOk T Tryd.prog (envL e87):=envL_ok (l:=e87) trivial
theorem pathshap_Path_Parts_p5 {T:Told} (H:Hands T):PieceOk T Tryd.prog 32 (.loop (loopAt 5 (bodyOf Tryd.f87) .skip)) ⟨pathshap_Path_Parts_i5,pathshap_Path_Parts_o5,lp pathshap_Path_Parts_s5 K0⟩ :=
 loop_piece H.ty (n87 H) hm (LHok_of (l:=[]) (by kernel_rfl) trivial) pathshap_Path_Parts_l5 K0
theorem ok87 {T:Told} (H:Hands T):CtrOk T Tryd.prog 87 c87 :=
 fn_okB H.ty (n87 H) hm (lh:=pathshap_Path_Parts_lh) (ct:=c87) (wi:=w87) (dcd:=fun y=>(y.2.1,y.2.2.1)) Tryd.func87 (by kernel_rfl) (by rfl) (LHok_of (l:=[(.loop (loopAt 5 (bodyOf Tryd.f87) .skip),⟨pathshap_Path_Parts_i5,pathshap_Path_Parts_o5,lp pathshap_Path_Parts_s5 K0⟩)]) (by kernel_rfl) ⟨pathshap_Path_Parts_p5 H,trivial⟩) (fun _=>rfl) rfl (fun x r h=>(pathshap_Path_Parts_eq x.1).trans h)
theorem n62 {T:Told} (H:Hands T):EnvOk T Tryd.prog (envL e62):=envL_ok (l:=e62) ⟨ok60 H,ok71 H,trivial⟩
theorem ok62 {T:Told} (H:Hands T):CtrOk T Tryd.prog 62 c62 :=
 fn_ok H.ty (n62 H) hm (lh:=whole_Neg_lh) (ct:=c62) (dcd:=fun y=>(y.2.1)) Tryd.func62 (by kernel_rfl) (by rfl) (LHok_of (l:=[]) (by kernel_rfl) trivial) (by decide) (fun _=>rfl) (fun x r h=>(whole_Neg_eq x.1).trans h)
theorem n41 {T:Told} (H:Hands T):EnvOk T Tryd.prog (envL e41):=envL_ok (l:=e41) ⟨ok40 H,ok62 H,trivial⟩
theorem ok41 {T:Told} (H:Hands T):CtrOk T Tryd.prog 41 c41 :=
 fn_ok H.ty (n41 H) hm (lh:=ratio_Neg_lh) (ct:=c41) (dcd:=fun y=>(y.2.1)) Tryd.func41 (by kernel_rfl) (by rfl) (LHok_of (l:=[]) (by kernel_rfl) trivial) (by decide) (fun _=>rfl) (fun x r h=>(ratio_Neg_eq x.1).trans h)
theorem n21 {T:Told} (H:Hands T):EnvOk T Tryd.prog (envL e21):=envL_ok (l:=e21) ⟨ok36 H,ok41 H,trivial⟩
theorem ok21 {T:Told} (H:Hands T):CtrOk T Tryd.prog 21 c21 :=
 fn_ok H.ty (n21 H) hm (lh:=ratio_Sub_lh) (ct:=c21) (dcd:=fun y=>(y.2.1)) Tryd.func21 (by kernel_rfl) (by rfl) (LHok_of (l:=[]) (by kernel_rfl) trivial) (by decide) (fun _=>rfl) (fun x r h=>(ratio_Sub_eq x.1 x.2.1).trans h)
theorem n48 {T:Told} (H:Hands T):EnvOk T Tryd.prog (envL e48):=envL_ok (l:=e48) ⟨ok39 H,ok55 H,ok60 H,ok62 H,trivial⟩
theorem ok48 {T:Told} (H:Hands T):CtrOk T Tryd.prog 48 c48 :=
 fn_ok H.ty (n48 H) hm (lh:=ratio_Make_lh) (ct:=c48) (dcd:=fun y=>(y.2.1,y.2.2.1)) Tryd.func48 (by kernel_rfl) (by rfl) (LHok_of (l:=[]) (by kernel_rfl) trivial) (by decide) (fun _=>rfl) (fun x r h=>(ratio_Make_eq x.1 x.2.1).trans h)
theorem n30 {T:Told} (H:Hands T):EnvOk T Tryd.prog (envL e30):=envL_ok (l:=e30) ⟨ok40 H,ok47 H,ok48 H,trivial⟩
theorem ok30 {T:Told} (H:Hands T):CtrOk T Tryd.prog 30 c30 :=
 fn_ok H.ty (n30 H) hm (lh:=ratio_Frac_lh) (ct:=c30) (dcd:=fun y=>(y.2.1)) Tryd.func30 (by kernel_rfl) (by rfl) (LHok_of (l:=[]) (by kernel_rfl) trivial) (by decide) (fun _=>rfl) (fun x r h=>(ratio_Frac_eq x.1 x.2.1).trans h)
theorem n104 {T:Told} (H:Hands T):EnvOk T Tryd.prog (envL e104):=envL_ok (l:=e104) ⟨ok40 H,ok48 H,ok52 H,trivial⟩
theorem ok104 {T:Told} (H:Hands T):CtrOk T Tryd.prog 104 c104 :=
 fn_ok H.ty (n104 H) hm (lh:=ratio_Inv_lh) (ct:=c104) (dcd:=fun y=>(y.2.1,y.2.2.1)) Tryd.func104 (by kernel_rfl) (by rfl) (LHok_of (l:=[]) (by kernel_rfl) trivial) (by decide) (fun _=>rfl) (fun x r h=>(ratio_Inv_eq x.1).trans h)
theorem n103 {T:Told} (H:Hands T):EnvOk T Tryd.prog (envL e103):=envL_ok (l:=e103) ⟨ok21 H,ok30 H,ok64 H,ok104 H,trivial⟩
theorem pathshap_Path_without_p7 {T:Told} (H:Hands T):PieceOk T Tryd.prog 104 (.loop (loopAt 7 (bodyOf Tryd.f103) .skip)) ⟨pathshap_Path_without_i7,pathshap_Path_without_o7,lp pathshap_Path_without_s7 K0⟩ :=
 loop_piece H.ty (n103 H) hm (LHok_of (l:=[]) (by kernel_rfl) trivial) pathshap_Path_without_l7 K0
theorem ok103 {T:Told} (H:Hands T):CtrOk T Tryd.prog 103 c103 :=
 fn_okB H.ty (n103 H) hm (lh:=pathshap_Path_without_lh) (ct:=c103) (wi:=w103) (dcd:=fun y=>(y.2.1,y.2.2.1)) Tryd.func103 (by kernel_rfl) (by rfl) (LHok_of (l:=[(.loop (loopAt 7 (bodyOf Tryd.f103) .skip),⟨pathshap_Path_without_i7,pathshap_Path_without_o7,lp pathshap_Path_without_s7 K0⟩)]) (by kernel_rfl) ⟨pathshap_Path_without_p7 H,trivial⟩) (fun _=>rfl) rfl (fun x r h=>(pathshap_Path_without_eq x.1 x.2.1).trans h)
theorem n88 {T:Told} (H:Hands T):EnvOk T Tryd.prog (envL e88):=envL_ok (l:=e88) ⟨ok103 H,trivial⟩
theorem pathshap_Path_Unwind_p8 {T:Told} (H:Hands T):PieceOk T Tryd.prog 66 (.loop (loopAt 8 (bodyOf Tryd.f88) .skip)) ⟨pathshap_Path_Unwind_i8,pathshap_Path_Unwind_o8,lp pathshap_Path_Unwind_s8 K0⟩ :=
 loop_piece H.ty (n88 H) hm (LHok_of (l:=[]) (by kernel_rfl) trivial) pathshap_Path_Unwind_l8 K0
theorem ok88 {T:Told} (H:Hands T):CtrOk T Tryd.prog 88 c88 :=
 fn_okB H.ty (n88 H) hm (lh:=pathshap_Path_Unwind_lh) (ct:=c88) (wi:=w88) (dcd:=fun y=>(y.2.1,y.2.2.1)) Tryd.func88 (by kernel_rfl) (by rfl) (LHok_of (l:=[(.loop (loopAt 8 (bodyOf Tryd.f88) .skip),⟨pathshap_Path_Unwind_i8,pathshap_Path_Unwind_o8,lp pathshap_Path_Unwind_s8 K0⟩)]) (by kernel_rfl) ⟨pathshap_Path_Unwind_p8 H,trivial⟩) (fun _=>rfl) rfl (fun x r h=>(pathshap_Path_Unwind_eq x.1 x.2.1).trans h)
theorem n89 {T:Told} (H:Hands T):EnvOk T Tryd.prog (envL e89):=envL_ok (l:=e89) ⟨ok11 H,ok19 H,ok30 H,ok36 H,ok40 H,ok64 H,ok86 H,trivial⟩
theorem pathshap_Path_Extend_p10 {T:Told} (H:Hands T):PieceOk T Tryd.prog 113 (.loop (loopAt 10 (bodyOf Tryd.f89) .skip)) ⟨pathshap_Path_Extend_i10,pathshap_Path_Extend_o10,lp pathshap_Path_Extend_s10 K0⟩ :=
 loop_piece H.ty (n89 H) hm (LHok_of (l:=[]) (by kernel_rfl) trivial) pathshap_Path_Extend_l10 K0
theorem ok89 {T:Told} (H:Hands T):CtrOk T Tryd.prog 89 c89 :=
 fn_okB H.ty (n89 H) hm (lh:=pathshap_Path_Extend_lh) (ct:=c89) (wi:=w89) (dcd:=fun y=>(y.2.1,y.2.2.1)) Tryd.func89 (by kernel_rfl) (by rfl) (LHok_of (l:=[(.loop (loopAt 10 (bodyOf Tryd.f89) .skip),⟨pathshap_Path_Extend_i10,pathshap_Path_Extend_o10,lp pathshap_Path_Extend_s10 K0⟩)]) (by kernel_rfl) ⟨pathshap_Path_Extend_p10 H,trivial⟩) (fun _=>rfl) rfl (fun x r h=>(pathshap_Path_Extend_eq x.1 x.2.1 x.2.2.1 x.2.2.2.1).trans h)
theorem n74 {T:Told} (H:Hands T):EnvOk T Tryd.prog (envL e74):=envL_ok (l:=e74) ⟨ok64 H,ok86 H,ok87 H,ok88 H,ok89 H,trivial⟩
theorem ok74 {T:Told} (H:Hands T):CtrOk T Tryd.prog 74 c74 :=
 fn_okB H.ty (n74 H) hm (lh:=pathshap_place_join_lh) (ct:=c74) (wi:=w74) (dcd:=fun y=>(y.2.1,y.2.2.1,y.2.2.2.1,y.2.2.2.2.1,y.2.2.2.2.2.1,y.2.2.2.2.2.2.1,y.2.2.2.2.2.2.2.1,y.2.2.2.2.2.2.2.2.1,y.2.2.2.2.2.2.2.2.2.1,y.2.2.2.2.2.2.2.2.2.2.1)) Tryd.func74 (by kernel_rfl) (by rfl) (LHok_of (l:=[]) (by kernel_rfl) trivial) (fun _=>rfl) rfl (fun x r h=>(pathshap_place_join_eq x.1 x.2.1 x.2.2.1 x.2.2.2.1 x.2.2.2.2.1 x.2.2.2.2.2.1 x.2.2.2.2.2.2.1 x.2.2.2.2.2.2.2.1 x.2.2.2.2.2.2.2.2.1 x.2.2.2.2.2.2.2.2.2.1).trans h)
theorem n20 {T:Told} (H:Hands T):EnvOk T Tryd.prog (envL e20):=envL_ok (l:=e20) ⟨ok11 H,ok36 H,trivial⟩
theorem ratio_Sum_p3 {T:Told} (H:Hands T):PieceOk T Tryd.prog 18 (.loop (loopAt 3 (bodyOf Tryd.f20) .skip)) ⟨ratio_Sum_i3,ratio_Sum_o3,lp ratio_Sum_s3 K0⟩ :=
 loop_piece H.ty (n20 H) hm (LHok_of (l:=[]) (by kernel_rfl) trivial) ratio_Sum_l3 K0
theorem ok20 {T:Told} (H:Hands T):CtrOk T Tryd.prog 20 c20 :=
 fn_ok H.ty (n20 H) hm (lh:=ratio_Sum_lh) (ct:=c20) (dcd:=fun y=>(y.2.1)) Tryd.func20 (by kernel_rfl) (by rfl) (LHok_of (l:=[(.loop (loopAt 3 (bodyOf Tryd.f20) .skip),⟨ratio_Sum_i3,ratio_Sum_o3,lp ratio_Sum_s3 K0⟩)]) (by kernel_rfl) ⟨ratio_Sum_p3 H,trivial⟩) (by decide) (fun _=>rfl) (fun x r h=>(ratio_Sum_eq x.1).trans h)
theorem n90 {T:Told} (H:Hands T):EnvOk T Tryd.prog (envL e90):=envL_ok (l:=e90) ⟨ok20 H,ok103 H,trivial⟩
theorem ok90 {T:Told} (H:Hands T):CtrOk T Tryd.prog 90 c90 :=
 fn_okB H.ty (n90 H) hm (lh:=pathshap_Path_Sum_lh) (ct:=c90) (wi:=w90) (dcd:=fun y=>(y.2.1,y.2.2.1,y.2.2.2.1)) Tryd.func90 (by kernel_rfl) (by rfl) (LHok_of (l:=[]) (by kernel_rfl) trivial) (fun _=>rfl) rfl (fun x r h=>(pathshap_Path_Sum_eq x.1 x.2.1).trans h)
theorem n75 {T:Told} (H:Hands T):EnvOk T Tryd.prog (envL e75):=envL_ok (l:=e75) ⟨ok29 H,ok36 H,ok41 H,ok64 H,ok87 H,ok90 H,trivial⟩
theorem pathshap_walker_leaf_p3 {T:Told} (H:Hands T):PieceOk T Tryd.prog 69 (.loop (loopAt 3 (bodyOf Tryd.f75) .skip)) ⟨pathshap_walker_leaf_i3,pathshap_walker_leaf_o3,lp pathshap_walker_leaf_s3 K0⟩ :=
 loop_piece H.ty (n75 H) hm (LHok_of (l:=[]) (by kernel_rfl) trivial) pathshap_walker_leaf_l3 K0
theorem ok75 {T:Told} (H:Hands T):CtrOk T Tryd.prog 75 c75 :=
 fn_okB H.ty (n75 H) hm (lh:=pathshap_walker_leaf_lh) (ct:=c75) (wi:=w75) (dcd:=fun y=>(y.1.1,y.2.1,y.2.2.1,y.2.2.2.1,y.2.2.2.2.1,y.2.2.2.2.2.1)) Tryd.func75 (by kernel_rfl) (by rfl) (LHok_of (l:=[(.loop (loopAt 3 (bodyOf Tryd.f75) .skip),⟨pathshap_walker_leaf_i3,pathshap_walker_leaf_o3,lp pathshap_walker_leaf_s3 K0⟩)]) (by kernel_rfl) ⟨pathshap_walker_leaf_p3 H,trivial⟩) (fun _=>rfl) rfl (fun x r h=>(pathshap_walker_leaf_eq x.1 x.2.1 x.2.2.1 x.2.2.2.1 x.2.2.2.2.1 x.2.2.2.2.2.1 x.2.2.2.2.2.2.1 x.2.2.2.2.2.2.2.1 x.2.2.2.2.2.2.2.2.1 x.2.2.2.2.2.2.2.2.2.1 x.2.2.2.2.2.2.2.2.2.2.1 x.2.2.2.2.2.2.2.2.2.2.2.1 x.2.2.2.2.2.2.2.2.2.2.2.2.1 x.2.2.2.2.2.2.2.2.2.2.2.2.2.1 x.2.2.2.2.2.2.2.2.2.2.2.2.2.2.1).trans h)
theorem n81 {T:Told} (H:Hands T):EnvOk T Tryd.prog (envL e81):=envL_ok (l:=e81) ⟨ok32 H,trivial⟩
theorem ok81 {T:Told} (H:Hands T):CtrOk T Tryd.prog 81 c81 :=
 fn_ok H.ty (n81 H) hm (lh:=route_goes_lh) (ct:=c81) (dcd:=fun y=>(y.2.1)) Tryd.func81 (by kernel_rfl) (by rfl) (LHok_of (l:=[]) (by kernel_rfl) trivial) (by decide) (fun _=>rfl) (fun x r h=>(route_goes_eq x.1 x.2.1).trans h)
theorem n84 {T:Told} (H:Hands T):EnvOk T Tryd.prog (envL e84):=envL_ok (l:=e84) ⟨ok81 H,trivial⟩
theorem ok84 {T:Told} (H:Hands T):CtrOk T Tryd.prog 84 c84 :=
 fn_ok H.ty (n84 H) hm (lh:=route_Left_lh) (ct:=c84) (dcd:=fun y=>(y.2.1)) Tryd.func84 (by kernel_rfl) (by rfl) (LHok_of (l:=[]) (by kernel_rfl) trivial) (by decide) (fun _=>rfl) (fun x r h=>(route_Left_eq x.1 x.2.1).trans h)
theorem n91 {T:Told} (H:Hands T):EnvOk T Tryd.prog (envL e91):=envL_ok (l:=e91) ⟨ok64 H,ok104 H,trivial⟩
theorem ok91 {T:Told} (H:Hands T):CtrOk T Tryd.prog 91 c91 :=
 fn_ok H.ty (n91 H) hm (lh:=ratio_Div_lh) (ct:=c91) (dcd:=fun y=>(y.2.1,y.2.2.1)) Tryd.func91 (by kernel_rfl) (by rfl) (LHok_of (l:=[]) (by kernel_rfl) trivial) (by decide) (fun _=>rfl) (fun x r h=>(ratio_Div_eq x.1 x.2.1).trans h)
theorem n92 {T:Told} (H:Hands T):EnvOk T Tryd.prog (envL e92):=envL_ok (l:=e92) trivial
theorem ok92 {T:Told} (H:Hands T):CtrOk T Tryd.prog 92 c92 :=
 fn_okB H.ty (n92 H) hm (lh:=pathshap_Path_Copy_lh) (ct:=c92) (wi:=w92) (dcd:=fun y=>(y.2.1,y.2.2.1)) Tryd.func92 (by kernel_rfl) (by rfl) (LHok_of (l:=[]) (by kernel_rfl) trivial) (fun _=>rfl) rfl (fun x r h=>(pathshap_Path_Copy_eq x.1).trans h)
theorem n76 {T:Told} (H:Hands T):EnvOk T Tryd.prog (envL e76):=envL_ok (l:=e76) ⟨ok64 H,ok84 H,ok91 H,ok92 H,trivial⟩
theorem ok76 {T:Told} (H:Hands T):CtrOk T Tryd.prog 76 c76 :=
 fn_okB H.ty (n76 H) hm (lh:=pathshap_walker_child_lh) (ct:=c76) (wi:=w76) (dcd:=fun y=>(y.1.1,y.2.1,y.2.2.1,y.2.2.2.1,y.2.2.2.2.1,y.2.2.2.2.2.1,y.2.2.2.2.2.2.1,y.2.2.2.2.2.2.2.1,y.2.2.2.2.2.2.2.2.1,y.2.2.2.2.2.2.2.2.2.1,y.2.2.2.2.2.2.2.2.2.2.1,y.2.2.2.2.2.2.2.2.2.2.2.1,y.2.2.2.2.2.2.2.2.2.2.2.2.1,y.2.2.2.2.2.2.2.2.2.2.2.2.2.1,y.2.2.2.2.2.2.2.2.2.2.2.2.2.2.1,y.2.2.2.2.2.2.2.2.2.2.2.2.2.2.2.1,y.2.2.2.2.2.2.2.2.2.2.2.2.2.2.2.2.1)) Tryd.func76 (by kernel_rfl) (by rfl) (LHok_of (l:=[]) (by kernel_rfl) trivial) (fun _=>rfl) rfl (fun x r h=>(pathshap_walker_child_eq x.1 x.2.1 x.2.2.1 x.2.2.2.1 x.2.2.2.2.1 x.2.2.2.2.2.1 x.2.2.2.2.2.2.1 x.2.2.2.2.2.2.2.1 x.2.2.2.2.2.2.2.2.1 x.2.2.2.2.2.2.2.2.2.1 x.2.2.2.2.2.2.2.2.2.2.1 x.2.2.2.2.2.2.2.2.2.2.2.1 x.2.2.2.2.2.2.2.2.2.2.2.2.1 x.2.2.2.2.2.2.2.2.2.2.2.2.2.1 x.2.2.2.2.2.2.2.2.2.2.2.2.2.2.1 x.2.2.2.2.2.2.2.2.2.2.2.2.2.2.2.1 x.2.2.2.2.2.2.2.2.2.2.2.2.2.2.2.2.1).trans h)
theorem n54 {T:Told} (H:Hands T):EnvOk T Tryd.prog (envL e54):=envL_ok (l:=e54) ⟨ok29 H,ok73 H,ok74 H,ok75 H,ok76 H,trivial⟩
theorem pathshap_walker_walk_p9 {T:Told} (H:Hands T):PieceOk T Tryd.prog 91 (.loop (loopAt 9 (bodyOf Tryd.f54) .skip)) ⟨pathshap_walker_walk_i9,pathshap_walker_walk_o9,lp pathshap_walker_walk_s9 K0⟩ :=
 loop_piece H.ty (n54 H) hm (LHok_of (l:=[]) (by kernel_rfl) trivial) pathshap_walker_walk_l9 K0
theorem pathshap_walker_walk_p1 {T:Told} (H:Hands T):PieceOk T Tryd.prog 91 (.loop (loopAt 1 (bodyOf Tryd.f54) .skip)) ⟨pathshap_walker_walk_i1,pathshap_walker_walk_o1,lp pathshap_walker_walk_s1 K0⟩ :=
 loop_piece H.ty (n54 H) hm (LHok_of (l:=[(.loop (loopAt 9 (bodyOf Tryd.f54) .skip),⟨pathshap_walker_walk_i9,pathshap_walker_walk_o9,lp pathshap_walker_walk_s9 K0⟩)]) (by kernel_rfl) ⟨pathshap_walker_walk_p9 H,trivial⟩) pathshap_walker_walk_l1 K0
theorem ok54 {T:Told} (H:Hands T):CtrOk T Tryd.prog 54 c54 :=
 fn_okB H.ty (n54 H) hm (lh:=pathshap_walker_walk_lh) (ct:=c54) (wi:=w54) (dcd:=fun y=>(y.1.1,y.2.1,y.2.2.1,y.2.2.2.1,y.2.2.2.2.1,y.2.2.2.2.2.1)) Tryd.func54 (by kernel_rfl) (by rfl) (LHok_of (l:=[(.loop (loopAt 1 (bodyOf Tryd.f54) .skip),⟨pathshap_walker_walk_i1,pathshap_walker_walk_o1,lp pathshap_walker_walk_s1 K0⟩)]) (by kernel_rfl) ⟨pathshap_walker_walk_p1 H,trivial⟩) (fun _=>rfl) rfl (fun x r h=>(pathshap_walker_walk_eq x.1 x.2.1 x.2.2.1 x.2.2.2.1 x.2.2.2.2.1 x.2.2.2.2.2.1).trans h)
theorem n34 {T:Told} (H:Hands T):EnvOk T Tryd.prog (envL e34):=envL_ok (l:=e34) ⟨ok53 H,ok54 H,trivial⟩
theorem pathshap_all_p3 {T:Told} (H:Hands T):PieceOk T Tryd.prog 34 (.loop (loopAt 3 (bodyOf Tryd.f34) .skip)) ⟨pathshap_all_i3,pathshap_all_o3,lp pathshap_all_s3 K0⟩ :=
 loop_piece H.ty (n34 H) hm (LHok_of (l:=[]) (by kernel_rfl) trivial) pathshap_all_l3 K0
theorem ok34 {T:Told} (H:Hands T):CtrOk T Tryd.prog 34 c34 :=
 fn_ok H.ty (n34 H) hm (lh:=pathshap_all_lh) (ct:=c34) (dcd:=fun y=>(y.2.1)) Tryd.func34 (by kernel_rfl) (by rfl) (LHok_of (l:=[(.loop (loopAt 3 (bodyOf Tryd.f34) .skip),⟨pathshap_all_i3,pathshap_all_o3,lp pathshap_all_s3 K0⟩)]) (by kernel_rfl) ⟨pathshap_all_p3 H,trivial⟩) (by decide) (fun _=>rfl) (fun x r h=>(pathshap_all_eq x.1 x.2.1 x.2.2.1 x.2.2.2.1).trans h)
theorem n14 {T:Told} (H:Hands T):EnvOk T Tryd.prog (envL e14):=envL_ok (l:=e14) ⟨ok33 H,ok34 H,trivial⟩
theorem ok14 {T:Told} (H:Hands T):CtrOk T Tryd.prog 14 c14 :=
 fn_ok H.ty (n14 H) hm (lh:=pathshap_Values_lh) (ct:=c14) (dcd:=fun y=>(y.2.1,y.2.2.1)) Tryd.func14 (by kernel_rfl) (by rfl) (LHok_of (l:=[]) (by kernel_rfl) trivial) (by decide) (fun _=>rfl) (fun x r h=>(pathshap_Values_eq x.1 x.2.1).trans h)
theorem n9 {T:Told} (H:Hands T):EnvOk T Tryd.prog (envL e9):=envL_ok (l:=e9) ⟨ok12 H,ok14 H,ok28 H,ok29 H,ok30 H,trivial⟩
theorem dendronlaw15_awake_cF {r} (h:c9.F () = r):dendronlaw15_awake = r:=by
 subst h
 delta c9
 exact (@F_in [] _ _ (fun _=>dendronlaw15_awake) _ _ () _ rfl).symm
theorem dendronlaw15_awake_fx (x) (r:c9.T) (h:c9.F x = some r):fnF tb (envL e9) Tryd.f9 dendronlaw15_awake_lh c9.ps c9.rs (T:=c9.T) (fun y=>(y.2.1)) x = some r:=by
 cases x
 exact dendronlaw15_awake_eq.trans (dendronlaw15_awake_cF h)
theorem ok9 {T:Told} (H:Hands T):CtrOk T Tryd.prog 9 c9 :=
 fn_ok H.ty (n9 H) hm (lh:=dendronlaw15_awake_lh) (ct:=c9) (dcd:=fun y=>(y.2.1)) Tryd.func9 (by kernel_rfl) (by rfl) (LHok_of (l:=[]) (by kernel_rfl) trivial) (by decide) (fun _=>rfl) (fun x r h=>dendronlaw15_awake_fx x r h)
theorem n10 {T:Told} (H:Hands T):EnvOk T Tryd.prog (envL e10):=envL_ok (l:=e10) ⟨ok14 H,trivial⟩
theorem ok10 {T:Told} (H:Hands T):CtrOk T Tryd.prog 10 c10 :=
 fn_ok H.ty (n10 H) hm (lh:=pathshap_Tree_lh) (ct:=c10) (dcd:=fun y=>(y.2.1,y.2.2.1)) Tryd.func10 (by kernel_rfl) (by rfl) (LHok_of (l:=[]) (by kernel_rfl) trivial) (by decide) (fun _=>rfl) (fun x r h=>(pathshap_Tree_eq x.1 x.2.1).trans h)
theorem n3 {T:Told} (H:Hands T):EnvOk T Tryd.prog (envL e3):=envL_ok (l:=e3) ⟨ok6 H,ok7 H,ok8 H,ok9 H,ok10 H,ok11 H,ok12 H,trivial⟩
theorem dendronlaw15_PathshapMany_p7 {T:Told} (H:Hands T):PieceOk T Tryd.prog 125 (.loop (loopAt 7 (bodyOf Tryd.f3) .skip)) ⟨dendronlaw15_PathshapMany_i7,dendronlaw15_PathshapMany_o7,lp dendronlaw15_PathshapMany_s7 K0⟩ :=
 loop_piece H.ty (n3 H) hm (LHok_of (l:=[]) (by kernel_rfl) trivial) dendronlaw15_PathshapMany_l7 K0
theorem dendronlaw15_PathshapMany_p16 {T:Told} (H:Hands T):PieceOk T Tryd.prog 125 (.loop (loopAt 16 (bodyOf Tryd.f3) .skip)) ⟨dendronlaw15_PathshapMany_i16,dendronlaw15_PathshapMany_o16,lp dendronlaw15_PathshapMany_s16 K0⟩ :=
 loop_piece H.ty (n3 H) hm (LHok_of (l:=[]) (by kernel_rfl) trivial) dendronlaw15_PathshapMany_l16 K0
theorem dendronlaw15_PathshapMany_p24 {T:Told} (H:Hands T):PieceOk T Tryd.prog 125 (.loop (loopAt 24 (bodyOf Tryd.f3) .skip)) ⟨dendronlaw15_PathshapMany_i24,dendronlaw15_PathshapMany_o24,lp dendronlaw15_PathshapMany_s24 K0⟩ :=
 loop_piece H.ty (n3 H) hm (LHok_of (l:=[]) (by kernel_rfl) trivial) dendronlaw15_PathshapMany_l24 K0
theorem ok3 {T:Told} (H:Hands T):CtrOk T Tryd.prog 3 c3 :=
 fn_ok H.ty (n3 H) hm (lh:=dendronlaw15_PathshapMany_lh) (ct:=c3) (dcd:=fun y=>(y.2.1)) Tryd.func3 (by kernel_rfl) (by rfl) (LHok_of (l:=[(.loop (loopAt 7 (bodyOf Tryd.f3) .skip),⟨dendronlaw15_PathshapMany_i7,dendronlaw15_PathshapMany_o7,lp dendronlaw15_PathshapMany_s7 K0⟩),(.loop (loopAt 16 (bodyOf Tryd.f3) .skip),⟨dendronlaw15_PathshapMany_i16,dendronlaw15_PathshapMany_o16,lp dendronlaw15_PathshapMany_s16 K0⟩),(.loop (loopAt 24 (bodyOf Tryd.f3) .skip),⟨dendronlaw15_PathshapMany_i24,dendronlaw15_PathshapMany_o24,lp dendronlaw15_PathshapMany_s24 K0⟩)]) (by kernel_rfl) ⟨dendronlaw15_PathshapMany_p7 H,dendronlaw15_PathshapMany_p16 H,dendronlaw15_PathshapMany_p24 H,trivial⟩) (by decide) (fun _=>rfl) (fun x r h=>(dendronlaw15_PathshapMany_eq x.1 x.2.1).trans h)
end Go.Proofs.YthcpiofmhkhbeaaDoor.X
