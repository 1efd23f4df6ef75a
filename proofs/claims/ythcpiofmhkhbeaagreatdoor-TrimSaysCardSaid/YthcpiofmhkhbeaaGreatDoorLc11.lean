/- Own work: part of the proof; the first line of each part says what it tells. -/
import Derived.Test.YthcpiofmhkhbeaaGreatDoorLc10


namespace Go.Proofs.YthcpiofmhkhbeaaGreatDoor.X
open Go
set_option linter.unusedVariables false
set_option linter.unusedSimpArgs false
set_option maxRecDepth 100000
theorem F_in {ps:List (Ty×PM)} {rs:List (Ty×Bool)} {T:Type} {F:HL (fsts ps) → Option T} {enc:T → HL (lents ps)×HL (fsts rs)} {wi:Option Wir} (x:HL (fsts ps)) {r:Option T} (h:F x=r):(Ctr.mk ps rs T F enc wi).F x=r:=h
theorem hm:Tryz.prog.follows .mixedOrders=true:=by kernel_rfl
structure Hands (T:Told):Prop where
 ty:TbOk Tryz.prog tb
 h153:CtrOk T Tryz.prog 153 c153
 h161:CtrOk T Tryz.prog 161 c161
theorem n79 {T:Told} (H:Hands T):EnvOk T Tryz.prog (envL e79):=envL_ok (l:=e79) trivial
theorem ok79 {T:Told} (H:Hands T):CtrOk T Tryz.prog 79 c79 :=
 fn_ok H.ty (n79 H) hm (lh:=dendronlaw07_number_lh) (ct:=c79) (dcd:=fun y=>(y.2.1)) Tryz.func79 (by kernel_rfl) (by rfl) (LHok_of (l:=[]) (by kernel_rfl) trivial) (by decide) (fun _=>rfl) (fun x r h=>(dendronlaw07_number_eq x.1).trans h)
theorem n45 {T:Told} (H:Hands T):EnvOk T Tryz.prog (envL e45):=envL_ok (l:=e45) ⟨ok79 H,trivial⟩
theorem dendronlaw07_Few_p7 {T:Told} (H:Hands T):PieceOk T Tryz.prog 67 (.loop (loopAt 7 (bodyOf Tryz.f45) .skip)) ⟨dendronlaw07_Few_i7,dendronlaw07_Few_o7,lp dendronlaw07_Few_s7 K0⟩ :=
 loop_piece H.ty (n45 H) hm (LHok_of (l:=[]) (by kernel_rfl) trivial) dendronlaw07_Few_l7 K0
theorem dendronlaw07_Few_p3 {T:Told} (H:Hands T):PieceOk T Tryz.prog 67 (.loop (loopAt 3 (bodyOf Tryz.f45) .skip)) ⟨dendronlaw07_Few_i3,dendronlaw07_Few_o3,lp dendronlaw07_Few_s3 K0⟩ :=
 loop_piece H.ty (n45 H) hm (LHok_of (l:=[(.loop (loopAt 7 (bodyOf Tryz.f45) .skip),⟨dendronlaw07_Few_i7,dendronlaw07_Few_o7,lp dendronlaw07_Few_s7 K0⟩)]) (by kernel_rfl) ⟨dendronlaw07_Few_p7 H,trivial⟩) dendronlaw07_Few_l3 K0
theorem ok45 {T:Told} (H:Hands T):CtrOk T Tryz.prog 45 c45 :=
 fn_ok H.ty (n45 H) hm (lh:=dendronlaw07_Few_lh) (ct:=c45) (dcd:=fun y=>(y.2.1)) Tryz.func45 (by kernel_rfl) (by rfl) (LHok_of (l:=[(.loop (loopAt 3 (bodyOf Tryz.f45) .skip),⟨dendronlaw07_Few_i3,dendronlaw07_Few_o3,lp dendronlaw07_Few_s3 K0⟩)]) (by kernel_rfl) ⟨dendronlaw07_Few_p3 H,trivial⟩) (by decide) (fun _=>rfl) (fun x r h=>(dendronlaw07_Few_eq x.1).trans h)
theorem n80 {T:Told} (H:Hands T):EnvOk T Tryz.prog (envL e80):=envL_ok (l:=e80) trivial
theorem ok80 {T:Told} (H:Hands T):CtrOk T Tryz.prog 80 c80 :=
 fn_ok H.ty (n80 H) hm (lh:=dendronlaw09_number_lh) (ct:=c80) (dcd:=fun y=>(y.2.1)) Tryz.func80 (by kernel_rfl) (by rfl) (LHok_of (l:=[]) (by kernel_rfl) trivial) (by decide) (fun _=>rfl) (fun x r h=>(dendronlaw09_number_eq x.1).trans h)
theorem n46 {T:Told} (H:Hands T):EnvOk T Tryz.prog (envL e46):=envL_ok (l:=e46) ⟨ok80 H,trivial⟩
theorem dendronlaw09_Few_p3 {T:Told} (H:Hands T):PieceOk T Tryz.prog 32 (.loop (loopAt 3 (bodyOf Tryz.f46) .skip)) ⟨dendronlaw09_Few_i3,dendronlaw09_Few_o3,lp dendronlaw09_Few_s3 K0⟩ :=
 loop_piece H.ty (n46 H) hm (LHok_of (l:=[]) (by kernel_rfl) trivial) dendronlaw09_Few_l3 K0
theorem ok46 {T:Told} (H:Hands T):CtrOk T Tryz.prog 46 c46 :=
 fn_ok H.ty (n46 H) hm (lh:=dendronlaw09_Few_lh) (ct:=c46) (dcd:=fun y=>(y.2.1)) Tryz.func46 (by kernel_rfl) (by rfl) (LHok_of (l:=[(.loop (loopAt 3 (bodyOf Tryz.f46) .skip),⟨dendronlaw09_Few_i3,dendronlaw09_Few_o3,lp dendronlaw09_Few_s3 K0⟩)]) (by kernel_rfl) ⟨dendronlaw09_Few_p3 H,trivial⟩) (by decide) (fun _=>rfl) (fun x r h=>(dendronlaw09_Few_eq x.1 x.2.1).trans h)
theorem n10 {T:Told} (H:Hands T):EnvOk T Tryz.prog (envL e10):=envL_ok (l:=e10) ⟨ok45 H,ok46 H,trivial⟩
theorem ok10 {T:Told} (H:Hands T):CtrOk T Tryz.prog 10 c10 :=
 fn_ok H.ty (n10 H) hm (lh:=dendronlaw11_Small_lh) (ct:=c10) (dcd:=fun y=>(y.2.1,y.2.2.1)) Tryz.func10 (by kernel_rfl) (by rfl) (LHok_of (l:=[]) (by kernel_rfl) trivial) (by decide) (fun _=>rfl) (fun x r h=>(dendronlaw11_Small_eq x.1 x.2.1).trans h)
theorem n98 {T:Told} (H:Hands T):EnvOk T Tryz.prog (envL e98):=envL_ok (l:=e98) trivial
theorem model_Fits_p9 {T:Told} (H:Hands T):PieceOk T Tryz.prog 72 (.loop (loopAt 9 (bodyOf Tryz.f98) .skip)) ⟨model_Fits_i9,model_Fits_o9,lp model_Fits_s9 K0⟩ :=
 loop_piece H.ty (n98 H) hm (LHok_of (l:=[]) (by kernel_rfl) trivial) model_Fits_l9 K0
theorem model_Fits_p4 {T:Told} (H:Hands T):PieceOk T Tryz.prog 72 (.loop (loopAt 4 (bodyOf Tryz.f98) .skip)) ⟨model_Fits_i4,model_Fits_o4,lp model_Fits_s4 K0⟩ :=
 loop_piece H.ty (n98 H) hm (LHok_of (l:=[(.loop (loopAt 9 (bodyOf Tryz.f98) .skip),⟨model_Fits_i9,model_Fits_o9,lp model_Fits_s9 K0⟩)]) (by kernel_rfl) ⟨model_Fits_p9 H,trivial⟩) model_Fits_l4 K0
theorem ok98 {T:Told} (H:Hands T):CtrOk T Tryz.prog 98 c98 :=
 fn_ok H.ty (n98 H) hm (lh:=model_Fits_lh) (ct:=c98) (dcd:=fun y=>(y.2.1)) Tryz.func98 (by kernel_rfl) (by rfl) (LHok_of (l:=[(.loop (loopAt 4 (bodyOf Tryz.f98) .skip),⟨model_Fits_i4,model_Fits_o4,lp model_Fits_s4 K0⟩)]) (by kernel_rfl) ⟨model_Fits_p4 H,trivial⟩) (by decide) (fun _=>rfl) (fun x r h=>(model_Fits_eq x.1).trans h)
theorem n99 {T:Told} (H:Hands T):EnvOk T Tryz.prog (envL e99):=envL_ok (l:=e99) trivial
theorem valid_ranges_p2 {T:Told} (H:Hands T):PieceOk T Tryz.prog 52 (.loop (loopAt 2 (bodyOf Tryz.f99) .skip)) ⟨valid_ranges_i2,valid_ranges_o2,lp valid_ranges_s2 K0⟩ :=
 loop_piece H.ty (n99 H) hm (LHok_of (l:=[]) (by kernel_rfl) trivial) valid_ranges_l2 K0
theorem ok99 {T:Told} (H:Hands T):CtrOk T Tryz.prog 99 c99 :=
 fn_ok H.ty (n99 H) hm (lh:=valid_ranges_lh) (ct:=c99) (dcd:=fun y=>(y.2.1,y.2.2.1)) Tryz.func99 (by kernel_rfl) (by rfl) (LHok_of (l:=[(.loop (loopAt 2 (bodyOf Tryz.f99) .skip),⟨valid_ranges_i2,valid_ranges_o2,lp valid_ranges_s2 K0⟩)]) (by kernel_rfl) ⟨valid_ranges_p2 H,trivial⟩) (by decide) (fun _=>rfl) (fun x r h=>(valid_ranges_eq x.1 x.2.1).trans h)
theorem n100 {T:Told} (H:Hands T):EnvOk T Tryz.prog (envL e100):=envL_ok (l:=e100) trivial
theorem valid_shape_p3 {T:Told} (H:Hands T):PieceOk T Tryz.prog 103 (.loop (loopAt 3 (bodyOf Tryz.f100) .skip)) ⟨valid_shape_i3,valid_shape_o3,lp valid_shape_s3 K0⟩ :=
 loop_piece H.ty (n100 H) hm (LHok_of (l:=[]) (by kernel_rfl) trivial) valid_shape_l3 K0
theorem valid_shape_p10 {T:Told} (H:Hands T):PieceOk T Tryz.prog 103 (.loop (loopAt 10 (bodyOf Tryz.f100) .skip)) ⟨valid_shape_i10,valid_shape_o10,lp valid_shape_s10 K0⟩ :=
 loop_piece H.ty (n100 H) hm (LHok_of (l:=[]) (by kernel_rfl) trivial) valid_shape_l10 K0
theorem valid_shape_p17 {T:Told} (H:Hands T):PieceOk T Tryz.prog 103 (.loop (loopAt 17 (bodyOf Tryz.f100) .skip)) ⟨valid_shape_i17,valid_shape_o17,lp valid_shape_s17 K0⟩ :=
 loop_piece H.ty (n100 H) hm (LHok_of (l:=[]) (by kernel_rfl) trivial) valid_shape_l17 K0
theorem valid_shape_p25 {T:Told} (H:Hands T):PieceOk T Tryz.prog 103 (.loop (loopAt 25 (bodyOf Tryz.f100) .skip)) ⟨valid_shape_i25,valid_shape_o25,lp valid_shape_s25 K0⟩ :=
 loop_piece H.ty (n100 H) hm (LHok_of (l:=[]) (by kernel_rfl) trivial) valid_shape_l25 K0
theorem ok100 {T:Told} (H:Hands T):CtrOk T Tryz.prog 100 c100 :=
 fn_ok H.ty (n100 H) hm (lh:=valid_shape_lh) (ct:=c100) (dcd:=fun y=>(y.2.1,y.2.2.1)) Tryz.func100 (by kernel_rfl) (by rfl) (LHok_of (l:=[(.loop (loopAt 3 (bodyOf Tryz.f100) .skip),⟨valid_shape_i3,valid_shape_o3,lp valid_shape_s3 K0⟩),(.loop (loopAt 10 (bodyOf Tryz.f100) .skip),⟨valid_shape_i10,valid_shape_o10,lp valid_shape_s10 K0⟩),(.loop (loopAt 17 (bodyOf Tryz.f100) .skip),⟨valid_shape_i17,valid_shape_o17,lp valid_shape_s17 K0⟩),(.loop (loopAt 25 (bodyOf Tryz.f100) .skip),⟨valid_shape_i25,valid_shape_o25,lp valid_shape_s25 K0⟩)]) (by kernel_rfl) ⟨valid_shape_p3 H,valid_shape_p10 H,valid_shape_p17 H,valid_shape_p25 H,trivial⟩) (by decide) (fun _=>rfl) (fun x r h=>(valid_shape_eq x.1).trans h)
theorem n91 {T:Told} (H:Hands T):EnvOk T Tryz.prog (envL e91):=envL_ok (l:=e91) trivial
theorem nat_trim_p2 {T:Told} (H:Hands T):PieceOk T Tryz.prog 23 (.loop (loopAt 2 (bodyOf Tryz.f91) .skip)) ⟨nat_trim_i2,nat_trim_o2,lp nat_trim_s2 K0⟩ :=
 loop_piece H.ty (n91 H) hm (LHok_of (l:=[]) (by kernel_rfl) trivial) nat_trim_l2 K0
theorem ok91 {T:Told} (H:Hands T):CtrOk T Tryz.prog 91 c91 :=
 fn_ok H.ty (n91 H) hm (lh:=nat_trim_lh) (ct:=c91) (dcd:=fun y=>(y.2.1)) Tryz.func91 (by kernel_rfl) (by rfl) (LHok_of (l:=[(.loop (loopAt 2 (bodyOf Tryz.f91) .skip),⟨nat_trim_i2,nat_trim_o2,lp nat_trim_s2 K0⟩)]) (by kernel_rfl) ⟨nat_trim_p2 H,trivial⟩) (by decide) (fun _=>rfl) (fun x r h=>(nat_trim_eq x.1).trans h)
theorem n58 {T:Told} (H:Hands T):EnvOk T Tryz.prog (envL e58):=envL_ok (l:=e58) ⟨ok91 H,trivial⟩
theorem ok58 {T:Told} (H:Hands T):CtrOk T Tryz.prog 58 c58 :=
 fn_ok H.ty (n58 H) hm (lh:=nat_Of_lh) (ct:=c58) (dcd:=fun y=>(y.2.1)) Tryz.func58 (by kernel_rfl) (by rfl) (LHok_of (l:=[]) (by kernel_rfl) trivial) (by decide) (fun _=>rfl) (fun x r h=>(nat_Of_eq x.1).trans h)
theorem n21 {T:Told} (H:Hands T):EnvOk T Tryz.prog (envL e21):=envL_ok (l:=e21) ⟨ok58 H,trivial⟩
theorem ok21 {T:Told} (H:Hands T):CtrOk T Tryz.prog 21 c21 :=
 fn_ok H.ty (n21 H) hm (lh:=ratio_Zero_lh) (ct:=c21) (dcd:=fun y=>(y.2.1)) Tryz.func21 (by kernel_rfl) (by rfl) (LHok_of (l:=[]) (by kernel_rfl) trivial) (by decide) (fun _=>rfl) (fun x r h=>(ratio_Zero_eq ).trans h)
theorem n83 {T:Told} (H:Hands T):EnvOk T Tryz.prog (envL e83):=envL_ok (l:=e83) ⟨ok91 H,trivial⟩
theorem nat_Clean_p3 {T:Told} (H:Hands T):PieceOk T Tryz.prog 24 (.loop (loopAt 3 (bodyOf Tryz.f83) .skip)) ⟨nat_Clean_i3,nat_Clean_o3,lp nat_Clean_s3 K0⟩ :=
 loop_piece H.ty (n83 H) hm (LHok_of (l:=[]) (by kernel_rfl) trivial) nat_Clean_l3 K0
theorem ok83 {T:Told} (H:Hands T):CtrOk T Tryz.prog 83 c83 :=
 fn_ok H.ty (n83 H) hm (lh:=nat_Clean_lh) (ct:=c83) (dcd:=fun y=>(y.2.1)) Tryz.func83 (by kernel_rfl) (by rfl) (LHok_of (l:=[(.loop (loopAt 3 (bodyOf Tryz.f83) .skip),⟨nat_Clean_i3,nat_Clean_o3,lp nat_Clean_s3 K0⟩)]) (by kernel_rfl) ⟨nat_Clean_p3 H,trivial⟩) (by decide) (fun _=>rfl) (fun x r h=>(nat_Clean_eq x.1).trans h)
theorem n152 {T:Told} (H:Hands T):EnvOk T Tryz.prog (envL e152):=envL_ok (l:=e152) ⟨ok83 H,trivial⟩
theorem ok152 {T:Told} (H:Hands T):CtrOk T Tryz.prog 152 c152 :=
 fn_ok H.ty (n152 H) hm (lh:=nat_To_lh) (ct:=c152) (dcd:=fun y=>(y.2.1,y.2.2.1)) Tryz.func152 (by kernel_rfl) (by rfl) (LHok_of (l:=[]) (by kernel_rfl) trivial) (by decide) (fun _=>rfl) (fun x r h=>(nat_To_eq x.1).trans h)
theorem n120 {T:Told} (H:Hands T):EnvOk T Tryz.prog (envL e120):=envL_ok (l:=e120) ⟨ok58 H,ok152 H,trivial⟩
theorem nat_euclid_p3 {T:Told} (H:Hands T):PieceOk T Tryz.prog 27 (.loop (loopAt 3 (bodyOf Tryz.f120) .skip)) ⟨nat_euclid_i3,nat_euclid_o3,lp nat_euclid_s3 K0⟩ :=
 loop_piece H.ty (n120 H) hm (LHok_of (l:=[]) (by kernel_rfl) trivial) nat_euclid_l3 K0
theorem ok120 {T:Told} (H:Hands T):CtrOk T Tryz.prog 120 c120 :=
 fn_ok H.ty (n120 H) hm (lh:=nat_euclid_lh) (ct:=c120) (dcd:=fun y=>(y.2.1)) Tryz.func120 (by kernel_rfl) (by rfl) (LHok_of (l:=[(.loop (loopAt 3 (bodyOf Tryz.f120) .skip),⟨nat_euclid_i3,nat_euclid_o3,lp nat_euclid_s3 K0⟩)]) (by kernel_rfl) ⟨nat_euclid_p3 H,trivial⟩) (by decide) (fun _=>rfl) (fun x r h=>(nat_euclid_eq x.1 x.2.1).trans h)
theorem n121 {T:Told} (H:Hands T):EnvOk T Tryz.prog (envL e121):=envL_ok (l:=e121) ⟨H.h153,trivial⟩
theorem nat_zeros_p3 {T:Told} (H:Hands T):PieceOk T Tryz.prog 24 (.loop (loopAt 3 (bodyOf Tryz.f121) .skip)) ⟨nat_zeros_i3,nat_zeros_o3,lp nat_zeros_s3 K0⟩ :=
 loop_piece H.ty (n121 H) hm (LHok_of (l:=[]) (by kernel_rfl) trivial) nat_zeros_l3 K0
theorem ok121 {T:Told} (H:Hands T):CtrOk T Tryz.prog 121 c121 :=
 fn_ok H.ty (n121 H) hm (lh:=nat_zeros_lh) (ct:=c121) (dcd:=fun y=>(y.2.1)) Tryz.func121 (by kernel_rfl) (by rfl) (LHok_of (l:=[(.loop (loopAt 3 (bodyOf Tryz.f121) .skip),⟨nat_zeros_i3,nat_zeros_o3,lp nat_zeros_s3 K0⟩)]) (by kernel_rfl) ⟨nat_zeros_p3 H,trivial⟩) (by decide) (fun _=>rfl) (fun x r h=>(nat_zeros_eq x.1).trans h)
theorem n129 {T:Told} (H:Hands T):EnvOk T Tryz.prog (envL e129):=envL_ok (l:=e129) trivial
theorem ok129 {T:Told} (H:Hands T):CtrOk T Tryz.prog 129 c129 :=
 fn_ok H.ty (n129 H) hm (lh:=nat_limb_lh) (ct:=c129) (dcd:=fun y=>(y.2.1)) Tryz.func129 (by kernel_rfl) (by rfl) (LHok_of (l:=[]) (by kernel_rfl) trivial) (by decide) (fun _=>rfl) (fun x r h=>(nat_limb_eq x.1 x.2.1).trans h)
theorem n122 {T:Told} (H:Hands T):EnvOk T Tryz.prog (envL e122):=envL_ok (l:=e122) ⟨ok91 H,ok129 H,trivial⟩
theorem nat_shr_p6 {T:Told} (H:Hands T):PieceOk T Tryz.prog 50 (.loop (loopAt 6 (bodyOf Tryz.f122) .skip)) ⟨nat_shr_i6,nat_shr_o6,lp nat_shr_s6 K0⟩ :=
 loop_piece H.ty (n122 H) hm (LHok_of (l:=[]) (by kernel_rfl) trivial) nat_shr_l6 K0
theorem ok122 {T:Told} (H:Hands T):CtrOk T Tryz.prog 122 c122 :=
 fn_ok H.ty (n122 H) hm (lh:=nat_shr_lh) (ct:=c122) (dcd:=fun y=>(y.2.1)) Tryz.func122 (by kernel_rfl) (by rfl) (LHok_of (l:=[(.loop (loopAt 6 (bodyOf Tryz.f122) .skip),⟨nat_shr_i6,nat_shr_o6,lp nat_shr_s6 K0⟩)]) (by kernel_rfl) ⟨nat_shr_p6 H,trivial⟩) (by decide) (fun _=>rfl) (fun x r h=>(nat_shr_eq x.1 x.2.1).trans h)
theorem n123 {T:Told} (H:Hands T):EnvOk T Tryz.prog (envL e123):=envL_ok (l:=e123) trivial
theorem nat_order_p6 {T:Told} (H:Hands T):PieceOk T Tryz.prog 45 (.loop (loopAt 6 (bodyOf Tryz.f123) .skip)) ⟨nat_order_i6,nat_order_o6,lp nat_order_s6 K0⟩ :=
 loop_piece H.ty (n123 H) hm (LHok_of (l:=[]) (by kernel_rfl) trivial) nat_order_l6 K0
theorem ok123 {T:Told} (H:Hands T):CtrOk T Tryz.prog 123 c123 :=
 fn_ok H.ty (n123 H) hm (lh:=nat_order_lh) (ct:=c123) (dcd:=fun y=>(y.2.1)) Tryz.func123 (by kernel_rfl) (by rfl) (LHok_of (l:=[(.loop (loopAt 6 (bodyOf Tryz.f123) .skip),⟨nat_order_i6,nat_order_o6,lp nat_order_s6 K0⟩)]) (by kernel_rfl) ⟨nat_order_p6 H,trivial⟩) (by decide) (fun _=>rfl) (fun x r h=>(nat_order_eq x.1 x.2.1).trans h)
theorem n124 {T:Told} (H:Hands T):EnvOk T Tryz.prog (envL e124):=envL_ok (l:=e124) ⟨ok91 H,trivial⟩
theorem nat_shl_p4 {T:Told} (H:Hands T):PieceOk T Tryz.prog 51 (.loop (loopAt 4 (bodyOf Tryz.f124) .skip)) ⟨nat_shl_i4,nat_shl_o4,lp nat_shl_s4 K0⟩ :=
 loop_piece H.ty (n124 H) hm (LHok_of (l:=[]) (by kernel_rfl) trivial) nat_shl_l4 K0
theorem ok124 {T:Told} (H:Hands T):CtrOk T Tryz.prog 124 c124 :=
 fn_ok H.ty (n124 H) hm (lh:=nat_shl_lh) (ct:=c124) (dcd:=fun y=>(y.2.1)) Tryz.func124 (by kernel_rfl) (by rfl) (LHok_of (l:=[(.loop (loopAt 4 (bodyOf Tryz.f124) .skip),⟨nat_shl_i4,nat_shl_o4,lp nat_shl_s4 K0⟩)]) (by kernel_rfl) ⟨nat_shl_p4 H,trivial⟩) (by decide) (fun _=>rfl) (fun x r h=>(nat_shl_eq x.1 x.2.1).trans h)
theorem n127 {T:Told} (H:Hands T):EnvOk T Tryz.prog (envL e127):=envL_ok (l:=e127) ⟨ok91 H,trivial⟩
theorem nat_small_p4 {T:Told} (H:Hands T):PieceOk T Tryz.prog 38 (.loop (loopAt 4 (bodyOf Tryz.f127) .skip)) ⟨nat_small_i4,nat_small_o4,lp nat_small_s4 K0⟩ :=
 loop_piece H.ty (n127 H) hm (LHok_of (l:=[]) (by kernel_rfl) trivial) nat_small_l4 K0
theorem ok127 {T:Told} (H:Hands T):CtrOk T Tryz.prog 127 c127 :=
 fn_ok H.ty (n127 H) hm (lh:=nat_small_lh) (ct:=c127) (dcd:=fun y=>(y.2.1,y.2.2.1)) Tryz.func127 (by kernel_rfl) (by rfl) (LHok_of (l:=[(.loop (loopAt 4 (bodyOf Tryz.f127) .skip),⟨nat_small_i4,nat_small_o4,lp nat_small_s4 K0⟩)]) (by kernel_rfl) ⟨nat_small_p4 H,trivial⟩) (by decide) (fun _=>rfl) (fun x r h=>(nat_small_eq x.1 x.2.1).trans h)
theorem n154 {T:Told} (H:Hands T):EnvOk T Tryz.prog (envL e154):=envL_ok (l:=e154) ⟨H.h161,trivial⟩
theorem ok154 {T:Told} (H:Hands T):CtrOk T Tryz.prog 154 c154 :=
 fn_ok H.ty (n154 H) hm (lh:=bits_LeadingZeros32_lh) (ct:=c154) (dcd:=fun y=>(y.2.1)) Tryz.func154 (by kernel_rfl) (by rfl) (LHok_of (l:=[]) (by kernel_rfl) trivial) (by decide) (fun _=>rfl) (fun x r h=>(bits_LeadingZeros32_eq x.1).trans h)
theorem n162 {T:Told} (H:Hands T):EnvOk T Tryz.prog (envL e162):=envL_ok (l:=e162) ⟨ok129 H,trivial⟩
theorem nat_take_p3 {T:Told} (H:Hands T):PieceOk T Tryz.prog 46 (.loop (loopAt 3 (bodyOf Tryz.f162) .skip)) ⟨nat_take_i3,nat_take_o3,lp nat_take_s3 K0⟩ :=
 loop_piece H.ty (n162 H) hm (LHok_of (l:=[]) (by kernel_rfl) trivial) nat_take_l3 K0
theorem ok162 {T:Told} (H:Hands T):CtrOk T Tryz.prog 162 c162 :=
 fn_ok H.ty (n162 H) hm (lh:=nat_take_lh) (ct:=c162) (dcd:=fun y=>(y.1.1,y.2.1)) Tryz.func162 (by kernel_rfl) (by rfl) (LHok_of (l:=[(.loop (loopAt 3 (bodyOf Tryz.f162) .skip),⟨nat_take_i3,nat_take_o3,lp nat_take_s3 K0⟩)]) (by kernel_rfl) ⟨nat_take_p3 H,trivial⟩) (by decide) (fun _=>rfl) (fun x r h=>(nat_take_eq x.1 x.2.1 x.2.2.1).trans h)
theorem n163 {T:Told} (H:Hands T):EnvOk T Tryz.prog (envL e163):=envL_ok (l:=e163) ⟨ok129 H,trivial⟩
theorem nat_give_p2 {T:Told} (H:Hands T):PieceOk T Tryz.prog 29 (.loop (loopAt 2 (bodyOf Tryz.f163) .skip)) ⟨nat_give_i2,nat_give_o2,lp nat_give_s2 K0⟩ :=
 loop_piece H.ty (n163 H) hm (LHok_of (l:=[]) (by kernel_rfl) trivial) nat_give_l2 K0
theorem ok163 {T:Told} (H:Hands T):CtrOk T Tryz.prog 163 c163 :=
 fn_ok H.ty (n163 H) hm (lh:=nat_give_lh) (ct:=c163) (dcd:=fun y=>(y.1.1)) Tryz.func163 (by kernel_rfl) (by rfl) (LHok_of (l:=[(.loop (loopAt 2 (bodyOf Tryz.f163) .skip),⟨nat_give_i2,nat_give_o2,lp nat_give_s2 K0⟩)]) (by kernel_rfl) ⟨nat_give_p2 H,trivial⟩) (by decide) (fun _=>rfl) (fun x r h=>(nat_give_eq x.1 x.2.1).trans h)
theorem n155 {T:Told} (H:Hands T):EnvOk T Tryz.prog (envL e155):=envL_ok (l:=e155) ⟨ok162 H,ok163 H,trivial⟩
theorem nat_digit_p4 {T:Told} (H:Hands T):PieceOk T Tryz.prog 77 (.loop (loopAt 4 (bodyOf Tryz.f155) .skip)) ⟨nat_digit_i4,nat_digit_o4,lp nat_digit_s4 K0⟩ :=
 loop_piece H.ty (n155 H) hm (LHok_of (l:=[]) (by kernel_rfl) trivial) nat_digit_l4 K0
theorem ok155 {T:Told} (H:Hands T):CtrOk T Tryz.prog 155 c155 :=
 fn_ok H.ty (n155 H) hm (lh:=nat_digit_lh) (ct:=c155) (dcd:=fun y=>(y.1.1,y.2.1)) Tryz.func155 (by kernel_rfl) (by rfl) (LHok_of (l:=[(.loop (loopAt 4 (bodyOf Tryz.f155) .skip),⟨nat_digit_i4,nat_digit_o4,lp nat_digit_s4 K0⟩)]) (by kernel_rfl) ⟨nat_digit_p4 H,trivial⟩) (by decide) (fun _=>rfl) (fun x r h=>(nat_digit_eq x.1 x.2.1).trans h)
theorem n128 {T:Told} (H:Hands T):EnvOk T Tryz.prog (envL e128):=envL_ok (l:=e128) ⟨ok91 H,ok122 H,ok124 H,ok154 H,ok155 H,trivial⟩
theorem nat_long_p7 {T:Told} (H:Hands T):PieceOk T Tryz.prog 64 (.loop (loopAt 7 (bodyOf Tryz.f128) .skip)) ⟨nat_long_i7,nat_long_o7,lp nat_long_s7 K0⟩ :=
 loop_piece H.ty (n128 H) hm (LHok_of (l:=[]) (by kernel_rfl) trivial) nat_long_l7 K0
theorem ok128 {T:Told} (H:Hands T):CtrOk T Tryz.prog 128 c128 :=
 fn_ok H.ty (n128 H) hm (lh:=nat_long_lh) (ct:=c128) (dcd:=fun y=>(y.2.1,y.2.2.1)) Tryz.func128 (by kernel_rfl) (by rfl) (LHok_of (l:=[(.loop (loopAt 7 (bodyOf Tryz.f128) .skip),⟨nat_long_i7,nat_long_o7,lp nat_long_s7 K0⟩)]) (by kernel_rfl) ⟨nat_long_p7 H,trivial⟩) (by decide) (fun _=>rfl) (fun x r h=>(nat_long_eq x.1 x.2.1).trans h)
theorem n86 {T:Told} (H:Hands T):EnvOk T Tryz.prog (envL e86):=envL_ok (l:=e86) ⟨ok58 H,ok83 H,ok123 H,ok127 H,ok128 H,trivial⟩
theorem ok86 {T:Told} (H:Hands T):CtrOk T Tryz.prog 86 c86 :=
 fn_ok H.ty (n86 H) hm (lh:=nat_DivMod_lh) (ct:=c86) (dcd:=fun y=>(y.2.1,y.2.2.1,y.2.2.2.1)) Tryz.func86 (by kernel_rfl) (by rfl) (LHok_of (l:=[]) (by kernel_rfl) trivial) (by decide) (fun _=>rfl) (fun x r h=>(nat_DivMod_eq x.1 x.2.1).trans h)
theorem n125 {T:Told} (H:Hands T):EnvOk T Tryz.prog (envL e125):=envL_ok (l:=e125) ⟨ok86 H,trivial⟩
theorem ok125 {T:Told} (H:Hands T):CtrOk T Tryz.prog 125 c125 :=
 fn_ok H.ty (n125 H) hm (lh:=nat_rest_lh) (ct:=c125) (dcd:=fun y=>(y.2.1,y.2.2.1)) Tryz.func125 (by kernel_rfl) (by rfl) (LHok_of (l:=[]) (by kernel_rfl) trivial) (by decide) (fun _=>rfl) (fun x r h=>(nat_rest_eq x.1 x.2.1).trans h)
theorem n126 {T:Told} (H:Hands T):EnvOk T Tryz.prog (envL e126):=envL_ok (l:=e126) ⟨ok91 H,ok129 H,trivial⟩
theorem nat_minus_p4 {T:Told} (H:Hands T):PieceOk T Tryz.prog 39 (.loop (loopAt 4 (bodyOf Tryz.f126) .skip)) ⟨nat_minus_i4,nat_minus_o4,lp nat_minus_s4 K0⟩ :=
 loop_piece H.ty (n126 H) hm (LHok_of (l:=[]) (by kernel_rfl) trivial) nat_minus_l4 K0
theorem ok126 {T:Told} (H:Hands T):CtrOk T Tryz.prog 126 c126 :=
 fn_ok H.ty (n126 H) hm (lh:=nat_minus_lh) (ct:=c126) (dcd:=fun y=>(y.2.1)) Tryz.func126 (by kernel_rfl) (by rfl) (LHok_of (l:=[(.loop (loopAt 4 (bodyOf Tryz.f126) .skip),⟨nat_minus_i4,nat_minus_o4,lp nat_minus_s4 K0⟩)]) (by kernel_rfl) ⟨nat_minus_p4 H,trivial⟩) (by decide) (fun _=>rfl) (fun x r h=>(nat_minus_eq x.1 x.2.1).trans h)
theorem n85 {T:Told} (H:Hands T):EnvOk T Tryz.prog (envL e85):=envL_ok (l:=e85) ⟨ok83 H,ok120 H,ok121 H,ok122 H,ok123 H,ok124 H,ok125 H,ok126 H,trivial⟩
theorem nat_Gcd_p10 {T:Told} (H:Hands T):PieceOk T Tryz.prog 86 (.loop (loopAt 10 (bodyOf Tryz.f85) .skip)) ⟨nat_Gcd_i10,nat_Gcd_o10,lp nat_Gcd_s10 K0⟩ :=
 loop_piece H.ty (n85 H) hm (LHok_of (l:=[]) (by kernel_rfl) trivial) nat_Gcd_l10 K0
theorem ok85 {T:Told} (H:Hands T):CtrOk T Tryz.prog 85 c85 :=
 fn_ok H.ty (n85 H) hm (lh:=nat_Gcd_lh) (ct:=c85) (dcd:=fun y=>(y.2.1)) Tryz.func85 (by kernel_rfl) (by rfl) (LHok_of (l:=[(.loop (loopAt 10 (bodyOf Tryz.f85) .skip),⟨nat_Gcd_i10,nat_Gcd_o10,lp nat_Gcd_s10 K0⟩)]) (by kernel_rfl) ⟨nat_Gcd_p10 H,trivial⟩) (by decide) (fun _=>rfl) (fun x r h=>(nat_Gcd_eq x.1 x.2.1).trans h)
theorem n50 {T:Told} (H:Hands T):EnvOk T Tryz.prog (envL e50):=envL_ok (l:=e50) ⟨ok58 H,ok85 H,ok86 H,trivial⟩
theorem ok50 {T:Told} (H:Hands T):CtrOk T Tryz.prog 50 c50 :=
 fn_ok H.ty (n50 H) hm (lh:=ratio_form_lh) (ct:=c50) (dcd:=fun y=>(y.2.1)) Tryz.func50 (by kernel_rfl) (by rfl) (LHok_of (l:=[]) (by kernel_rfl) trivial) (by decide) (fun _=>rfl) (fun x r h=>(ratio_form_eq x.1 x.2.1).trans h)
theorem n87 {T:Told} (H:Hands T):EnvOk T Tryz.prog (envL e87):=envL_ok (l:=e87) trivial
theorem ok87 {T:Told} (H:Hands T):CtrOk T Tryz.prog 87 c87 :=
 fn_ok H.ty (n87 H) hm (lh:=whole_sign_lh) (ct:=c87) (dcd:=fun y=>(y.2.1)) Tryz.func87 (by kernel_rfl) (by rfl) (LHok_of (l:=[]) (by kernel_rfl) trivial) (by decide) (fun _=>rfl) (fun x r h=>(whole_sign_eq x.1 x.2.1).trans h)
theorem n84 {T:Told} (H:Hands T):EnvOk T Tryz.prog (envL e84):=envL_ok (l:=e84) ⟨ok83 H,ok87 H,trivial⟩
theorem ok84 {T:Told} (H:Hands T):CtrOk T Tryz.prog 84 c84 :=
 fn_ok H.ty (n84 H) hm (lh:=whole_Clean_lh) (ct:=c84) (dcd:=fun y=>(y.2.1)) Tryz.func84 (by kernel_rfl) (by rfl) (LHok_of (l:=[]) (by kernel_rfl) trivial) (by decide) (fun _=>rfl) (fun x r h=>(whole_Clean_eq x.1).trans h)
theorem n49 {T:Told} (H:Hands T):EnvOk T Tryz.prog (envL e49):=envL_ok (l:=e49) ⟨ok21 H,ok50 H,ok83 H,ok84 H,trivial⟩
theorem ok49 {T:Told} (H:Hands T):CtrOk T Tryz.prog 49 c49 :=
 fn_ok H.ty (n49 H) hm (lh:=ratio_Clean_lh) (ct:=c49) (dcd:=fun y=>(y.2.1)) Tryz.func49 (by kernel_rfl) (by rfl) (LHok_of (l:=[]) (by kernel_rfl) trivial) (by decide) (fun _=>rfl) (fun x r h=>(ratio_Clean_eq x.1).trans h)
theorem n92 {T:Told} (H:Hands T):EnvOk T Tryz.prog (envL e92):=envL_ok (l:=e92) ⟨ok84 H,trivial⟩
theorem ok92 {T:Told} (H:Hands T):CtrOk T Tryz.prog 92 c92 :=
 fn_ok H.ty (n92 H) hm (lh:=whole_Sign_lh) (ct:=c92) (dcd:=fun y=>(y.2.1)) Tryz.func92 (by kernel_rfl) (by rfl) (LHok_of (l:=[]) (by kernel_rfl) trivial) (by decide) (fun _=>rfl) (fun x r h=>(whole_Sign_eq x.1).trans h)
theorem n130 {T:Told} (H:Hands T):EnvOk T Tryz.prog (envL e130):=envL_ok (l:=e130) ⟨ok49 H,ok92 H,trivial⟩
theorem ok130 {T:Told} (H:Hands T):CtrOk T Tryz.prog 130 c130 :=
 fn_ok H.ty (n130 H) hm (lh:=ratio_Sign_lh) (ct:=c130) (dcd:=fun y=>(y.2.1)) Tryz.func130 (by kernel_rfl) (by rfl) (LHok_of (l:=[]) (by kernel_rfl) trivial) (by decide) (fun _=>rfl) (fun x r h=>(ratio_Sign_eq x.1).trans h)
theorem n101 {T:Told} (H:Hands T):EnvOk T Tryz.prog (envL e101):=envL_ok (l:=e101) ⟨ok130 H,trivial⟩
theorem valid_covers_p2 {T:Told} (H:Hands T):PieceOk T Tryz.prog 19 (.loop (loopAt 2 (bodyOf Tryz.f101) .skip)) ⟨valid_covers_i2,valid_covers_o2,lp valid_covers_s2 K0⟩ :=
 loop_piece H.ty (n101 H) hm (LHok_of (l:=[]) (by kernel_rfl) trivial) valid_covers_l2 K0
theorem ok101 {T:Told} (H:Hands T):CtrOk T Tryz.prog 101 c101 :=
 fn_ok H.ty (n101 H) hm (lh:=valid_covers_lh) (ct:=c101) (dcd:=fun y=>(y.2.1,y.2.2.1)) Tryz.func101 (by kernel_rfl) (by rfl) (LHok_of (l:=[(.loop (loopAt 2 (bodyOf Tryz.f101) .skip),⟨valid_covers_i2,valid_covers_o2,lp valid_covers_s2 K0⟩)]) (by kernel_rfl) ⟨valid_covers_p2 H,trivial⟩) (by decide) (fun _=>rfl) (fun x r h=>(valid_covers_eq x.1).trans h)
theorem n88 {T:Told} (H:Hands T):EnvOk T Tryz.prog (envL e88):=envL_ok (l:=e88) ⟨ok83 H,ok91 H,ok129 H,trivial⟩
theorem nat_Add_p5 {T:Told} (H:Hands T):PieceOk T Tryz.prog 43 (.loop (loopAt 5 (bodyOf Tryz.f88) .skip)) ⟨nat_Add_i5,nat_Add_o5,lp nat_Add_s5 K0⟩ :=
 loop_piece H.ty (n88 H) hm (LHok_of (l:=[]) (by kernel_rfl) trivial) nat_Add_l5 K0
theorem ok88 {T:Told} (H:Hands T):CtrOk T Tryz.prog 88 c88 :=
 fn_ok H.ty (n88 H) hm (lh:=nat_Add_lh) (ct:=c88) (dcd:=fun y=>(y.2.1)) Tryz.func88 (by kernel_rfl) (by rfl) (LHok_of (l:=[(.loop (loopAt 5 (bodyOf Tryz.f88) .skip),⟨nat_Add_i5,nat_Add_o5,lp nat_Add_s5 K0⟩)]) (by kernel_rfl) ⟨nat_Add_p5 H,trivial⟩) (by decide) (fun _=>rfl) (fun x r h=>(nat_Add_eq x.1 x.2.1).trans h)
theorem n89 {T:Told} (H:Hands T):EnvOk T Tryz.prog (envL e89):=envL_ok (l:=e89) ⟨ok83 H,ok123 H,trivial⟩
theorem ok89 {T:Told} (H:Hands T):CtrOk T Tryz.prog 89 c89 :=
 fn_ok H.ty (n89 H) hm (lh:=nat_Cmp_lh) (ct:=c89) (dcd:=fun y=>(y.2.1)) Tryz.func89 (by kernel_rfl) (by rfl) (LHok_of (l:=[]) (by kernel_rfl) trivial) (by decide) (fun _=>rfl) (fun x r h=>(nat_Cmp_eq x.1 x.2.1).trans h)
theorem n90 {T:Told} (H:Hands T):EnvOk T Tryz.prog (envL e90):=envL_ok (l:=e90) ⟨ok83 H,ok123 H,ok126 H,trivial⟩
theorem ok90 {T:Told} (H:Hands T):CtrOk T Tryz.prog 90 c90 :=
 fn_ok H.ty (n90 H) hm (lh:=nat_Sub_lh) (ct:=c90) (dcd:=fun y=>(y.2.1,y.2.2.1)) Tryz.func90 (by kernel_rfl) (by rfl) (LHok_of (l:=[]) (by kernel_rfl) trivial) (by decide) (fun _=>rfl) (fun x r h=>(nat_Sub_eq x.1 x.2.1).trans h)
theorem n51 {T:Told} (H:Hands T):EnvOk T Tryz.prog (envL e51):=envL_ok (l:=e51) ⟨ok84 H,ok87 H,ok88 H,ok89 H,ok90 H,trivial⟩
theorem ok51 {T:Told} (H:Hands T):CtrOk T Tryz.prog 51 c51 :=
 fn_ok H.ty (n51 H) hm (lh:=whole_Add_lh) (ct:=c51) (dcd:=fun y=>(y.2.1)) Tryz.func51 (by kernel_rfl) (by rfl) (LHok_of (l:=[]) (by kernel_rfl) trivial) (by decide) (fun _=>rfl) (fun x r h=>(whole_Add_eq x.1 x.2.1).trans h)
theorem n54 {T:Told} (H:Hands T):EnvOk T Tryz.prog (envL e54):=envL_ok (l:=e54) ⟨ok83 H,ok91 H,trivial⟩
theorem nat_Mul_p8 {T:Told} (H:Hands T):PieceOk T Tryz.prog 67 (.loop (loopAt 8 (bodyOf Tryz.f54) .skip)) ⟨nat_Mul_i8,nat_Mul_o8,lp nat_Mul_s8 K0⟩ :=
 loop_piece H.ty (n54 H) hm (LHok_of (l:=[]) (by kernel_rfl) trivial) nat_Mul_l8 K0
theorem nat_Mul_p4 {T:Told} (H:Hands T):PieceOk T Tryz.prog 67 (.loop (loopAt 4 (bodyOf Tryz.f54) .skip)) ⟨nat_Mul_i4,nat_Mul_o4,lp nat_Mul_s4 K0⟩ :=
 loop_piece H.ty (n54 H) hm (LHok_of (l:=[(.loop (loopAt 8 (bodyOf Tryz.f54) .skip),⟨nat_Mul_i8,nat_Mul_o8,lp nat_Mul_s8 K0⟩)]) (by kernel_rfl) ⟨nat_Mul_p8 H,trivial⟩) nat_Mul_l4 K0
theorem ok54 {T:Told} (H:Hands T):CtrOk T Tryz.prog 54 c54 :=
 fn_ok H.ty (n54 H) hm (lh:=nat_Mul_lh) (ct:=c54) (dcd:=fun y=>(y.2.1)) Tryz.func54 (by kernel_rfl) (by rfl) (LHok_of (l:=[(.loop (loopAt 4 (bodyOf Tryz.f54) .skip),⟨nat_Mul_i4,nat_Mul_o4,lp nat_Mul_s4 K0⟩)]) (by kernel_rfl) ⟨nat_Mul_p4 H,trivial⟩) (by decide) (fun _=>rfl) (fun x r h=>(nat_Mul_eq x.1 x.2.1).trans h)
theorem n52 {T:Told} (H:Hands T):EnvOk T Tryz.prog (envL e52):=envL_ok (l:=e52) ⟨ok54 H,ok84 H,ok87 H,trivial⟩
theorem ok52 {T:Told} (H:Hands T):CtrOk T Tryz.prog 52 c52 :=
 fn_ok H.ty (n52 H) hm (lh:=whole_Mul_lh) (ct:=c52) (dcd:=fun y=>(y.2.1)) Tryz.func52 (by kernel_rfl) (by rfl) (LHok_of (l:=[]) (by kernel_rfl) trivial) (by decide) (fun _=>rfl) (fun x r h=>(whole_Mul_eq x.1 x.2.1).trans h)
theorem n53 {T:Told} (H:Hands T):EnvOk T Tryz.prog (envL e53):=envL_ok (l:=e53) trivial
theorem ok53 {T:Told} (H:Hands T):CtrOk T Tryz.prog 53 c53 :=
 fn_ok H.ty (n53 H) hm (lh:=ratio_den_lh) (ct:=c53) (dcd:=fun y=>(y.2.1)) Tryz.func53 (by kernel_rfl) (by rfl) (LHok_of (l:=[]) (by kernel_rfl) trivial) (by decide) (fun _=>rfl) (fun x r h=>(ratio_den_eq x.1).trans h)
theorem n14 {T:Told} (H:Hands T):EnvOk T Tryz.prog (envL e14):=envL_ok (l:=e14) ⟨ok49 H,ok50 H,ok51 H,ok52 H,ok53 H,ok54 H,trivial⟩
theorem ok14 {T:Told} (H:Hands T):CtrOk T Tryz.prog 14 c14 :=
 fn_ok H.ty (n14 H) hm (lh:=ratio_Add_lh) (ct:=c14) (dcd:=fun y=>(y.2.1)) Tryz.func14 (by kernel_rfl) (by rfl) (LHok_of (l:=[]) (by kernel_rfl) trivial) (by decide) (fun _=>rfl) (fun x r h=>(ratio_Add_eq x.1 x.2.1).trans h)
theorem n74 {T:Told} (H:Hands T):EnvOk T Tryz.prog (envL e74):=envL_ok (l:=e74) ⟨ok84 H,ok89 H,trivial⟩
theorem ok74 {T:Told} (H:Hands T):CtrOk T Tryz.prog 74 c74 :=
 fn_ok H.ty (n74 H) hm (lh:=whole_Cmp_lh) (ct:=c74) (dcd:=fun y=>(y.2.1)) Tryz.func74 (by kernel_rfl) (by rfl) (LHok_of (l:=[]) (by kernel_rfl) trivial) (by decide) (fun _=>rfl) (fun x r h=>(whole_Cmp_eq x.1 x.2.1).trans h)
theorem n40 {T:Told} (H:Hands T):EnvOk T Tryz.prog (envL e40):=envL_ok (l:=e40) ⟨ok49 H,ok52 H,ok53 H,ok74 H,trivial⟩
theorem ok40 {T:Told} (H:Hands T):CtrOk T Tryz.prog 40 c40 :=
 fn_ok H.ty (n40 H) hm (lh:=ratio_Cmp_lh) (ct:=c40) (dcd:=fun y=>(y.2.1)) Tryz.func40 (by kernel_rfl) (by rfl) (LHok_of (l:=[]) (by kernel_rfl) trivial) (by decide) (fun _=>rfl) (fun x r h=>(ratio_Cmp_eq x.1 x.2.1).trans h)
theorem n30 {T:Told} (H:Hands T):EnvOk T Tryz.prog (envL e30):=envL_ok (l:=e30) ⟨ok40 H,trivial⟩
theorem ok30 {T:Told} (H:Hands T):CtrOk T Tryz.prog 30 c30 :=
 fn_ok H.ty (n30 H) hm (lh:=ratio_Same_lh) (ct:=c30) (dcd:=fun y=>(y.2.1)) Tryz.func30 (by kernel_rfl) (by rfl) (LHok_of (l:=[]) (by kernel_rfl) trivial) (by decide) (fun _=>rfl) (fun x r h=>(ratio_Same_eq x.1 x.2.1).trans h)
theorem n102 {T:Told} (H:Hands T):EnvOk T Tryz.prog (envL e102):=envL_ok (l:=e102) ⟨ok14 H,ok30 H,trivial⟩
theorem valid_sums_p2 {T:Told} (H:Hands T):PieceOk T Tryz.prog 37 (.loop (loopAt 2 (bodyOf Tryz.f102) .skip)) ⟨valid_sums_i2,valid_sums_o2,lp valid_sums_s2 K0⟩ :=
 loop_piece H.ty (n102 H) hm (LHok_of (l:=[]) (by kernel_rfl) trivial) valid_sums_l2 K0
theorem ok102 {T:Told} (H:Hands T):CtrOk T Tryz.prog 102 c102 :=
 fn_ok H.ty (n102 H) hm (lh:=valid_sums_lh) (ct:=c102) (dcd:=fun y=>(y.2.1,y.2.2.1)) Tryz.func102 (by kernel_rfl) (by rfl) (LHok_of (l:=[(.loop (loopAt 2 (bodyOf Tryz.f102) .skip),⟨valid_sums_i2,valid_sums_o2,lp valid_sums_s2 K0⟩)]) (by kernel_rfl) ⟨valid_sums_p2 H,trivial⟩) (by decide) (fun _=>rfl) (fun x r h=>(valid_sums_eq x.1).trans h)
theorem n103 {T:Told} (H:Hands T):EnvOk T Tryz.prog (envL e103):=envL_ok (l:=e103) trivial
theorem ok103 {T:Told} (H:Hands T):CtrOk T Tryz.prog 103 c103 :=
 fn_ok H.ty (n103 H) hm (lh:=valid_fault_lh) (ct:=c103) (dcd:=fun y=>(y.2.1)) Tryz.func103 (by kernel_rfl) (by rfl) (LHok_of (l:=[]) (by kernel_rfl) trivial) (by decide) (fun _=>rfl) (fun x r h=>(valid_fault_eq x.1 x.2.1 x.2.2.1).trans h)
theorem n64 {T:Told} (H:Hands T):EnvOk T Tryz.prog (envL e64):=envL_ok (l:=e64) ⟨ok98 H,ok99 H,ok100 H,ok101 H,ok102 H,ok103 H,trivial⟩
theorem valid_Check_p7 {T:Told} (H:Hands T):PieceOk T Tryz.prog 63 (.loop (loopAt 7 (bodyOf Tryz.f64) .skip)) ⟨valid_Check_i7,valid_Check_o7,lp valid_Check_s7 K0⟩ :=
 loop_piece H.ty (n64 H) hm (LHok_of (l:=[]) (by kernel_rfl) trivial) valid_Check_l7 K0
theorem valid_Check_p4 {T:Told} (H:Hands T):PieceOk T Tryz.prog 63 (.loop (loopAt 4 (bodyOf Tryz.f64) .skip)) ⟨valid_Check_i4,valid_Check_o4,lp valid_Check_s4 K0⟩ :=
 loop_piece H.ty (n64 H) hm (LHok_of (l:=[(.loop (loopAt 7 (bodyOf Tryz.f64) .skip),⟨valid_Check_i7,valid_Check_o7,lp valid_Check_s7 K0⟩)]) (by kernel_rfl) ⟨valid_Check_p7 H,trivial⟩) valid_Check_l4 K0
theorem ok64 {T:Told} (H:Hands T):CtrOk T Tryz.prog 64 c64 :=
 fn_ok H.ty (n64 H) hm (lh:=valid_Check_lh) (ct:=c64) (dcd:=fun y=>(y.2.1)) Tryz.func64 (by kernel_rfl) (by rfl) (LHok_of (l:=[(.loop (loopAt 4 (bodyOf Tryz.f64) .skip),⟨valid_Check_i4,valid_Check_o4,lp valid_Check_s4 K0⟩)]) (by kernel_rfl) ⟨valid_Check_p4 H,trivial⟩) (by decide) (fun _=>rfl) (fun x r h=>(valid_Check_eq x.1).trans h)
theorem n26 {T:Told} (H:Hands T):EnvOk T Tryz.prog (envL e26):=envL_ok (l:=e26) ⟨ok64 H,trivial⟩
theorem ok26 {T:Told} (H:Hands T):CtrOk T Tryz.prog 26 c26 :=
 fn_ok H.ty (n26 H) hm (lh:=valid_Ok_lh) (ct:=c26) (dcd:=fun y=>(y.2.1)) Tryz.func26 (by kernel_rfl) (by rfl) (LHok_of (l:=[]) (by kernel_rfl) trivial) (by decide) (fun _=>rfl) (fun x r h=>(valid_Ok_eq x.1).trans h)
theorem n75 {T:Told} (H:Hands T):EnvOk T Tryz.prog (envL e75):=envL_ok (l:=e75) ⟨ok26 H,trivial⟩
theorem ok75 {T:Told} (H:Hands T):CtrOk T Tryz.prog 75 c75 :=
 fn_ok H.ty (n75 H) hm (lh:=route_fits_lh) (ct:=c75) (dcd:=fun y=>(y.2.1)) Tryz.func75 (by kernel_rfl) (by rfl) (LHok_of (l:=[]) (by kernel_rfl) trivial) (by decide) (fun _=>rfl) (fun x r h=>(route_fits_eq x.1 x.2.1).trans h)
theorem n47 {T:Told} (H:Hands T):EnvOk T Tryz.prog (envL e47):=envL_ok (l:=e47) ⟨ok75 H,trivial⟩
theorem ok47 {T:Told} (H:Hands T):CtrOk T Tryz.prog 47 c47 :=
 fn_ok H.ty (n47 H) hm (lh:=route_Fits_lh) (ct:=c47) (dcd:=fun y=>(y.2.1)) Tryz.func47 (by kernel_rfl) (by rfl) (LHok_of (l:=[]) (by kernel_rfl) trivial) (by decide) (fun _=>rfl) (fun x r h=>(route_Fits_eq x.1 x.2.1).trans h)
theorem n81 {T:Told} (H:Hands T):EnvOk T Tryz.prog (envL e81):=envL_ok (l:=e81) ⟨ok21 H,trivial⟩
theorem pathshap_zeros_p3 {T:Told} (H:Hands T):PieceOk T Tryz.prog 13 (.loop (loopAt 3 (bodyOf Tryz.f81) .skip)) ⟨pathshap_zeros_i3,pathshap_zeros_o3,lp pathshap_zeros_s3 K0⟩ :=
 loop_piece H.ty (n81 H) hm (LHok_of (l:=[]) (by kernel_rfl) trivial) pathshap_zeros_l3 K0
theorem ok81 {T:Told} (H:Hands T):CtrOk T Tryz.prog 81 c81 :=
 fn_ok H.ty (n81 H) hm (lh:=pathshap_zeros_lh) (ct:=c81) (dcd:=fun y=>(y.2.1)) Tryz.func81 (by kernel_rfl) (by rfl) (LHok_of (l:=[(.loop (loopAt 3 (bodyOf Tryz.f81) .skip),⟨pathshap_zeros_i3,pathshap_zeros_o3,lp pathshap_zeros_s3 K0⟩)]) (by kernel_rfl) ⟨pathshap_zeros_p3 H,trivial⟩) (by decide) (fun _=>rfl) (fun x r h=>(pathshap_zeros_eq x.1).trans h)
theorem n60 {T:Told} (H:Hands T):EnvOk T Tryz.prog (envL e60):=envL_ok (l:=e60) ⟨ok58 H,ok87 H,trivial⟩
theorem ok60 {T:Told} (H:Hands T):CtrOk T Tryz.prog 60 c60 :=
 fn_ok H.ty (n60 H) hm (lh:=whole_Of_lh) (ct:=c60) (dcd:=fun y=>(y.2.1)) Tryz.func60 (by kernel_rfl) (by rfl) (LHok_of (l:=[]) (by kernel_rfl) trivial) (by decide) (fun _=>rfl) (fun x r h=>(whole_Of_eq x.1).trans h)
theorem n55 {T:Told} (H:Hands T):EnvOk T Tryz.prog (envL e55):=envL_ok (l:=e55) ⟨ok58 H,ok60 H,trivial⟩
theorem ok55 {T:Told} (H:Hands T):CtrOk T Tryz.prog 55 c55 :=
 fn_ok H.ty (n55 H) hm (lh:=ratio_Of_lh) (ct:=c55) (dcd:=fun y=>(y.2.1)) Tryz.func55 (by kernel_rfl) (by rfl) (LHok_of (l:=[]) (by kernel_rfl) trivial) (by decide) (fun _=>rfl) (fun x r h=>(ratio_Of_eq x.1).trans h)
theorem n56 {T:Told} (H:Hands T):EnvOk T Tryz.prog (envL e56):=envL_ok (l:=e56) ⟨ok55 H,trivial⟩
theorem ok56 {T:Told} (H:Hands T):CtrOk T Tryz.prog 56 c56 :=
 fn_ok H.ty (n56 H) hm (lh:=ratio_One_lh) (ct:=c56) (dcd:=fun y=>(y.2.1)) Tryz.func56 (by kernel_rfl) (by rfl) (LHok_of (l:=[]) (by kernel_rfl) trivial) (by decide) (fun _=>rfl) (fun x r h=>(ratio_One_eq ).trans h)
theorem n116 {T:Told} (H:Hands T):EnvOk T Tryz.prog (envL e116):=envL_ok (l:=e116) ⟨ok56 H,trivial⟩
theorem ok116 {T:Told} (H:Hands T):CtrOk T Tryz.prog 116 c116 :=
 fn_okB H.ty (n116 H) hm (lh:=pathshap_New_lh) (ct:=c116) (wi:=w116) (dcd:=fun y=>(y.2.1)) Tryz.func116 (by kernel_rfl) (by rfl) (LHok_of (l:=[]) (by kernel_rfl) trivial) (fun _=>rfl) rfl (fun x r h=>(pathshap_New_eq ).trans h)
theorem n22 {T:Told} (H:Hands T):EnvOk T Tryz.prog (envL e22):=envL_ok (l:=e22) ⟨ok49 H,ok50 H,ok52 H,ok54 H,trivial⟩
theorem ok22 {T:Told} (H:Hands T):CtrOk T Tryz.prog 22 c22 :=
 fn_ok H.ty (n22 H) hm (lh:=ratio_Mul_lh) (ct:=c22) (dcd:=fun y=>(y.2.1)) Tryz.func22 (by kernel_rfl) (by rfl) (LHok_of (l:=[]) (by kernel_rfl) trivial) (by decide) (fun _=>rfl) (fun x r h=>(ratio_Mul_eq x.1 x.2.1).trans h)
theorem n146 {T:Told} (H:Hands T):EnvOk T Tryz.prog (envL e146):=envL_ok (l:=e146) trivial
theorem pathshap_Path_Find_p4 {T:Told} (H:Hands T):PieceOk T Tryz.prog 29 (.loop (loopAt 4 (bodyOf Tryz.f146) .skip)) ⟨pathshap_Path_Find_i4,pathshap_Path_Find_o4,lp pathshap_Path_Find_s4 K0⟩ :=
 loop_piece H.ty (n146 H) hm (LHok_of (l:=[]) (by kernel_rfl) trivial) pathshap_Path_Find_l4 K0
theorem ok146 {T:Told} (H:Hands T):CtrOk T Tryz.prog 146 c146 :=
 fn_okB H.ty (n146 H) hm (lh:=pathshap_Path_Find_lh) (ct:=c146) (wi:=w146) (dcd:=fun y=>(y.2.1,y.2.2.1)) Tryz.func146 (by kernel_rfl) (by rfl) (LHok_of (l:=[(.loop (loopAt 4 (bodyOf Tryz.f146) .skip),⟨pathshap_Path_Find_i4,pathshap_Path_Find_o4,lp pathshap_Path_Find_s4 K0⟩)]) (by kernel_rfl) ⟨pathshap_Path_Find_p4 H,trivial⟩) (fun _=>rfl) rfl (fun x r h=>(pathshap_Path_Find_eq x.1 x.2.1).trans h)
theorem n147 {T:Told} (H:Hands T):EnvOk T Tryz.prog (envL e147):=envL_ok (l:=e147) trivial
theorem pathshap_Path_Parts_p5 {T:Told} (H:Hands T):PieceOk T Tryz.prog 32 (.loop (loopAt 5 (bodyOf Tryz.f147) .skip)) ⟨pathshap_Path_Parts_i5,pathshap_Path_Parts_o5,lp pathshap_Path_Parts_s5 K0⟩ :=
 loop_piece H.ty (n147 H) hm (LHok_of (l:=[]) (by kernel_rfl) trivial) pathshap_Path_Parts_l5 K0
theorem ok147 {T:Told} (H:Hands T):CtrOk T Tryz.prog 147 c147 :=
 fn_okB H.ty (n147 H) hm (lh:=pathshap_Path_Parts_lh) (ct:=c147) (wi:=w147) (dcd:=fun y=>(y.2.1,y.2.2.1)) Tryz.func147 (by kernel_rfl) (by rfl) (LHok_of (l:=[(.loop (loopAt 5 (bodyOf Tryz.f147) .skip),⟨pathshap_Path_Parts_i5,pathshap_Path_Parts_o5,lp pathshap_Path_Parts_s5 K0⟩)]) (by kernel_rfl) ⟨pathshap_Path_Parts_p5 H,trivial⟩) (fun _=>rfl) rfl (fun x r h=>(pathshap_Path_Parts_eq x.1).trans h)
theorem n93 {T:Told} (H:Hands T):EnvOk T Tryz.prog (envL e93):=envL_ok (l:=e93) ⟨ok84 H,ok87 H,trivial⟩
theorem ok93 {T:Told} (H:Hands T):CtrOk T Tryz.prog 93 c93 :=
 fn_ok H.ty (n93 H) hm (lh:=whole_Neg_lh) (ct:=c93) (dcd:=fun y=>(y.2.1)) Tryz.func93 (by kernel_rfl) (by rfl) (LHok_of (l:=[]) (by kernel_rfl) trivial) (by decide) (fun _=>rfl) (fun x r h=>(whole_Neg_eq x.1).trans h)
theorem n59 {T:Told} (H:Hands T):EnvOk T Tryz.prog (envL e59):=envL_ok (l:=e59) ⟨ok50 H,ok84 H,ok92 H,ok93 H,trivial⟩
theorem ok59 {T:Told} (H:Hands T):CtrOk T Tryz.prog 59 c59 :=
 fn_ok H.ty (n59 H) hm (lh:=ratio_Make_lh) (ct:=c59) (dcd:=fun y=>(y.2.1,y.2.2.1)) Tryz.func59 (by kernel_rfl) (by rfl) (LHok_of (l:=[]) (by kernel_rfl) trivial) (by decide) (fun _=>rfl) (fun x r h=>(ratio_Make_eq x.1 x.2.1).trans h)
theorem n24 {T:Told} (H:Hands T):EnvOk T Tryz.prog (envL e24):=envL_ok (l:=e24) ⟨ok49 H,ok59 H,ok60 H,trivial⟩
theorem ok24 {T:Told} (H:Hands T):CtrOk T Tryz.prog 24 c24 :=
 fn_ok H.ty (n24 H) hm (lh:=ratio_Frac_lh) (ct:=c24) (dcd:=fun y=>(y.2.1)) Tryz.func24 (by kernel_rfl) (by rfl) (LHok_of (l:=[]) (by kernel_rfl) trivial) (by decide) (fun _=>rfl) (fun x r h=>(ratio_Frac_eq x.1 x.2.1).trans h)
theorem n78 {T:Told} (H:Hands T):EnvOk T Tryz.prog (envL e78):=envL_ok (l:=e78) ⟨ok49 H,ok93 H,trivial⟩
theorem ok78 {T:Told} (H:Hands T):CtrOk T Tryz.prog 78 c78 :=
 fn_ok H.ty (n78 H) hm (lh:=ratio_Neg_lh) (ct:=c78) (dcd:=fun y=>(y.2.1)) Tryz.func78 (by kernel_rfl) (by rfl) (LHok_of (l:=[]) (by kernel_rfl) trivial) (by decide) (fun _=>rfl) (fun x r h=>(ratio_Neg_eq x.1).trans h)
theorem n44 {T:Told} (H:Hands T):EnvOk T Tryz.prog (envL e44):=envL_ok (l:=e44) ⟨ok14 H,ok78 H,trivial⟩
theorem ok44 {T:Told} (H:Hands T):CtrOk T Tryz.prog 44 c44 :=
 fn_ok H.ty (n44 H) hm (lh:=ratio_Sub_lh) (ct:=c44) (dcd:=fun y=>(y.2.1)) Tryz.func44 (by kernel_rfl) (by rfl) (LHok_of (l:=[]) (by kernel_rfl) trivial) (by decide) (fun _=>rfl) (fun x r h=>(ratio_Sub_eq x.1 x.2.1).trans h)
theorem n132 {T:Told} (H:Hands T):EnvOk T Tryz.prog (envL e132):=envL_ok (l:=e132) ⟨ok49 H,ok53 H,ok59 H,trivial⟩
theorem ok132 {T:Told} (H:Hands T):CtrOk T Tryz.prog 132 c132 :=
 fn_ok H.ty (n132 H) hm (lh:=ratio_Inv_lh) (ct:=c132) (dcd:=fun y=>(y.2.1,y.2.2.1)) Tryz.func132 (by kernel_rfl) (by rfl) (LHok_of (l:=[]) (by kernel_rfl) trivial) (by decide) (fun _=>rfl) (fun x r h=>(ratio_Inv_eq x.1).trans h)
theorem n160 {T:Told} (H:Hands T):EnvOk T Tryz.prog (envL e160):=envL_ok (l:=e160) ⟨ok22 H,ok24 H,ok44 H,ok132 H,trivial⟩
theorem pathshap_Path_without_p7 {T:Told} (H:Hands T):PieceOk T Tryz.prog 104 (.loop (loopAt 7 (bodyOf Tryz.f160) .skip)) ⟨pathshap_Path_without_i7,pathshap_Path_without_o7,lp pathshap_Path_without_s7 K0⟩ :=
 loop_piece H.ty (n160 H) hm (LHok_of (l:=[]) (by kernel_rfl) trivial) pathshap_Path_without_l7 K0
theorem ok160 {T:Told} (H:Hands T):CtrOk T Tryz.prog 160 c160 :=
 fn_okB H.ty (n160 H) hm (lh:=pathshap_Path_without_lh) (ct:=c160) (wi:=w160) (dcd:=fun y=>(y.2.1,y.2.2.1)) Tryz.func160 (by kernel_rfl) (by rfl) (LHok_of (l:=[(.loop (loopAt 7 (bodyOf Tryz.f160) .skip),⟨pathshap_Path_without_i7,pathshap_Path_without_o7,lp pathshap_Path_without_s7 K0⟩)]) (by kernel_rfl) ⟨pathshap_Path_without_p7 H,trivial⟩) (fun _=>rfl) rfl (fun x r h=>(pathshap_Path_without_eq x.1 x.2.1).trans h)
theorem n148 {T:Told} (H:Hands T):EnvOk T Tryz.prog (envL e148):=envL_ok (l:=e148) ⟨ok160 H,trivial⟩
theorem pathshap_Path_Unwind_p8 {T:Told} (H:Hands T):PieceOk T Tryz.prog 66 (.loop (loopAt 8 (bodyOf Tryz.f148) .skip)) ⟨pathshap_Path_Unwind_i8,pathshap_Path_Unwind_o8,lp pathshap_Path_Unwind_s8 K0⟩ :=
 loop_piece H.ty (n148 H) hm (LHok_of (l:=[]) (by kernel_rfl) trivial) pathshap_Path_Unwind_l8 K0
theorem ok148 {T:Told} (H:Hands T):CtrOk T Tryz.prog 148 c148 :=
 fn_okB H.ty (n148 H) hm (lh:=pathshap_Path_Unwind_lh) (ct:=c148) (wi:=w148) (dcd:=fun y=>(y.2.1,y.2.2.1)) Tryz.func148 (by kernel_rfl) (by rfl) (LHok_of (l:=[(.loop (loopAt 8 (bodyOf Tryz.f148) .skip),⟨pathshap_Path_Unwind_i8,pathshap_Path_Unwind_o8,lp pathshap_Path_Unwind_s8 K0⟩)]) (by kernel_rfl) ⟨pathshap_Path_Unwind_p8 H,trivial⟩) (fun _=>rfl) rfl (fun x r h=>(pathshap_Path_Unwind_eq x.1 x.2.1).trans h)
theorem n149 {T:Told} (H:Hands T):EnvOk T Tryz.prog (envL e149):=envL_ok (l:=e149) ⟨ok14 H,ok21 H,ok22 H,ok24 H,ok49 H,ok130 H,ok146 H,trivial⟩
theorem pathshap_Path_Extend_p10 {T:Told} (H:Hands T):PieceOk T Tryz.prog 113 (.loop (loopAt 10 (bodyOf Tryz.f149) .skip)) ⟨pathshap_Path_Extend_i10,pathshap_Path_Extend_o10,lp pathshap_Path_Extend_s10 K0⟩ :=
 loop_piece H.ty (n149 H) hm (LHok_of (l:=[]) (by kernel_rfl) trivial) pathshap_Path_Extend_l10 K0
theorem ok149 {T:Told} (H:Hands T):CtrOk T Tryz.prog 149 c149 :=
 fn_okB H.ty (n149 H) hm (lh:=pathshap_Path_Extend_lh) (ct:=c149) (wi:=w149) (dcd:=fun y=>(y.2.1,y.2.2.1)) Tryz.func149 (by kernel_rfl) (by rfl) (LHok_of (l:=[(.loop (loopAt 10 (bodyOf Tryz.f149) .skip),⟨pathshap_Path_Extend_i10,pathshap_Path_Extend_o10,lp pathshap_Path_Extend_s10 K0⟩)]) (by kernel_rfl) ⟨pathshap_Path_Extend_p10 H,trivial⟩) (fun _=>rfl) rfl (fun x r h=>(pathshap_Path_Extend_eq x.1 x.2.1 x.2.2.1 x.2.2.2.1).trans h)
theorem n117 {T:Told} (H:Hands T):EnvOk T Tryz.prog (envL e117):=envL_ok (l:=e117) ⟨ok22 H,ok146 H,ok147 H,ok148 H,ok149 H,trivial⟩
theorem ok117 {T:Told} (H:Hands T):CtrOk T Tryz.prog 117 c117 :=
 fn_okB H.ty (n117 H) hm (lh:=pathshap_place_join_lh) (ct:=c117) (wi:=w117) (dcd:=fun y=>(y.2.1,y.2.2.1,y.2.2.2.1,y.2.2.2.2.1,y.2.2.2.2.2.1,y.2.2.2.2.2.2.1,y.2.2.2.2.2.2.2.1,y.2.2.2.2.2.2.2.2.1,y.2.2.2.2.2.2.2.2.2.1,y.2.2.2.2.2.2.2.2.2.2.1)) Tryz.func117 (by kernel_rfl) (by rfl) (LHok_of (l:=[]) (by kernel_rfl) trivial) (fun _=>rfl) rfl (fun x r h=>(pathshap_place_join_eq x.1 x.2.1 x.2.2.1 x.2.2.2.1 x.2.2.2.2.1 x.2.2.2.2.2.1 x.2.2.2.2.2.2.1 x.2.2.2.2.2.2.2.1 x.2.2.2.2.2.2.2.2.1 x.2.2.2.2.2.2.2.2.2.1).trans h)
theorem n41 {T:Told} (H:Hands T):EnvOk T Tryz.prog (envL e41):=envL_ok (l:=e41) ⟨ok14 H,ok21 H,trivial⟩
theorem ratio_Sum_p3 {T:Told} (H:Hands T):PieceOk T Tryz.prog 18 (.loop (loopAt 3 (bodyOf Tryz.f41) .skip)) ⟨ratio_Sum_i3,ratio_Sum_o3,lp ratio_Sum_s3 K0⟩ :=
 loop_piece H.ty (n41 H) hm (LHok_of (l:=[]) (by kernel_rfl) trivial) ratio_Sum_l3 K0
theorem ok41 {T:Told} (H:Hands T):CtrOk T Tryz.prog 41 c41 :=
 fn_ok H.ty (n41 H) hm (lh:=ratio_Sum_lh) (ct:=c41) (dcd:=fun y=>(y.2.1)) Tryz.func41 (by kernel_rfl) (by rfl) (LHok_of (l:=[(.loop (loopAt 3 (bodyOf Tryz.f41) .skip),⟨ratio_Sum_i3,ratio_Sum_o3,lp ratio_Sum_s3 K0⟩)]) (by kernel_rfl) ⟨ratio_Sum_p3 H,trivial⟩) (by decide) (fun _=>rfl) (fun x r h=>(ratio_Sum_eq x.1).trans h)
theorem n150 {T:Told} (H:Hands T):EnvOk T Tryz.prog (envL e150):=envL_ok (l:=e150) ⟨ok41 H,ok160 H,trivial⟩
theorem ok150 {T:Told} (H:Hands T):CtrOk T Tryz.prog 150 c150 :=
 fn_okB H.ty (n150 H) hm (lh:=pathshap_Path_Sum_lh) (ct:=c150) (wi:=w150) (dcd:=fun y=>(y.2.1,y.2.2.1,y.2.2.2.1)) Tryz.func150 (by kernel_rfl) (by rfl) (LHok_of (l:=[]) (by kernel_rfl) trivial) (fun _=>rfl) rfl (fun x r h=>(pathshap_Path_Sum_eq x.1 x.2.1).trans h)
theorem n118 {T:Told} (H:Hands T):EnvOk T Tryz.prog (envL e118):=envL_ok (l:=e118) ⟨ok14 H,ok22 H,ok56 H,ok78 H,ok147 H,ok150 H,trivial⟩
theorem pathshap_walker_leaf_p3 {T:Told} (H:Hands T):PieceOk T Tryz.prog 69 (.loop (loopAt 3 (bodyOf Tryz.f118) .skip)) ⟨pathshap_walker_leaf_i3,pathshap_walker_leaf_o3,lp pathshap_walker_leaf_s3 K0⟩ :=
 loop_piece H.ty (n118 H) hm (LHok_of (l:=[]) (by kernel_rfl) trivial) pathshap_walker_leaf_l3 K0
theorem ok118 {T:Told} (H:Hands T):CtrOk T Tryz.prog 118 c118 :=
 fn_okB H.ty (n118 H) hm (lh:=pathshap_walker_leaf_lh) (ct:=c118) (wi:=w118) (dcd:=fun y=>(y.1.1,y.2.1,y.2.2.1,y.2.2.2.1,y.2.2.2.2.1,y.2.2.2.2.2.1)) Tryz.func118 (by kernel_rfl) (by rfl) (LHok_of (l:=[(.loop (loopAt 3 (bodyOf Tryz.f118) .skip),⟨pathshap_walker_leaf_i3,pathshap_walker_leaf_o3,lp pathshap_walker_leaf_s3 K0⟩)]) (by kernel_rfl) ⟨pathshap_walker_leaf_p3 H,trivial⟩) (fun _=>rfl) rfl (fun x r h=>(pathshap_walker_leaf_eq x.1 x.2.1 x.2.2.1 x.2.2.2.1 x.2.2.2.2.1 x.2.2.2.2.2.1 x.2.2.2.2.2.2.1 x.2.2.2.2.2.2.2.1 x.2.2.2.2.2.2.2.2.1 x.2.2.2.2.2.2.2.2.2.1 x.2.2.2.2.2.2.2.2.2.2.1 x.2.2.2.2.2.2.2.2.2.2.2.1 x.2.2.2.2.2.2.2.2.2.2.2.2.1 x.2.2.2.2.2.2.2.2.2.2.2.2.2.1 x.2.2.2.2.2.2.2.2.2.2.2.2.2.2.1).trans h)
theorem n131 {T:Told} (H:Hands T):EnvOk T Tryz.prog (envL e131):=envL_ok (l:=e131) ⟨ok40 H,trivial⟩
theorem ok131 {T:Told} (H:Hands T):CtrOk T Tryz.prog 131 c131 :=
 fn_ok H.ty (n131 H) hm (lh:=route_goes_lh) (ct:=c131) (dcd:=fun y=>(y.2.1)) Tryz.func131 (by kernel_rfl) (by rfl) (LHok_of (l:=[]) (by kernel_rfl) trivial) (by decide) (fun _=>rfl) (fun x r h=>(route_goes_eq x.1 x.2.1).trans h)
theorem n105 {T:Told} (H:Hands T):EnvOk T Tryz.prog (envL e105):=envL_ok (l:=e105) ⟨ok131 H,trivial⟩
theorem ok105 {T:Told} (H:Hands T):CtrOk T Tryz.prog 105 c105 :=
 fn_ok H.ty (n105 H) hm (lh:=route_Left_lh) (ct:=c105) (dcd:=fun y=>(y.2.1)) Tryz.func105 (by kernel_rfl) (by rfl) (LHok_of (l:=[]) (by kernel_rfl) trivial) (by decide) (fun _=>rfl) (fun x r h=>(route_Left_eq x.1 x.2.1).trans h)
theorem n106 {T:Told} (H:Hands T):EnvOk T Tryz.prog (envL e106):=envL_ok (l:=e106) ⟨ok22 H,ok132 H,trivial⟩
theorem ok106 {T:Told} (H:Hands T):CtrOk T Tryz.prog 106 c106 :=
 fn_ok H.ty (n106 H) hm (lh:=ratio_Div_lh) (ct:=c106) (dcd:=fun y=>(y.2.1,y.2.2.1)) Tryz.func106 (by kernel_rfl) (by rfl) (LHok_of (l:=[]) (by kernel_rfl) trivial) (by decide) (fun _=>rfl) (fun x r h=>(ratio_Div_eq x.1 x.2.1).trans h)
theorem n151 {T:Told} (H:Hands T):EnvOk T Tryz.prog (envL e151):=envL_ok (l:=e151) trivial
theorem ok151 {T:Told} (H:Hands T):CtrOk T Tryz.prog 151 c151 :=
 fn_okB H.ty (n151 H) hm (lh:=pathshap_Path_Copy_lh) (ct:=c151) (wi:=w151) (dcd:=fun y=>(y.2.1,y.2.2.1)) Tryz.func151 (by kernel_rfl) (by rfl) (LHok_of (l:=[]) (by kernel_rfl) trivial) (fun _=>rfl) rfl (fun x r h=>(pathshap_Path_Copy_eq x.1).trans h)
theorem n119 {T:Told} (H:Hands T):EnvOk T Tryz.prog (envL e119):=envL_ok (l:=e119) ⟨ok22 H,ok105 H,ok106 H,ok151 H,trivial⟩
theorem ok119 {T:Told} (H:Hands T):CtrOk T Tryz.prog 119 c119 :=
 fn_okB H.ty (n119 H) hm (lh:=pathshap_walker_child_lh) (ct:=c119) (wi:=w119) (dcd:=fun y=>(y.1.1,y.2.1,y.2.2.1,y.2.2.2.1,y.2.2.2.2.1,y.2.2.2.2.2.1,y.2.2.2.2.2.2.1,y.2.2.2.2.2.2.2.1,y.2.2.2.2.2.2.2.2.1,y.2.2.2.2.2.2.2.2.2.1,y.2.2.2.2.2.2.2.2.2.2.1,y.2.2.2.2.2.2.2.2.2.2.2.1,y.2.2.2.2.2.2.2.2.2.2.2.2.1,y.2.2.2.2.2.2.2.2.2.2.2.2.2.1,y.2.2.2.2.2.2.2.2.2.2.2.2.2.2.1,y.2.2.2.2.2.2.2.2.2.2.2.2.2.2.2.1,y.2.2.2.2.2.2.2.2.2.2.2.2.2.2.2.2.1)) Tryz.func119 (by kernel_rfl) (by rfl) (LHok_of (l:=[]) (by kernel_rfl) trivial) (fun _=>rfl) rfl (fun x r h=>(pathshap_walker_child_eq x.1 x.2.1 x.2.2.1 x.2.2.2.1 x.2.2.2.2.1 x.2.2.2.2.2.1 x.2.2.2.2.2.2.1 x.2.2.2.2.2.2.2.1 x.2.2.2.2.2.2.2.2.1 x.2.2.2.2.2.2.2.2.2.1 x.2.2.2.2.2.2.2.2.2.2.1 x.2.2.2.2.2.2.2.2.2.2.2.1 x.2.2.2.2.2.2.2.2.2.2.2.2.1 x.2.2.2.2.2.2.2.2.2.2.2.2.2.1 x.2.2.2.2.2.2.2.2.2.2.2.2.2.2.1 x.2.2.2.2.2.2.2.2.2.2.2.2.2.2.2.1 x.2.2.2.2.2.2.2.2.2.2.2.2.2.2.2.2.1).trans h)
theorem n82 {T:Told} (H:Hands T):EnvOk T Tryz.prog (envL e82):=envL_ok (l:=e82) ⟨ok56 H,ok116 H,ok117 H,ok118 H,ok119 H,trivial⟩
theorem pathshap_walker_walk_p9 {T:Told} (H:Hands T):PieceOk T Tryz.prog 91 (.loop (loopAt 9 (bodyOf Tryz.f82) .skip)) ⟨pathshap_walker_walk_i9,pathshap_walker_walk_o9,lp pathshap_walker_walk_s9 K0⟩ :=
 loop_piece H.ty (n82 H) hm (LHok_of (l:=[]) (by kernel_rfl) trivial) pathshap_walker_walk_l9 K0
theorem pathshap_walker_walk_p1 {T:Told} (H:Hands T):PieceOk T Tryz.prog 91 (.loop (loopAt 1 (bodyOf Tryz.f82) .skip)) ⟨pathshap_walker_walk_i1,pathshap_walker_walk_o1,lp pathshap_walker_walk_s1 K0⟩ :=
 loop_piece H.ty (n82 H) hm (LHok_of (l:=[(.loop (loopAt 9 (bodyOf Tryz.f82) .skip),⟨pathshap_walker_walk_i9,pathshap_walker_walk_o9,lp pathshap_walker_walk_s9 K0⟩)]) (by kernel_rfl) ⟨pathshap_walker_walk_p9 H,trivial⟩) pathshap_walker_walk_l1 K0
theorem ok82 {T:Told} (H:Hands T):CtrOk T Tryz.prog 82 c82 :=
 fn_okB H.ty (n82 H) hm (lh:=pathshap_walker_walk_lh) (ct:=c82) (wi:=w82) (dcd:=fun y=>(y.1.1,y.2.1,y.2.2.1,y.2.2.2.1,y.2.2.2.2.1,y.2.2.2.2.2.1)) Tryz.func82 (by kernel_rfl) (by rfl) (LHok_of (l:=[(.loop (loopAt 1 (bodyOf Tryz.f82) .skip),⟨pathshap_walker_walk_i1,pathshap_walker_walk_o1,lp pathshap_walker_walk_s1 K0⟩)]) (by kernel_rfl) ⟨pathshap_walker_walk_p1 H,trivial⟩) (fun _=>rfl) rfl (fun x r h=>(pathshap_walker_walk_eq x.1 x.2.1 x.2.2.1 x.2.2.2.1 x.2.2.2.2.1 x.2.2.2.2.2.1).trans h)
theorem n48 {T:Told} (H:Hands T):EnvOk T Tryz.prog (envL e48):=envL_ok (l:=e48) ⟨ok81 H,ok82 H,trivial⟩
theorem pathshap_all_p3 {T:Told} (H:Hands T):PieceOk T Tryz.prog 34 (.loop (loopAt 3 (bodyOf Tryz.f48) .skip)) ⟨pathshap_all_i3,pathshap_all_o3,lp pathshap_all_s3 K0⟩ :=
 loop_piece H.ty (n48 H) hm (LHok_of (l:=[]) (by kernel_rfl) trivial) pathshap_all_l3 K0
theorem ok48 {T:Told} (H:Hands T):CtrOk T Tryz.prog 48 c48 :=
 fn_ok H.ty (n48 H) hm (lh:=pathshap_all_lh) (ct:=c48) (dcd:=fun y=>(y.2.1)) Tryz.func48 (by kernel_rfl) (by rfl) (LHok_of (l:=[(.loop (loopAt 3 (bodyOf Tryz.f48) .skip),⟨pathshap_all_i3,pathshap_all_o3,lp pathshap_all_s3 K0⟩)]) (by kernel_rfl) ⟨pathshap_all_p3 H,trivial⟩) (by decide) (fun _=>rfl) (fun x r h=>(pathshap_all_eq x.1 x.2.1 x.2.2.1 x.2.2.2.1).trans h)
theorem n11 {T:Told} (H:Hands T):EnvOk T Tryz.prog (envL e11):=envL_ok (l:=e11) ⟨ok47 H,ok48 H,trivial⟩
theorem ok11 {T:Told} (H:Hands T):CtrOk T Tryz.prog 11 c11 :=
 fn_ok H.ty (n11 H) hm (lh:=pathshap_Values_lh) (ct:=c11) (dcd:=fun y=>(y.2.1,y.2.2.1)) Tryz.func11 (by kernel_rfl) (by rfl) (LHok_of (l:=[]) (by kernel_rfl) trivial) (by decide) (fun _=>rfl) (fun x r h=>(pathshap_Values_eq x.1 x.2.1).trans h)
theorem n13 {T:Told} (H:Hands T):EnvOk T Tryz.prog (envL e13):=envL_ok (l:=e13) ⟨ok26 H,trivial⟩
theorem ok13 {T:Told} (H:Hands T):CtrOk T Tryz.prog 13 c13 :=
 fn_ok H.ty (n13 H) hm (lh:=valid_Tree_lh) (ct:=c13) (dcd:=fun y=>(y.2.1)) Tryz.func13 (by kernel_rfl) (by rfl) (LHok_of (l:=[]) (by kernel_rfl) trivial) (by decide) (fun _=>rfl) (fun x r h=>(valid_Tree_eq x.1 x.2.1).trans h)
theorem n94 {T:Told} (H:Hands T):EnvOk T Tryz.prog (envL e94):=envL_ok (l:=e94) ⟨ok49 H,trivial⟩
theorem model_Tidy_p7 {T:Told} (H:Hands T):PieceOk T Tryz.prog 67 (.loop (loopAt 7 (bodyOf Tryz.f94) .skip)) ⟨model_Tidy_i7,model_Tidy_o7,lp model_Tidy_s7 K0⟩ :=
 loop_piece H.ty (n94 H) hm (LHok_of (l:=[]) (by kernel_rfl) trivial) model_Tidy_l7 K0
theorem model_Tidy_p3 {T:Told} (H:Hands T):PieceOk T Tryz.prog 67 (.loop (loopAt 3 (bodyOf Tryz.f94) .skip)) ⟨model_Tidy_i3,model_Tidy_o3,lp model_Tidy_s3 K0⟩ :=
 loop_piece H.ty (n94 H) hm (LHok_of (l:=[(.loop (loopAt 7 (bodyOf Tryz.f94) .skip),⟨model_Tidy_i7,model_Tidy_o7,lp model_Tidy_s7 K0⟩)]) (by kernel_rfl) ⟨model_Tidy_p7 H,trivial⟩) model_Tidy_l3 K0
theorem ok94 {T:Told} (H:Hands T):CtrOk T Tryz.prog 94 c94 :=
 fn_ok H.ty (n94 H) hm (lh:=model_Tidy_lh) (ct:=c94) (dcd:=fun y=>(y.2.1)) Tryz.func94 (by kernel_rfl) (by rfl) (LHok_of (l:=[(.loop (loopAt 3 (bodyOf Tryz.f94) .skip),⟨model_Tidy_i3,model_Tidy_o3,lp model_Tidy_s3 K0⟩)]) (by kernel_rfl) ⟨model_Tidy_p3 H,trivial⟩) (by decide) (fun _=>rfl) (fun x r h=>(model_Tidy_eq x.1).trans h)
theorem n97 {T:Told} (H:Hands T) (n:Nat) (hr:CtrOk T Tryz.prog 97 (c97 n)):EnvOk T Tryz.prog (envL (e97 n)):=envL_ok (l:=(e97 n)) ⟨hr,trivial⟩
theorem ok97 {T:Told} (H:Hands T):∀ n,CtrOk T Tryz.prog 97 (c97 n)
 | 0=>CtrOk.never Tryz.func97 (by kernel_rfl) (by rfl) (fun _=>rfl)
 | n+1=>fn_ok H.ty (n97 H n (ok97 H n)) hm (lh:=trim_copyOf_lh n) (ct:=c97 (n+1)) (dcd:=fun y=>(y.2.1,y.2.2.1)) Tryz.func97 (by kernel_rfl) (by rfl) (LHok_of (l:=[]) (by kernel_rfl) trivial) (Nat.le_of_ble_eq_true rfl) (fun _=>rfl) (fun x r h=>(trim_copyOf_eq n x.1 x.2.1 x.2.2.1).trans h)
theorem n95 {T:Told} (H:Hands T):EnvOk T Tryz.prog (envL e95):=envL_ok (l:=e95) ⟨ok13 H,ok94 H,ok97 H R0,trivial⟩
theorem ok95 {T:Told} (H:Hands T):CtrOk T Tryz.prog 95 c95 :=
 fn_ok H.ty (n95 H) hm (lh:=trim_Order_lh) (ct:=c95) (dcd:=fun y=>(y.2.1,y.2.2.1)) Tryz.func95 (by kernel_rfl) (by rfl) (LHok_of (l:=[]) (by kernel_rfl) trivial) (by decide) (fun _=>rfl) (fun x r h=>(trim_Order_eq x.1 x.2.1).trans h)
theorem n96 {T:Told} (H:Hands T) (n:Nat) (hr:CtrOk T Tryz.prog 96 (c96 n)):EnvOk T Tryz.prog (envL (e96 n)):=envL_ok (l:=(e96 n)) ⟨ok30 H,hr,trivial⟩
theorem ok96 {T:Told} (H:Hands T):∀ n,CtrOk T Tryz.prog 96 (c96 n)
 | 0=>CtrOk.never Tryz.func96 (by kernel_rfl) (by rfl) (fun _=>rfl)
 | n+1=>fn_ok H.ty (n96 H n (ok96 H n)) hm (lh:=trim_shrink_lh n) (ct:=c96 (n+1)) (dcd:=fun y=>(y.1.1)) Tryz.func96 (by kernel_rfl) (by rfl) (LHok_of (l:=[]) (by kernel_rfl) trivial) (Nat.le_of_ble_eq_true rfl) (fun _=>rfl) (fun x r h=>(trim_shrink_eq n x.1 x.2.1).trans h)
theorem n63 {T:Told} (H:Hands T):EnvOk T Tryz.prog (envL e63):=envL_ok (l:=e63) ⟨ok95 H,ok96 H R0,ok97 H R0,trivial⟩
theorem ok63 {T:Told} (H:Hands T):CtrOk T Tryz.prog 63 c63 :=
 fn_ok H.ty (n63 H) hm (lh:=trim_Shrink_lh) (ct:=c63) (dcd:=fun y=>(y.2.1,y.2.2.1)) Tryz.func63 (by kernel_rfl) (by rfl) (LHok_of (l:=[]) (by kernel_rfl) trivial) (by decide) (fun _=>rfl) (fun x r h=>(trim_Shrink_eq x.1 x.2.1).trans h)
theorem n62 {T:Told} (H:Hands T):EnvOk T Tryz.prog (envL e62):=envL_ok (l:=e62) ⟨ok63 H,trivial⟩
theorem ok62 {T:Told} (H:Hands T):CtrOk T Tryz.prog 62 c62 :=
 fn_okB H.ty (n62 H) hm (lh:=trim_All_c1_lh) (ct:=c62) (wi:=w62) (dcd:=fun y=>(y.2.1,y.2.2.1,y.2.2.2.1)) Tryz.func62 (by kernel_rfl) (by rfl) (LHok_of (l:=[]) (by kernel_rfl) trivial) (fun _=>rfl) rfl (fun x r h=>(trim_All_c1_eq x.1 x.2.1 x.2.2.1).trans h)
theorem n61v62 {T:Told} (H:Hands T):EnvOk T Tryz.prog (envL e61v62):=envL_ok (l:=e61v62) ⟨ok26 H,ok62 H,ok94 H,trivial⟩
theorem trim_every_v62_p5 {T:Told} (H:Hands T):PieceOk T Tryz.prog 34 (.loop (loopAt 5 (bodyOf Tryz.f61) .skip)) ⟨trim_every_v62_i5,trim_every_v62_o5,lp trim_every_v62_s5 K0⟩ :=
 loop_piece H.ty (n61v62 H) hm (LHok_of (l:=[]) (by kernel_rfl) trivial) trim_every_v62_l5 K0
theorem ok61v62 {T:Told} (H:Hands T):CtrOk T Tryz.prog 61 c61v62 :=
 fn_okB H.ty (n61v62 H) hm (lh:=trim_every_v62_lh) (ct:=c61v62) (wi:=w61v62) (dcd:=fun y=>(y.2.1,y.2.2.1,y.2.2.2.1,y.2.2.2.2.1)) Tryz.func61 (by kernel_rfl) (by rfl) (LHok_of (l:=[(.loop (loopAt 5 (bodyOf Tryz.f61) .skip),⟨trim_every_v62_i5,trim_every_v62_o5,lp trim_every_v62_s5 K0⟩)]) (by kernel_rfl) ⟨trim_every_v62_p5 H,trivial⟩) (fun _=>rfl) rfl (fun x r h=>(trim_every_v62_eq x.1 x.2.1 x.2.2.1).trans h)
theorem n25 {T:Told} (H:Hands T):EnvOk T Tryz.prog (envL e25):=envL_ok (l:=e25) ⟨ok61v62 H,trivial⟩
theorem ok25 {T:Told} (H:Hands T):CtrOk T Tryz.prog 25 c25 :=
 fn_ok H.ty (n25 H) hm (lh:=trim_All_lh) (ct:=c25) (dcd:=fun y=>(y.2.1,y.2.2.1)) Tryz.func25 (by kernel_rfl) (by rfl) (LHok_of (l:=[]) (by kernel_rfl) trivial) (by decide) (fun _=>rfl) (fun x r h=>(trim_All_eq x.1).trans h)
theorem n65 {T:Told} (H:Hands T):EnvOk T Tryz.prog (envL e65):=envL_ok (l:=e65) trivial
theorem dendronref07_exact_p4 {T:Told} (H:Hands T):PieceOk T Tryz.prog 73 (.loop (loopAt 4 (bodyOf Tryz.f65) .skip)) ⟨dendronref07_exact_i4,dendronref07_exact_o4,lp dendronref07_exact_s4 K0⟩ :=
 loop_piece H.ty (n65 H) hm (LHok_of (l:=[]) (by kernel_rfl) trivial) dendronref07_exact_l4 K0
theorem dendronref07_exact_p9 {T:Told} (H:Hands T):PieceOk T Tryz.prog 73 (.loop (loopAt 9 (bodyOf Tryz.f65) .skip)) ⟨dendronref07_exact_i9,dendronref07_exact_o9,lp dendronref07_exact_s9 K0⟩ :=
 loop_piece H.ty (n65 H) hm (LHok_of (l:=[]) (by kernel_rfl) trivial) dendronref07_exact_l9 K0
theorem ok65 {T:Told} (H:Hands T):CtrOk T Tryz.prog 65 c65 :=
 fn_ok H.ty (n65 H) hm (lh:=dendronref07_exact_lh) (ct:=c65) (dcd:=fun y=>(y.2.1)) Tryz.func65 (by kernel_rfl) (by rfl) (LHok_of (l:=[(.loop (loopAt 4 (bodyOf Tryz.f65) .skip),⟨dendronref07_exact_i4,dendronref07_exact_o4,lp dendronref07_exact_s4 K0⟩),(.loop (loopAt 9 (bodyOf Tryz.f65) .skip),⟨dendronref07_exact_i9,dendronref07_exact_o9,lp dendronref07_exact_s9 K0⟩)]) (by kernel_rfl) ⟨dendronref07_exact_p4 H,dendronref07_exact_p9 H,trivial⟩) (by decide) (fun _=>rfl) (fun x r h=>(dendronref07_exact_eq x.1 x.2.1).trans h)
theorem n27 {T:Told} (H:Hands T):EnvOk T Tryz.prog (envL e27):=envL_ok (l:=e27) ⟨ok65 H,trivial⟩
theorem dendronref07_Same_p9 {T:Told} (H:Hands T):PieceOk T Tryz.prog 126 (.loop (loopAt 9 (bodyOf Tryz.f27) .skip)) ⟨dendronref07_Same_i9,dendronref07_Same_o9,lp dendronref07_Same_s9 K0⟩ :=
 loop_piece H.ty (n27 H) hm (LHok_of (l:=[]) (by kernel_rfl) trivial) dendronref07_Same_l9 K0
theorem dendronref07_Same_p4 {T:Told} (H:Hands T):PieceOk T Tryz.prog 126 (.loop (loopAt 4 (bodyOf Tryz.f27) .skip)) ⟨dendronref07_Same_i4,dendronref07_Same_o4,lp dendronref07_Same_s4 K0⟩ :=
 loop_piece H.ty (n27 H) hm (LHok_of (l:=[(.loop (loopAt 9 (bodyOf Tryz.f27) .skip),⟨dendronref07_Same_i9,dendronref07_Same_o9,lp dendronref07_Same_s9 K0⟩)]) (by kernel_rfl) ⟨dendronref07_Same_p9 H,trivial⟩) dendronref07_Same_l4 K0
theorem ok27 {T:Told} (H:Hands T):CtrOk T Tryz.prog 27 c27 :=
 fn_ok H.ty (n27 H) hm (lh:=dendronref07_Same_lh) (ct:=c27) (dcd:=fun y=>(y.2.1)) Tryz.func27 (by kernel_rfl) (by rfl) (LHok_of (l:=[(.loop (loopAt 4 (bodyOf Tryz.f27) .skip),⟨dendronref07_Same_i4,dendronref07_Same_o4,lp dendronref07_Same_s4 K0⟩)]) (by kernel_rfl) ⟨dendronref07_Same_p4 H,trivial⟩) (by decide) (fun _=>rfl) (fun x r h=>(dendronref07_Same_eq x.1 x.2.1).trans h)
theorem n28 {T:Told} (H:Hands T):EnvOk T Tryz.prog (envL e28):=envL_ok (l:=e28) ⟨ok30 H,ok55 H,ok56 H,ok63 H,trivial⟩
theorem dendronlaw25_awake_cF {r} (h:c28.F ()=r):dendronlaw25_awake=r:=by
 subst h
 delta c28
 exact (@F_in [] _ _ (fun _=>dendronlaw25_awake) _ _ () _ rfl).symm
theorem dendronlaw25_awake_fx (x) (r:c28.T) (h:c28.F x=some r):fnF tb (envL e28) Tryz.f28 dendronlaw25_awake_lh c28.ps c28.rs (T:=c28.T) (fun y=>(y.2.1)) x=some r:=by
 cases x
 exact dendronlaw25_awake_eq.trans (dendronlaw25_awake_cF h)
theorem ok28 {T:Told} (H:Hands T):CtrOk T Tryz.prog 28 c28 :=
 fn_ok H.ty (n28 H) hm (lh:=dendronlaw25_awake_lh) (ct:=c28) (dcd:=fun y=>(y.2.1)) Tryz.func28 (by kernel_rfl) (by rfl) (LHok_of (l:=[]) (by kernel_rfl) trivial) (by decide) (fun _=>rfl) (fun x r h=>dendronlaw25_awake_fx x r h)
theorem n29 {T:Told} (H:Hands T):EnvOk T Tryz.prog (envL e29):=envL_ok (l:=e29) trivial
theorem trim_Size_p3 {T:Told} (H:Hands T):PieceOk T Tryz.prog 19 (.loop (loopAt 3 (bodyOf Tryz.f29) .skip)) ⟨trim_Size_i3,trim_Size_o3,lp trim_Size_s3 K0⟩ :=
 loop_piece H.ty (n29 H) hm (LHok_of (l:=[]) (by kernel_rfl) trivial) trim_Size_l3 K0
theorem ok29 {T:Told} (H:Hands T):CtrOk T Tryz.prog 29 c29 :=
 fn_ok H.ty (n29 H) hm (lh:=trim_Size_lh) (ct:=c29) (dcd:=fun y=>(y.2.1)) Tryz.func29 (by kernel_rfl) (by rfl) (LHok_of (l:=[(.loop (loopAt 3 (bodyOf Tryz.f29) .skip),⟨trim_Size_i3,trim_Size_o3,lp trim_Size_s3 K0⟩)]) (by kernel_rfl) ⟨trim_Size_p3 H,trivial⟩) (by decide) (fun _=>rfl) (fun x r h=>(trim_Size_eq x.1).trans h)
theorem n104 {T:Told} (H:Hands T):EnvOk T Tryz.prog (envL e104):=envL_ok (l:=e104) trivial
theorem dendronlaw11_in_p2 {T:Told} (H:Hands T):PieceOk T Tryz.prog 16 (.loop (loopAt 2 (bodyOf Tryz.f104) .skip)) ⟨dendronlaw11_in_i2,dendronlaw11_in_o2,lp dendronlaw11_in_s2 K0⟩ :=
 loop_piece H.ty (n104 H) hm (LHok_of (l:=[]) (by kernel_rfl) trivial) dendronlaw11_in_l2 K0
theorem ok104 {T:Told} (H:Hands T):CtrOk T Tryz.prog 104 c104 :=
 fn_ok H.ty (n104 H) hm (lh:=dendronlaw11_in_lh) (ct:=c104) (dcd:=fun y=>(y.2.1)) Tryz.func104 (by kernel_rfl) (by rfl) (LHok_of (l:=[(.loop (loopAt 2 (bodyOf Tryz.f104) .skip),⟨dendronlaw11_in_i2,dendronlaw11_in_o2,lp dendronlaw11_in_s2 K0⟩)]) (by kernel_rfl) ⟨dendronlaw11_in_p2 H,trivial⟩) (by decide) (fun _=>rfl) (fun x r h=>(dendronlaw11_in_eq x.1 x.2.1).trans h)
theorem n66 {T:Told} (H:Hands T) (n:Nat) (hr:CtrOk T Tryz.prog 66 (c66 n)):EnvOk T Tryz.prog (envL (e66 n)):=envL_ok (l:=(e66 n)) ⟨ok14 H,ok22 H,hr,ok104 H,ok105 H,ok106 H,trivial⟩
theorem ok66 {T:Told} (H:Hands T):∀ n,CtrOk T Tryz.prog 66 (c66 n)
 | 0=>CtrOk.never Tryz.func66 (by kernel_rfl) (by rfl) (fun _=>rfl)
 | n+1=>fn_ok H.ty (n66 H n (ok66 H n)) hm (lh:=dendronlaw11_below_lh n) (ct:=c66 (n+1)) (dcd:=fun y=>(y.2.1)) Tryz.func66 (by kernel_rfl) (by rfl) (LHok_of (l:=[]) (by kernel_rfl) trivial) (Nat.le_of_ble_eq_true rfl) (fun _=>rfl) (fun x r h=>(dendronlaw11_below_eq n x.1 x.2.1 x.2.2.1 x.2.2.2.1).trans h)
theorem n31 {T:Told} (H:Hands T):EnvOk T Tryz.prog (envL e31):=envL_ok (l:=e31) ⟨ok14 H,ok21 H,ok66 H R0,trivial⟩
theorem dendronlaw11_Value_p3 {T:Told} (H:Hands T):PieceOk T Tryz.prog 28 (.loop (loopAt 3 (bodyOf Tryz.f31) .skip)) ⟨dendronlaw11_Value_i3,dendronlaw11_Value_o3,lp dendronlaw11_Value_s3 K0⟩ :=
 loop_piece H.ty (n31 H) hm (LHok_of (l:=[]) (by kernel_rfl) trivial) dendronlaw11_Value_l3 K0
theorem ok31 {T:Told} (H:Hands T):CtrOk T Tryz.prog 31 c31 :=
 fn_ok H.ty (n31 H) hm (lh:=dendronlaw11_Value_lh) (ct:=c31) (dcd:=fun y=>(y.2.1)) Tryz.func31 (by kernel_rfl) (by rfl) (LHok_of (l:=[(.loop (loopAt 3 (bodyOf Tryz.f31) .skip),⟨dendronlaw11_Value_i3,dendronlaw11_Value_o3,lp dendronlaw11_Value_s3 K0⟩)]) (by kernel_rfl) ⟨dendronlaw11_Value_p3 H,trivial⟩) (by decide) (fun _=>rfl) (fun x r h=>(dendronlaw11_Value_eq x.1 x.2.1 x.2.2.1).trans h)
theorem n5 {T:Told} (H:Hands T):EnvOk T Tryz.prog (envL e5):=envL_ok (l:=e5) ⟨ok10 H,ok11 H,ok25 H,ok26 H,ok27 H,ok28 H,ok29 H,ok30 H,ok31 H,trivial⟩
theorem dendronlaw25_TrimSays_p14 {T:Told} (H:Hands T):PieceOk T Tryz.prog 127 (.loop (loopAt 14 (bodyOf Tryz.f5) .skip)) ⟨dendronlaw25_TrimSays_i14,dendronlaw25_TrimSays_o14,lp dendronlaw25_TrimSays_s14 K0⟩ :=
 loop_piece H.ty (n5 H) hm (LHok_of (l:=[]) (by kernel_rfl) trivial) dendronlaw25_TrimSays_l14 K0
theorem ok5 {T:Told} (H:Hands T):CtrOk T Tryz.prog 5 c5 :=
 fn_ok H.ty (n5 H) hm (lh:=dendronlaw25_TrimSays_lh) (ct:=c5) (dcd:=fun y=>(y.2.1)) Tryz.func5 (by kernel_rfl) (by rfl) (LHok_of (l:=[(.loop (loopAt 14 (bodyOf Tryz.f5) .skip),⟨dendronlaw25_TrimSays_i14,dendronlaw25_TrimSays_o14,lp dendronlaw25_TrimSays_s14 K0⟩)]) (by kernel_rfl) ⟨dendronlaw25_TrimSays_p14 H,trivial⟩) (by decide) (fun _=>rfl) (fun x r h=>(dendronlaw25_TrimSays_eq x.1 x.2.1 x.2.2.1).trans h)
end Go.Proofs.YthcpiofmhkhbeaaGreatDoor.X
