/- Each function does what is known of it. Printed by a program of our own. -/
import Derived.Test.YtongppphgbkckaaGreatDoorLa9

namespace Go.Proofs.YtongppphgbkckaaGreatDoor.X
open Go
set_option linter.unusedSimpArgs false
set_option linter.unusedVariables false
set_option maxRecDepth 100000

theorem hm : Tryz.prog.follows .mixedOrders = true := by kernel_rfl
/-- What the printed texts do not show. -/
structure Hands (T : Told) : Prop where
  ty : TbOk Tryz.prog tb
  h140 : CtrOk T Tryz.prog 140 c140
  h151 : CtrOk T Tryz.prog 151 c151

theorem n50 {T : Told} (H : Hands T) : EnvOk T Tryz.prog (envL e50) := envL_ok (l := e50) trivial

theorem ok50 {T : Told} (H : Hands T) : CtrOk T Tryz.prog 50 c50 :=
  fn_ok H.ty (n50 H) hm (lh := dendronlaw09_number_lh) (ct := c50) (dcd := fun y => (y.2.1)) Tryz.func50 (by kernel_rfl) (by rfl) (LHok_of (l := []) (by kernel_rfl) trivial) (by decide) (fun _ => rfl) (fun x r h => (dendronlaw09_number_eq x.1).trans h)

theorem n16 {T : Told} (H : Hands T) : EnvOk T Tryz.prog (envL e16) := envL_ok (l := e16) ⟨ok50 H, trivial⟩

theorem dendronlaw09_Few_p3 {T : Told} (H : Hands T) : PieceOk T Tryz.prog 32 (.loop (loopAt 3 (bodyOf Tryz.f16) .skip)) ⟨dendronlaw09_Few_i3, dendronlaw09_Few_o3, lp dendronlaw09_Few_s3 K0⟩ :=
  loop_piece H.ty (n16 H) hm (LHok_of (l := []) (by kernel_rfl) trivial) dendronlaw09_Few_l3 K0

theorem ok16 {T : Told} (H : Hands T) : CtrOk T Tryz.prog 16 c16 :=
  fn_ok H.ty (n16 H) hm (lh := dendronlaw09_Few_lh) (ct := c16) (dcd := fun y => (y.2.1)) Tryz.func16 (by kernel_rfl) (by rfl) (LHok_of (l := [(.loop (loopAt 3 (bodyOf Tryz.f16) .skip), ⟨dendronlaw09_Few_i3, dendronlaw09_Few_o3, lp dendronlaw09_Few_s3 K0⟩)]) (by kernel_rfl) ⟨dendronlaw09_Few_p3 H, trivial⟩) (by decide) (fun _ => rfl) (fun x r h => (dendronlaw09_Few_eq x.1 x.2.1).trans h)

theorem n51 {T : Told} (H : Hands T) : EnvOk T Tryz.prog (envL e51) := envL_ok (l := e51) trivial

theorem ok51 {T : Told} (H : Hands T) : CtrOk T Tryz.prog 51 c51 :=
  fn_ok H.ty (n51 H) hm (lh := dendronlaw07_number_lh) (ct := c51) (dcd := fun y => (y.2.1)) Tryz.func51 (by kernel_rfl) (by rfl) (LHok_of (l := []) (by kernel_rfl) trivial) (by decide) (fun _ => rfl) (fun x r h => (dendronlaw07_number_eq x.1).trans h)

theorem n17 {T : Told} (H : Hands T) : EnvOk T Tryz.prog (envL e17) := envL_ok (l := e17) ⟨ok51 H, trivial⟩

theorem dendronlaw07_Few_p7 {T : Told} (H : Hands T) : PieceOk T Tryz.prog 67 (.loop (loopAt 7 (bodyOf Tryz.f17) .skip)) ⟨dendronlaw07_Few_i7, dendronlaw07_Few_o7, lp dendronlaw07_Few_s7 K0⟩ :=
  loop_piece H.ty (n17 H) hm (LHok_of (l := []) (by kernel_rfl) trivial) dendronlaw07_Few_l7 K0

theorem dendronlaw07_Few_p3 {T : Told} (H : Hands T) : PieceOk T Tryz.prog 67 (.loop (loopAt 3 (bodyOf Tryz.f17) .skip)) ⟨dendronlaw07_Few_i3, dendronlaw07_Few_o3, lp dendronlaw07_Few_s3 K0⟩ :=
  loop_piece H.ty (n17 H) hm (LHok_of (l := [(.loop (loopAt 7 (bodyOf Tryz.f17) .skip), ⟨dendronlaw07_Few_i7, dendronlaw07_Few_o7, lp dendronlaw07_Few_s7 K0⟩)]) (by kernel_rfl) ⟨dendronlaw07_Few_p7 H, trivial⟩) dendronlaw07_Few_l3 K0

theorem ok17 {T : Told} (H : Hands T) : CtrOk T Tryz.prog 17 c17 :=
  fn_ok H.ty (n17 H) hm (lh := dendronlaw07_Few_lh) (ct := c17) (dcd := fun y => (y.2.1)) Tryz.func17 (by kernel_rfl) (by rfl) (LHok_of (l := [(.loop (loopAt 3 (bodyOf Tryz.f17) .skip), ⟨dendronlaw07_Few_i3, dendronlaw07_Few_o3, lp dendronlaw07_Few_s3 K0⟩)]) (by kernel_rfl) ⟨dendronlaw07_Few_p3 H, trivial⟩) (by decide) (fun _ => rfl) (fun x r h => (dendronlaw07_Few_eq x.1).trans h)

theorem n10 {T : Told} (H : Hands T) : EnvOk T Tryz.prog (envL e10) := envL_ok (l := e10) ⟨ok16 H, ok17 H, trivial⟩

theorem ok10 {T : Told} (H : Hands T) : CtrOk T Tryz.prog 10 c10 :=
  fn_ok H.ty (n10 H) hm (lh := dendronlaw11_Small_lh) (ct := c10) (dcd := fun y => (y.2.1, y.2.2.1)) Tryz.func10 (by kernel_rfl) (by rfl) (LHok_of (l := []) (by kernel_rfl) trivial) (by decide) (fun _ => rfl) (fun x r h => (dendronlaw11_Small_eq x.1 x.2.1).trans h)

theorem n115 {T : Told} (H : Hands T) : EnvOk T Tryz.prog (envL e115) := envL_ok (l := e115) trivial

theorem model_Fits_p9 {T : Told} (H : Hands T) : PieceOk T Tryz.prog 72 (.loop (loopAt 9 (bodyOf Tryz.f115) .skip)) ⟨model_Fits_i9, model_Fits_o9, lp model_Fits_s9 K0⟩ :=
  loop_piece H.ty (n115 H) hm (LHok_of (l := []) (by kernel_rfl) trivial) model_Fits_l9 K0

theorem model_Fits_p4 {T : Told} (H : Hands T) : PieceOk T Tryz.prog 72 (.loop (loopAt 4 (bodyOf Tryz.f115) .skip)) ⟨model_Fits_i4, model_Fits_o4, lp model_Fits_s4 K0⟩ :=
  loop_piece H.ty (n115 H) hm (LHok_of (l := [(.loop (loopAt 9 (bodyOf Tryz.f115) .skip), ⟨model_Fits_i9, model_Fits_o9, lp model_Fits_s9 K0⟩)]) (by kernel_rfl) ⟨model_Fits_p9 H, trivial⟩) model_Fits_l4 K0

theorem ok115 {T : Told} (H : Hands T) : CtrOk T Tryz.prog 115 c115 :=
  fn_ok H.ty (n115 H) hm (lh := model_Fits_lh) (ct := c115) (dcd := fun y => (y.2.1)) Tryz.func115 (by kernel_rfl) (by rfl) (LHok_of (l := [(.loop (loopAt 4 (bodyOf Tryz.f115) .skip), ⟨model_Fits_i4, model_Fits_o4, lp model_Fits_s4 K0⟩)]) (by kernel_rfl) ⟨model_Fits_p4 H, trivial⟩) (by decide) (fun _ => rfl) (fun x r h => (model_Fits_eq x.1).trans h)

theorem n116 {T : Told} (H : Hands T) : EnvOk T Tryz.prog (envL e116) := envL_ok (l := e116) trivial

theorem valid_ranges_p2 {T : Told} (H : Hands T) : PieceOk T Tryz.prog 52 (.loop (loopAt 2 (bodyOf Tryz.f116) .skip)) ⟨valid_ranges_i2, valid_ranges_o2, lp valid_ranges_s2 K0⟩ :=
  loop_piece H.ty (n116 H) hm (LHok_of (l := []) (by kernel_rfl) trivial) valid_ranges_l2 K0

theorem ok116 {T : Told} (H : Hands T) : CtrOk T Tryz.prog 116 c116 :=
  fn_ok H.ty (n116 H) hm (lh := valid_ranges_lh) (ct := c116) (dcd := fun y => (y.2.1, y.2.2.1)) Tryz.func116 (by kernel_rfl) (by rfl) (LHok_of (l := [(.loop (loopAt 2 (bodyOf Tryz.f116) .skip), ⟨valid_ranges_i2, valid_ranges_o2, lp valid_ranges_s2 K0⟩)]) (by kernel_rfl) ⟨valid_ranges_p2 H, trivial⟩) (by decide) (fun _ => rfl) (fun x r h => (valid_ranges_eq x.1 x.2.1).trans h)

theorem n117 {T : Told} (H : Hands T) : EnvOk T Tryz.prog (envL e117) := envL_ok (l := e117) trivial

theorem valid_shape_p3 {T : Told} (H : Hands T) : PieceOk T Tryz.prog 103 (.loop (loopAt 3 (bodyOf Tryz.f117) .skip)) ⟨valid_shape_i3, valid_shape_o3, lp valid_shape_s3 K0⟩ :=
  loop_piece H.ty (n117 H) hm (LHok_of (l := []) (by kernel_rfl) trivial) valid_shape_l3 K0

theorem valid_shape_p10 {T : Told} (H : Hands T) : PieceOk T Tryz.prog 103 (.loop (loopAt 10 (bodyOf Tryz.f117) .skip)) ⟨valid_shape_i10, valid_shape_o10, lp valid_shape_s10 K0⟩ :=
  loop_piece H.ty (n117 H) hm (LHok_of (l := []) (by kernel_rfl) trivial) valid_shape_l10 K0

theorem valid_shape_p17 {T : Told} (H : Hands T) : PieceOk T Tryz.prog 103 (.loop (loopAt 17 (bodyOf Tryz.f117) .skip)) ⟨valid_shape_i17, valid_shape_o17, lp valid_shape_s17 K0⟩ :=
  loop_piece H.ty (n117 H) hm (LHok_of (l := []) (by kernel_rfl) trivial) valid_shape_l17 K0

theorem valid_shape_p25 {T : Told} (H : Hands T) : PieceOk T Tryz.prog 103 (.loop (loopAt 25 (bodyOf Tryz.f117) .skip)) ⟨valid_shape_i25, valid_shape_o25, lp valid_shape_s25 K0⟩ :=
  loop_piece H.ty (n117 H) hm (LHok_of (l := []) (by kernel_rfl) trivial) valid_shape_l25 K0

theorem ok117 {T : Told} (H : Hands T) : CtrOk T Tryz.prog 117 c117 :=
  fn_ok H.ty (n117 H) hm (lh := valid_shape_lh) (ct := c117) (dcd := fun y => (y.2.1, y.2.2.1)) Tryz.func117 (by kernel_rfl) (by rfl) (LHok_of (l := [(.loop (loopAt 3 (bodyOf Tryz.f117) .skip), ⟨valid_shape_i3, valid_shape_o3, lp valid_shape_s3 K0⟩), (.loop (loopAt 10 (bodyOf Tryz.f117) .skip), ⟨valid_shape_i10, valid_shape_o10, lp valid_shape_s10 K0⟩), (.loop (loopAt 17 (bodyOf Tryz.f117) .skip), ⟨valid_shape_i17, valid_shape_o17, lp valid_shape_s17 K0⟩), (.loop (loopAt 25 (bodyOf Tryz.f117) .skip), ⟨valid_shape_i25, valid_shape_o25, lp valid_shape_s25 K0⟩)]) (by kernel_rfl) ⟨valid_shape_p3 H, valid_shape_p10 H, valid_shape_p17 H, valid_shape_p25 H, trivial⟩) (by decide) (fun _ => rfl) (fun x r h => (valid_shape_eq x.1).trans h)

theorem n97 {T : Told} (H : Hands T) : EnvOk T Tryz.prog (envL e97) := envL_ok (l := e97) trivial

theorem nat_trim_p2 {T : Told} (H : Hands T) : PieceOk T Tryz.prog 23 (.loop (loopAt 2 (bodyOf Tryz.f97) .skip)) ⟨nat_trim_i2, nat_trim_o2, lp nat_trim_s2 K0⟩ :=
  loop_piece H.ty (n97 H) hm (LHok_of (l := []) (by kernel_rfl) trivial) nat_trim_l2 K0

theorem ok97 {T : Told} (H : Hands T) : CtrOk T Tryz.prog 97 c97 :=
  fn_ok H.ty (n97 H) hm (lh := nat_trim_lh) (ct := c97) (dcd := fun y => (y.2.1)) Tryz.func97 (by kernel_rfl) (by rfl) (LHok_of (l := [(.loop (loopAt 2 (bodyOf Tryz.f97) .skip), ⟨nat_trim_i2, nat_trim_o2, lp nat_trim_s2 K0⟩)]) (by kernel_rfl) ⟨nat_trim_p2 H, trivial⟩) (by decide) (fun _ => rfl) (fun x r h => (nat_trim_eq x.1).trans h)

theorem n58 {T : Told} (H : Hands T) : EnvOk T Tryz.prog (envL e58) := envL_ok (l := e58) ⟨ok97 H, trivial⟩

theorem ok58 {T : Told} (H : Hands T) : CtrOk T Tryz.prog 58 c58 :=
  fn_ok H.ty (n58 H) hm (lh := nat_Of_lh) (ct := c58) (dcd := fun y => (y.2.1)) Tryz.func58 (by kernel_rfl) (by rfl) (LHok_of (l := []) (by kernel_rfl) trivial) (by decide) (fun _ => rfl) (fun x r h => (nat_Of_eq x.1).trans h)

theorem n23 {T : Told} (H : Hands T) : EnvOk T Tryz.prog (envL e23) := envL_ok (l := e23) ⟨ok58 H, trivial⟩

theorem ok23 {T : Told} (H : Hands T) : CtrOk T Tryz.prog 23 c23 :=
  fn_ok H.ty (n23 H) hm (lh := ratio_Zero_lh) (ct := c23) (dcd := fun y => (y.2.1)) Tryz.func23 (by kernel_rfl) (by rfl) (LHok_of (l := []) (by kernel_rfl) trivial) (by decide) (fun _ => rfl) (fun x r h => (ratio_Zero_eq ).trans h)

theorem n95 {T : Told} (H : Hands T) : EnvOk T Tryz.prog (envL e95) := envL_ok (l := e95) ⟨ok97 H, trivial⟩

theorem nat_Clean_p3 {T : Told} (H : Hands T) : PieceOk T Tryz.prog 24 (.loop (loopAt 3 (bodyOf Tryz.f95) .skip)) ⟨nat_Clean_i3, nat_Clean_o3, lp nat_Clean_s3 K0⟩ :=
  loop_piece H.ty (n95 H) hm (LHok_of (l := []) (by kernel_rfl) trivial) nat_Clean_l3 K0

theorem ok95 {T : Told} (H : Hands T) : CtrOk T Tryz.prog 95 c95 :=
  fn_ok H.ty (n95 H) hm (lh := nat_Clean_lh) (ct := c95) (dcd := fun y => (y.2.1)) Tryz.func95 (by kernel_rfl) (by rfl) (LHok_of (l := [(.loop (loopAt 3 (bodyOf Tryz.f95) .skip), ⟨nat_Clean_i3, nat_Clean_o3, lp nat_Clean_s3 K0⟩)]) (by kernel_rfl) ⟨nat_Clean_p3 H, trivial⟩) (by decide) (fun _ => rfl) (fun x r h => (nat_Clean_eq x.1).trans h)

theorem n139 {T : Told} (H : Hands T) : EnvOk T Tryz.prog (envL e139) := envL_ok (l := e139) ⟨ok95 H, trivial⟩

theorem ok139 {T : Told} (H : Hands T) : CtrOk T Tryz.prog 139 c139 :=
  fn_ok H.ty (n139 H) hm (lh := nat_To_lh) (ct := c139) (dcd := fun y => (y.2.1, y.2.2.1)) Tryz.func139 (by kernel_rfl) (by rfl) (LHok_of (l := []) (by kernel_rfl) trivial) (by decide) (fun _ => rfl) (fun x r h => (nat_To_eq x.1).trans h)

theorem n102 {T : Told} (H : Hands T) : EnvOk T Tryz.prog (envL e102) := envL_ok (l := e102) ⟨ok58 H, ok139 H, trivial⟩

theorem nat_euclid_p3 {T : Told} (H : Hands T) : PieceOk T Tryz.prog 27 (.loop (loopAt 3 (bodyOf Tryz.f102) .skip)) ⟨nat_euclid_i3, nat_euclid_o3, lp nat_euclid_s3 K0⟩ :=
  loop_piece H.ty (n102 H) hm (LHok_of (l := []) (by kernel_rfl) trivial) nat_euclid_l3 K0

theorem ok102 {T : Told} (H : Hands T) : CtrOk T Tryz.prog 102 c102 :=
  fn_ok H.ty (n102 H) hm (lh := nat_euclid_lh) (ct := c102) (dcd := fun y => (y.2.1)) Tryz.func102 (by kernel_rfl) (by rfl) (LHok_of (l := [(.loop (loopAt 3 (bodyOf Tryz.f102) .skip), ⟨nat_euclid_i3, nat_euclid_o3, lp nat_euclid_s3 K0⟩)]) (by kernel_rfl) ⟨nat_euclid_p3 H, trivial⟩) (by decide) (fun _ => rfl) (fun x r h => (nat_euclid_eq x.1 x.2.1).trans h)

theorem n103 {T : Told} (H : Hands T) : EnvOk T Tryz.prog (envL e103) := envL_ok (l := e103) ⟨H.h140, trivial⟩

theorem nat_zeros_p3 {T : Told} (H : Hands T) : PieceOk T Tryz.prog 24 (.loop (loopAt 3 (bodyOf Tryz.f103) .skip)) ⟨nat_zeros_i3, nat_zeros_o3, lp nat_zeros_s3 K0⟩ :=
  loop_piece H.ty (n103 H) hm (LHok_of (l := []) (by kernel_rfl) trivial) nat_zeros_l3 K0

theorem ok103 {T : Told} (H : Hands T) : CtrOk T Tryz.prog 103 c103 :=
  fn_ok H.ty (n103 H) hm (lh := nat_zeros_lh) (ct := c103) (dcd := fun y => (y.2.1)) Tryz.func103 (by kernel_rfl) (by rfl) (LHok_of (l := [(.loop (loopAt 3 (bodyOf Tryz.f103) .skip), ⟨nat_zeros_i3, nat_zeros_o3, lp nat_zeros_s3 K0⟩)]) (by kernel_rfl) ⟨nat_zeros_p3 H, trivial⟩) (by decide) (fun _ => rfl) (fun x r h => (nat_zeros_eq x.1).trans h)

theorem n138 {T : Told} (H : Hands T) : EnvOk T Tryz.prog (envL e138) := envL_ok (l := e138) trivial

theorem ok138 {T : Told} (H : Hands T) : CtrOk T Tryz.prog 138 c138 :=
  fn_ok H.ty (n138 H) hm (lh := nat_limb_lh) (ct := c138) (dcd := fun y => (y.2.1)) Tryz.func138 (by kernel_rfl) (by rfl) (LHok_of (l := []) (by kernel_rfl) trivial) (by decide) (fun _ => rfl) (fun x r h => (nat_limb_eq x.1 x.2.1).trans h)

theorem n104 {T : Told} (H : Hands T) : EnvOk T Tryz.prog (envL e104) := envL_ok (l := e104) ⟨ok97 H, ok138 H, trivial⟩

theorem nat_shr_p6 {T : Told} (H : Hands T) : PieceOk T Tryz.prog 50 (.loop (loopAt 6 (bodyOf Tryz.f104) .skip)) ⟨nat_shr_i6, nat_shr_o6, lp nat_shr_s6 K0⟩ :=
  loop_piece H.ty (n104 H) hm (LHok_of (l := []) (by kernel_rfl) trivial) nat_shr_l6 K0

theorem ok104 {T : Told} (H : Hands T) : CtrOk T Tryz.prog 104 c104 :=
  fn_ok H.ty (n104 H) hm (lh := nat_shr_lh) (ct := c104) (dcd := fun y => (y.2.1)) Tryz.func104 (by kernel_rfl) (by rfl) (LHok_of (l := [(.loop (loopAt 6 (bodyOf Tryz.f104) .skip), ⟨nat_shr_i6, nat_shr_o6, lp nat_shr_s6 K0⟩)]) (by kernel_rfl) ⟨nat_shr_p6 H, trivial⟩) (by decide) (fun _ => rfl) (fun x r h => (nat_shr_eq x.1 x.2.1).trans h)

theorem n105 {T : Told} (H : Hands T) : EnvOk T Tryz.prog (envL e105) := envL_ok (l := e105) trivial

theorem nat_order_p6 {T : Told} (H : Hands T) : PieceOk T Tryz.prog 45 (.loop (loopAt 6 (bodyOf Tryz.f105) .skip)) ⟨nat_order_i6, nat_order_o6, lp nat_order_s6 K0⟩ :=
  loop_piece H.ty (n105 H) hm (LHok_of (l := []) (by kernel_rfl) trivial) nat_order_l6 K0

theorem ok105 {T : Told} (H : Hands T) : CtrOk T Tryz.prog 105 c105 :=
  fn_ok H.ty (n105 H) hm (lh := nat_order_lh) (ct := c105) (dcd := fun y => (y.2.1)) Tryz.func105 (by kernel_rfl) (by rfl) (LHok_of (l := [(.loop (loopAt 6 (bodyOf Tryz.f105) .skip), ⟨nat_order_i6, nat_order_o6, lp nat_order_s6 K0⟩)]) (by kernel_rfl) ⟨nat_order_p6 H, trivial⟩) (by decide) (fun _ => rfl) (fun x r h => (nat_order_eq x.1 x.2.1).trans h)

theorem n106 {T : Told} (H : Hands T) : EnvOk T Tryz.prog (envL e106) := envL_ok (l := e106) ⟨ok97 H, trivial⟩

theorem nat_shl_p4 {T : Told} (H : Hands T) : PieceOk T Tryz.prog 51 (.loop (loopAt 4 (bodyOf Tryz.f106) .skip)) ⟨nat_shl_i4, nat_shl_o4, lp nat_shl_s4 K0⟩ :=
  loop_piece H.ty (n106 H) hm (LHok_of (l := []) (by kernel_rfl) trivial) nat_shl_l4 K0

theorem ok106 {T : Told} (H : Hands T) : CtrOk T Tryz.prog 106 c106 :=
  fn_ok H.ty (n106 H) hm (lh := nat_shl_lh) (ct := c106) (dcd := fun y => (y.2.1)) Tryz.func106 (by kernel_rfl) (by rfl) (LHok_of (l := [(.loop (loopAt 4 (bodyOf Tryz.f106) .skip), ⟨nat_shl_i4, nat_shl_o4, lp nat_shl_s4 K0⟩)]) (by kernel_rfl) ⟨nat_shl_p4 H, trivial⟩) (by decide) (fun _ => rfl) (fun x r h => (nat_shl_eq x.1 x.2.1).trans h)

theorem n136 {T : Told} (H : Hands T) : EnvOk T Tryz.prog (envL e136) := envL_ok (l := e136) ⟨ok97 H, trivial⟩

theorem nat_small_p4 {T : Told} (H : Hands T) : PieceOk T Tryz.prog 38 (.loop (loopAt 4 (bodyOf Tryz.f136) .skip)) ⟨nat_small_i4, nat_small_o4, lp nat_small_s4 K0⟩ :=
  loop_piece H.ty (n136 H) hm (LHok_of (l := []) (by kernel_rfl) trivial) nat_small_l4 K0

theorem ok136 {T : Told} (H : Hands T) : CtrOk T Tryz.prog 136 c136 :=
  fn_ok H.ty (n136 H) hm (lh := nat_small_lh) (ct := c136) (dcd := fun y => (y.2.1, y.2.2.1)) Tryz.func136 (by kernel_rfl) (by rfl) (LHok_of (l := [(.loop (loopAt 4 (bodyOf Tryz.f136) .skip), ⟨nat_small_i4, nat_small_o4, lp nat_small_s4 K0⟩)]) (by kernel_rfl) ⟨nat_small_p4 H, trivial⟩) (by decide) (fun _ => rfl) (fun x r h => (nat_small_eq x.1 x.2.1).trans h)

theorem n148 {T : Told} (H : Hands T) : EnvOk T Tryz.prog (envL e148) := envL_ok (l := e148) ⟨H.h151, trivial⟩

theorem ok148 {T : Told} (H : Hands T) : CtrOk T Tryz.prog 148 c148 :=
  fn_ok H.ty (n148 H) hm (lh := bits_LeadingZeros32_lh) (ct := c148) (dcd := fun y => (y.2.1)) Tryz.func148 (by kernel_rfl) (by rfl) (LHok_of (l := []) (by kernel_rfl) trivial) (by decide) (fun _ => rfl) (fun x r h => (bits_LeadingZeros32_eq x.1).trans h)

theorem n152 {T : Told} (H : Hands T) : EnvOk T Tryz.prog (envL e152) := envL_ok (l := e152) ⟨ok138 H, trivial⟩

theorem nat_take_p3 {T : Told} (H : Hands T) : PieceOk T Tryz.prog 46 (.loop (loopAt 3 (bodyOf Tryz.f152) .skip)) ⟨nat_take_i3, nat_take_o3, lp nat_take_s3 K0⟩ :=
  loop_piece H.ty (n152 H) hm (LHok_of (l := []) (by kernel_rfl) trivial) nat_take_l3 K0

theorem ok152 {T : Told} (H : Hands T) : CtrOk T Tryz.prog 152 c152 :=
  fn_ok H.ty (n152 H) hm (lh := nat_take_lh) (ct := c152) (dcd := fun y => (y.1.1, y.2.1)) Tryz.func152 (by kernel_rfl) (by rfl) (LHok_of (l := [(.loop (loopAt 3 (bodyOf Tryz.f152) .skip), ⟨nat_take_i3, nat_take_o3, lp nat_take_s3 K0⟩)]) (by kernel_rfl) ⟨nat_take_p3 H, trivial⟩) (by decide) (fun _ => rfl) (fun x r h => (nat_take_eq x.1 x.2.1 x.2.2.1).trans h)

theorem n153 {T : Told} (H : Hands T) : EnvOk T Tryz.prog (envL e153) := envL_ok (l := e153) ⟨ok138 H, trivial⟩

theorem nat_give_p2 {T : Told} (H : Hands T) : PieceOk T Tryz.prog 29 (.loop (loopAt 2 (bodyOf Tryz.f153) .skip)) ⟨nat_give_i2, nat_give_o2, lp nat_give_s2 K0⟩ :=
  loop_piece H.ty (n153 H) hm (LHok_of (l := []) (by kernel_rfl) trivial) nat_give_l2 K0

theorem ok153 {T : Told} (H : Hands T) : CtrOk T Tryz.prog 153 c153 :=
  fn_ok H.ty (n153 H) hm (lh := nat_give_lh) (ct := c153) (dcd := fun y => (y.1.1)) Tryz.func153 (by kernel_rfl) (by rfl) (LHok_of (l := [(.loop (loopAt 2 (bodyOf Tryz.f153) .skip), ⟨nat_give_i2, nat_give_o2, lp nat_give_s2 K0⟩)]) (by kernel_rfl) ⟨nat_give_p2 H, trivial⟩) (by decide) (fun _ => rfl) (fun x r h => (nat_give_eq x.1 x.2.1).trans h)

theorem n149 {T : Told} (H : Hands T) : EnvOk T Tryz.prog (envL e149) := envL_ok (l := e149) ⟨ok152 H, ok153 H, trivial⟩

theorem nat_digit_p4 {T : Told} (H : Hands T) : PieceOk T Tryz.prog 77 (.loop (loopAt 4 (bodyOf Tryz.f149) .skip)) ⟨nat_digit_i4, nat_digit_o4, lp nat_digit_s4 K0⟩ :=
  loop_piece H.ty (n149 H) hm (LHok_of (l := []) (by kernel_rfl) trivial) nat_digit_l4 K0

theorem ok149 {T : Told} (H : Hands T) : CtrOk T Tryz.prog 149 c149 :=
  fn_ok H.ty (n149 H) hm (lh := nat_digit_lh) (ct := c149) (dcd := fun y => (y.1.1, y.2.1)) Tryz.func149 (by kernel_rfl) (by rfl) (LHok_of (l := [(.loop (loopAt 4 (bodyOf Tryz.f149) .skip), ⟨nat_digit_i4, nat_digit_o4, lp nat_digit_s4 K0⟩)]) (by kernel_rfl) ⟨nat_digit_p4 H, trivial⟩) (by decide) (fun _ => rfl) (fun x r h => (nat_digit_eq x.1 x.2.1).trans h)

theorem n137 {T : Told} (H : Hands T) : EnvOk T Tryz.prog (envL e137) := envL_ok (l := e137) ⟨ok97 H, ok104 H, ok106 H, ok148 H, ok149 H, trivial⟩

theorem nat_long_p7 {T : Told} (H : Hands T) : PieceOk T Tryz.prog 64 (.loop (loopAt 7 (bodyOf Tryz.f137) .skip)) ⟨nat_long_i7, nat_long_o7, lp nat_long_s7 K0⟩ :=
  loop_piece H.ty (n137 H) hm (LHok_of (l := []) (by kernel_rfl) trivial) nat_long_l7 K0

theorem ok137 {T : Told} (H : Hands T) : CtrOk T Tryz.prog 137 c137 :=
  fn_ok H.ty (n137 H) hm (lh := nat_long_lh) (ct := c137) (dcd := fun y => (y.2.1, y.2.2.1)) Tryz.func137 (by kernel_rfl) (by rfl) (LHok_of (l := [(.loop (loopAt 7 (bodyOf Tryz.f137) .skip), ⟨nat_long_i7, nat_long_o7, lp nat_long_s7 K0⟩)]) (by kernel_rfl) ⟨nat_long_p7 H, trivial⟩) (by decide) (fun _ => rfl) (fun x r h => (nat_long_eq x.1 x.2.1).trans h)

theorem n98 {T : Told} (H : Hands T) : EnvOk T Tryz.prog (envL e98) := envL_ok (l := e98) ⟨ok58 H, ok95 H, ok105 H, ok136 H, ok137 H, trivial⟩

theorem ok98 {T : Told} (H : Hands T) : CtrOk T Tryz.prog 98 c98 :=
  fn_ok H.ty (n98 H) hm (lh := nat_DivMod_lh) (ct := c98) (dcd := fun y => (y.2.1, y.2.2.1, y.2.2.2.1)) Tryz.func98 (by kernel_rfl) (by rfl) (LHok_of (l := []) (by kernel_rfl) trivial) (by decide) (fun _ => rfl) (fun x r h => (nat_DivMod_eq x.1 x.2.1).trans h)

theorem n107 {T : Told} (H : Hands T) : EnvOk T Tryz.prog (envL e107) := envL_ok (l := e107) ⟨ok98 H, trivial⟩

theorem ok107 {T : Told} (H : Hands T) : CtrOk T Tryz.prog 107 c107 :=
  fn_ok H.ty (n107 H) hm (lh := nat_rest_lh) (ct := c107) (dcd := fun y => (y.2.1, y.2.2.1)) Tryz.func107 (by kernel_rfl) (by rfl) (LHok_of (l := []) (by kernel_rfl) trivial) (by decide) (fun _ => rfl) (fun x r h => (nat_rest_eq x.1 x.2.1).trans h)

theorem n108 {T : Told} (H : Hands T) : EnvOk T Tryz.prog (envL e108) := envL_ok (l := e108) ⟨ok97 H, ok138 H, trivial⟩

theorem nat_minus_p4 {T : Told} (H : Hands T) : PieceOk T Tryz.prog 39 (.loop (loopAt 4 (bodyOf Tryz.f108) .skip)) ⟨nat_minus_i4, nat_minus_o4, lp nat_minus_s4 K0⟩ :=
  loop_piece H.ty (n108 H) hm (LHok_of (l := []) (by kernel_rfl) trivial) nat_minus_l4 K0

theorem ok108 {T : Told} (H : Hands T) : CtrOk T Tryz.prog 108 c108 :=
  fn_ok H.ty (n108 H) hm (lh := nat_minus_lh) (ct := c108) (dcd := fun y => (y.2.1)) Tryz.func108 (by kernel_rfl) (by rfl) (LHok_of (l := [(.loop (loopAt 4 (bodyOf Tryz.f108) .skip), ⟨nat_minus_i4, nat_minus_o4, lp nat_minus_s4 K0⟩)]) (by kernel_rfl) ⟨nat_minus_p4 H, trivial⟩) (by decide) (fun _ => rfl) (fun x r h => (nat_minus_eq x.1 x.2.1).trans h)

theorem n66 {T : Told} (H : Hands T) : EnvOk T Tryz.prog (envL e66) := envL_ok (l := e66) ⟨ok95 H, ok102 H, ok103 H, ok104 H, ok105 H, ok106 H, ok107 H, ok108 H, trivial⟩

theorem nat_Gcd_p10 {T : Told} (H : Hands T) : PieceOk T Tryz.prog 86 (.loop (loopAt 10 (bodyOf Tryz.f66) .skip)) ⟨nat_Gcd_i10, nat_Gcd_o10, lp nat_Gcd_s10 K0⟩ :=
  loop_piece H.ty (n66 H) hm (LHok_of (l := []) (by kernel_rfl) trivial) nat_Gcd_l10 K0

theorem ok66 {T : Told} (H : Hands T) : CtrOk T Tryz.prog 66 c66 :=
  fn_ok H.ty (n66 H) hm (lh := nat_Gcd_lh) (ct := c66) (dcd := fun y => (y.2.1)) Tryz.func66 (by kernel_rfl) (by rfl) (LHok_of (l := [(.loop (loopAt 10 (bodyOf Tryz.f66) .skip), ⟨nat_Gcd_i10, nat_Gcd_o10, lp nat_Gcd_s10 K0⟩)]) (by kernel_rfl) ⟨nat_Gcd_p10 H, trivial⟩) (by decide) (fun _ => rfl) (fun x r h => (nat_Gcd_eq x.1 x.2.1).trans h)

theorem n59 {T : Told} (H : Hands T) : EnvOk T Tryz.prog (envL e59) := envL_ok (l := e59) ⟨ok58 H, ok66 H, ok98 H, trivial⟩

theorem ok59 {T : Told} (H : Hands T) : CtrOk T Tryz.prog 59 c59 :=
  fn_ok H.ty (n59 H) hm (lh := ratio_form_lh) (ct := c59) (dcd := fun y => (y.2.1)) Tryz.func59 (by kernel_rfl) (by rfl) (LHok_of (l := []) (by kernel_rfl) trivial) (by decide) (fun _ => rfl) (fun x r h => (ratio_form_eq x.1 x.2.1).trans h)

theorem n99 {T : Told} (H : Hands T) : EnvOk T Tryz.prog (envL e99) := envL_ok (l := e99) trivial

theorem ok99 {T : Told} (H : Hands T) : CtrOk T Tryz.prog 99 c99 :=
  fn_ok H.ty (n99 H) hm (lh := whole_sign_lh) (ct := c99) (dcd := fun y => (y.2.1)) Tryz.func99 (by kernel_rfl) (by rfl) (LHok_of (l := []) (by kernel_rfl) trivial) (by decide) (fun _ => rfl) (fun x r h => (whole_sign_eq x.1 x.2.1).trans h)

theorem n96 {T : Told} (H : Hands T) : EnvOk T Tryz.prog (envL e96) := envL_ok (l := e96) ⟨ok95 H, ok99 H, trivial⟩

theorem ok96 {T : Told} (H : Hands T) : CtrOk T Tryz.prog 96 c96 :=
  fn_ok H.ty (n96 H) hm (lh := whole_Clean_lh) (ct := c96) (dcd := fun y => (y.2.1)) Tryz.func96 (by kernel_rfl) (by rfl) (LHok_of (l := []) (by kernel_rfl) trivial) (by decide) (fun _ => rfl) (fun x r h => (whole_Clean_eq x.1).trans h)

theorem n56 {T : Told} (H : Hands T) : EnvOk T Tryz.prog (envL e56) := envL_ok (l := e56) ⟨ok23 H, ok59 H, ok95 H, ok96 H, trivial⟩

theorem ok56 {T : Told} (H : Hands T) : CtrOk T Tryz.prog 56 c56 :=
  fn_ok H.ty (n56 H) hm (lh := ratio_Clean_lh) (ct := c56) (dcd := fun y => (y.2.1)) Tryz.func56 (by kernel_rfl) (by rfl) (LHok_of (l := []) (by kernel_rfl) trivial) (by decide) (fun _ => rfl) (fun x r h => (ratio_Clean_eq x.1).trans h)

theorem n122 {T : Told} (H : Hands T) : EnvOk T Tryz.prog (envL e122) := envL_ok (l := e122) ⟨ok96 H, trivial⟩

theorem ok122 {T : Told} (H : Hands T) : CtrOk T Tryz.prog 122 c122 :=
  fn_ok H.ty (n122 H) hm (lh := whole_Sign_lh) (ct := c122) (dcd := fun y => (y.2.1)) Tryz.func122 (by kernel_rfl) (by rfl) (LHok_of (l := []) (by kernel_rfl) trivial) (by decide) (fun _ => rfl) (fun x r h => (whole_Sign_eq x.1).trans h)

theorem n144 {T : Told} (H : Hands T) : EnvOk T Tryz.prog (envL e144) := envL_ok (l := e144) ⟨ok56 H, ok122 H, trivial⟩

theorem ok144 {T : Told} (H : Hands T) : CtrOk T Tryz.prog 144 c144 :=
  fn_ok H.ty (n144 H) hm (lh := ratio_Sign_lh) (ct := c144) (dcd := fun y => (y.2.1)) Tryz.func144 (by kernel_rfl) (by rfl) (LHok_of (l := []) (by kernel_rfl) trivial) (by decide) (fun _ => rfl) (fun x r h => (ratio_Sign_eq x.1).trans h)

theorem n118 {T : Told} (H : Hands T) : EnvOk T Tryz.prog (envL e118) := envL_ok (l := e118) ⟨ok144 H, trivial⟩

theorem valid_covers_p2 {T : Told} (H : Hands T) : PieceOk T Tryz.prog 19 (.loop (loopAt 2 (bodyOf Tryz.f118) .skip)) ⟨valid_covers_i2, valid_covers_o2, lp valid_covers_s2 K0⟩ :=
  loop_piece H.ty (n118 H) hm (LHok_of (l := []) (by kernel_rfl) trivial) valid_covers_l2 K0

theorem ok118 {T : Told} (H : Hands T) : CtrOk T Tryz.prog 118 c118 :=
  fn_ok H.ty (n118 H) hm (lh := valid_covers_lh) (ct := c118) (dcd := fun y => (y.2.1, y.2.2.1)) Tryz.func118 (by kernel_rfl) (by rfl) (LHok_of (l := [(.loop (loopAt 2 (bodyOf Tryz.f118) .skip), ⟨valid_covers_i2, valid_covers_o2, lp valid_covers_s2 K0⟩)]) (by kernel_rfl) ⟨valid_covers_p2 H, trivial⟩) (by decide) (fun _ => rfl) (fun x r h => (valid_covers_eq x.1).trans h)

theorem n67 {T : Told} (H : Hands T) : EnvOk T Tryz.prog (envL e67) := envL_ok (l := e67) ⟨ok95 H, ok105 H, trivial⟩

theorem ok67 {T : Told} (H : Hands T) : CtrOk T Tryz.prog 67 c67 :=
  fn_ok H.ty (n67 H) hm (lh := nat_Cmp_lh) (ct := c67) (dcd := fun y => (y.2.1)) Tryz.func67 (by kernel_rfl) (by rfl) (LHok_of (l := []) (by kernel_rfl) trivial) (by decide) (fun _ => rfl) (fun x r h => (nat_Cmp_eq x.1 x.2.1).trans h)

theorem n100 {T : Told} (H : Hands T) : EnvOk T Tryz.prog (envL e100) := envL_ok (l := e100) ⟨ok95 H, ok97 H, ok138 H, trivial⟩

theorem nat_Add_p5 {T : Told} (H : Hands T) : PieceOk T Tryz.prog 43 (.loop (loopAt 5 (bodyOf Tryz.f100) .skip)) ⟨nat_Add_i5, nat_Add_o5, lp nat_Add_s5 K0⟩ :=
  loop_piece H.ty (n100 H) hm (LHok_of (l := []) (by kernel_rfl) trivial) nat_Add_l5 K0

theorem ok100 {T : Told} (H : Hands T) : CtrOk T Tryz.prog 100 c100 :=
  fn_ok H.ty (n100 H) hm (lh := nat_Add_lh) (ct := c100) (dcd := fun y => (y.2.1)) Tryz.func100 (by kernel_rfl) (by rfl) (LHok_of (l := [(.loop (loopAt 5 (bodyOf Tryz.f100) .skip), ⟨nat_Add_i5, nat_Add_o5, lp nat_Add_s5 K0⟩)]) (by kernel_rfl) ⟨nat_Add_p5 H, trivial⟩) (by decide) (fun _ => rfl) (fun x r h => (nat_Add_eq x.1 x.2.1).trans h)

theorem n101 {T : Told} (H : Hands T) : EnvOk T Tryz.prog (envL e101) := envL_ok (l := e101) ⟨ok95 H, ok105 H, ok108 H, trivial⟩

theorem ok101 {T : Told} (H : Hands T) : CtrOk T Tryz.prog 101 c101 :=
  fn_ok H.ty (n101 H) hm (lh := nat_Sub_lh) (ct := c101) (dcd := fun y => (y.2.1, y.2.2.1)) Tryz.func101 (by kernel_rfl) (by rfl) (LHok_of (l := []) (by kernel_rfl) trivial) (by decide) (fun _ => rfl) (fun x r h => (nat_Sub_eq x.1 x.2.1).trans h)

theorem n60 {T : Told} (H : Hands T) : EnvOk T Tryz.prog (envL e60) := envL_ok (l := e60) ⟨ok67 H, ok96 H, ok99 H, ok100 H, ok101 H, trivial⟩

theorem ok60 {T : Told} (H : Hands T) : CtrOk T Tryz.prog 60 c60 :=
  fn_ok H.ty (n60 H) hm (lh := whole_Add_lh) (ct := c60) (dcd := fun y => (y.2.1)) Tryz.func60 (by kernel_rfl) (by rfl) (LHok_of (l := []) (by kernel_rfl) trivial) (by decide) (fun _ => rfl) (fun x r h => (whole_Add_eq x.1 x.2.1).trans h)

theorem n63 {T : Told} (H : Hands T) : EnvOk T Tryz.prog (envL e63) := envL_ok (l := e63) ⟨ok95 H, ok97 H, trivial⟩

theorem nat_Mul_p8 {T : Told} (H : Hands T) : PieceOk T Tryz.prog 67 (.loop (loopAt 8 (bodyOf Tryz.f63) .skip)) ⟨nat_Mul_i8, nat_Mul_o8, lp nat_Mul_s8 K0⟩ :=
  loop_piece H.ty (n63 H) hm (LHok_of (l := []) (by kernel_rfl) trivial) nat_Mul_l8 K0

theorem nat_Mul_p4 {T : Told} (H : Hands T) : PieceOk T Tryz.prog 67 (.loop (loopAt 4 (bodyOf Tryz.f63) .skip)) ⟨nat_Mul_i4, nat_Mul_o4, lp nat_Mul_s4 K0⟩ :=
  loop_piece H.ty (n63 H) hm (LHok_of (l := [(.loop (loopAt 8 (bodyOf Tryz.f63) .skip), ⟨nat_Mul_i8, nat_Mul_o8, lp nat_Mul_s8 K0⟩)]) (by kernel_rfl) ⟨nat_Mul_p8 H, trivial⟩) nat_Mul_l4 K0

theorem ok63 {T : Told} (H : Hands T) : CtrOk T Tryz.prog 63 c63 :=
  fn_ok H.ty (n63 H) hm (lh := nat_Mul_lh) (ct := c63) (dcd := fun y => (y.2.1)) Tryz.func63 (by kernel_rfl) (by rfl) (LHok_of (l := [(.loop (loopAt 4 (bodyOf Tryz.f63) .skip), ⟨nat_Mul_i4, nat_Mul_o4, lp nat_Mul_s4 K0⟩)]) (by kernel_rfl) ⟨nat_Mul_p4 H, trivial⟩) (by decide) (fun _ => rfl) (fun x r h => (nat_Mul_eq x.1 x.2.1).trans h)

theorem n61 {T : Told} (H : Hands T) : EnvOk T Tryz.prog (envL e61) := envL_ok (l := e61) ⟨ok63 H, ok96 H, ok99 H, trivial⟩

theorem ok61 {T : Told} (H : Hands T) : CtrOk T Tryz.prog 61 c61 :=
  fn_ok H.ty (n61 H) hm (lh := whole_Mul_lh) (ct := c61) (dcd := fun y => (y.2.1)) Tryz.func61 (by kernel_rfl) (by rfl) (LHok_of (l := []) (by kernel_rfl) trivial) (by decide) (fun _ => rfl) (fun x r h => (whole_Mul_eq x.1 x.2.1).trans h)

theorem n62 {T : Told} (H : Hands T) : EnvOk T Tryz.prog (envL e62) := envL_ok (l := e62) trivial

theorem ok62 {T : Told} (H : Hands T) : CtrOk T Tryz.prog 62 c62 :=
  fn_ok H.ty (n62 H) hm (lh := ratio_den_lh) (ct := c62) (dcd := fun y => (y.2.1)) Tryz.func62 (by kernel_rfl) (by rfl) (LHok_of (l := []) (by kernel_rfl) trivial) (by decide) (fun _ => rfl) (fun x r h => (ratio_den_eq x.1).trans h)

theorem n24 {T : Told} (H : Hands T) : EnvOk T Tryz.prog (envL e24) := envL_ok (l := e24) ⟨ok56 H, ok59 H, ok60 H, ok61 H, ok62 H, ok63 H, trivial⟩

theorem ok24 {T : Told} (H : Hands T) : CtrOk T Tryz.prog 24 c24 :=
  fn_ok H.ty (n24 H) hm (lh := ratio_Add_lh) (ct := c24) (dcd := fun y => (y.2.1)) Tryz.func24 (by kernel_rfl) (by rfl) (LHok_of (l := []) (by kernel_rfl) trivial) (by decide) (fun _ => rfl) (fun x r h => (ratio_Add_eq x.1 x.2.1).trans h)

theorem n121 {T : Told} (H : Hands T) : EnvOk T Tryz.prog (envL e121) := envL_ok (l := e121) ⟨ok67 H, ok96 H, trivial⟩

theorem ok121 {T : Told} (H : Hands T) : CtrOk T Tryz.prog 121 c121 :=
  fn_ok H.ty (n121 H) hm (lh := whole_Cmp_lh) (ct := c121) (dcd := fun y => (y.2.1)) Tryz.func121 (by kernel_rfl) (by rfl) (LHok_of (l := []) (by kernel_rfl) trivial) (by decide) (fun _ => rfl) (fun x r h => (whole_Cmp_eq x.1 x.2.1).trans h)

theorem n81 {T : Told} (H : Hands T) : EnvOk T Tryz.prog (envL e81) := envL_ok (l := e81) ⟨ok56 H, ok61 H, ok62 H, ok121 H, trivial⟩

theorem ok81 {T : Told} (H : Hands T) : CtrOk T Tryz.prog 81 c81 :=
  fn_ok H.ty (n81 H) hm (lh := ratio_Cmp_lh) (ct := c81) (dcd := fun y => (y.2.1)) Tryz.func81 (by kernel_rfl) (by rfl) (LHok_of (l := []) (by kernel_rfl) trivial) (by decide) (fun _ => rfl) (fun x r h => (ratio_Cmp_eq x.1 x.2.1).trans h)

theorem n43 {T : Told} (H : Hands T) : EnvOk T Tryz.prog (envL e43) := envL_ok (l := e43) ⟨ok81 H, trivial⟩

theorem ok43 {T : Told} (H : Hands T) : CtrOk T Tryz.prog 43 c43 :=
  fn_ok H.ty (n43 H) hm (lh := ratio_Same_lh) (ct := c43) (dcd := fun y => (y.2.1)) Tryz.func43 (by kernel_rfl) (by rfl) (LHok_of (l := []) (by kernel_rfl) trivial) (by decide) (fun _ => rfl) (fun x r h => (ratio_Same_eq x.1 x.2.1).trans h)

theorem n119 {T : Told} (H : Hands T) : EnvOk T Tryz.prog (envL e119) := envL_ok (l := e119) ⟨ok24 H, ok43 H, trivial⟩

theorem valid_sums_p2 {T : Told} (H : Hands T) : PieceOk T Tryz.prog 37 (.loop (loopAt 2 (bodyOf Tryz.f119) .skip)) ⟨valid_sums_i2, valid_sums_o2, lp valid_sums_s2 K0⟩ :=
  loop_piece H.ty (n119 H) hm (LHok_of (l := []) (by kernel_rfl) trivial) valid_sums_l2 K0

theorem ok119 {T : Told} (H : Hands T) : CtrOk T Tryz.prog 119 c119 :=
  fn_ok H.ty (n119 H) hm (lh := valid_sums_lh) (ct := c119) (dcd := fun y => (y.2.1, y.2.2.1)) Tryz.func119 (by kernel_rfl) (by rfl) (LHok_of (l := [(.loop (loopAt 2 (bodyOf Tryz.f119) .skip), ⟨valid_sums_i2, valid_sums_o2, lp valid_sums_s2 K0⟩)]) (by kernel_rfl) ⟨valid_sums_p2 H, trivial⟩) (by decide) (fun _ => rfl) (fun x r h => (valid_sums_eq x.1).trans h)

theorem n120 {T : Told} (H : Hands T) : EnvOk T Tryz.prog (envL e120) := envL_ok (l := e120) trivial

theorem ok120 {T : Told} (H : Hands T) : CtrOk T Tryz.prog 120 c120 :=
  fn_ok H.ty (n120 H) hm (lh := valid_fault_lh) (ct := c120) (dcd := fun y => (y.2.1)) Tryz.func120 (by kernel_rfl) (by rfl) (LHok_of (l := []) (by kernel_rfl) trivial) (by decide) (fun _ => rfl) (fun x r h => (valid_fault_eq x.1 x.2.1 x.2.2.1).trans h)

theorem n79 {T : Told} (H : Hands T) : EnvOk T Tryz.prog (envL e79) := envL_ok (l := e79) ⟨ok115 H, ok116 H, ok117 H, ok118 H, ok119 H, ok120 H, trivial⟩

theorem valid_Check_p7 {T : Told} (H : Hands T) : PieceOk T Tryz.prog 63 (.loop (loopAt 7 (bodyOf Tryz.f79) .skip)) ⟨valid_Check_i7, valid_Check_o7, lp valid_Check_s7 K0⟩ :=
  loop_piece H.ty (n79 H) hm (LHok_of (l := []) (by kernel_rfl) trivial) valid_Check_l7 K0

theorem valid_Check_p4 {T : Told} (H : Hands T) : PieceOk T Tryz.prog 63 (.loop (loopAt 4 (bodyOf Tryz.f79) .skip)) ⟨valid_Check_i4, valid_Check_o4, lp valid_Check_s4 K0⟩ :=
  loop_piece H.ty (n79 H) hm (LHok_of (l := [(.loop (loopAt 7 (bodyOf Tryz.f79) .skip), ⟨valid_Check_i7, valid_Check_o7, lp valid_Check_s7 K0⟩)]) (by kernel_rfl) ⟨valid_Check_p7 H, trivial⟩) valid_Check_l4 K0

theorem ok79 {T : Told} (H : Hands T) : CtrOk T Tryz.prog 79 c79 :=
  fn_ok H.ty (n79 H) hm (lh := valid_Check_lh) (ct := c79) (dcd := fun y => (y.2.1)) Tryz.func79 (by kernel_rfl) (by rfl) (LHok_of (l := [(.loop (loopAt 4 (bodyOf Tryz.f79) .skip), ⟨valid_Check_i4, valid_Check_o4, lp valid_Check_s4 K0⟩)]) (by kernel_rfl) ⟨valid_Check_p4 H, trivial⟩) (by decide) (fun _ => rfl) (fun x r h => (valid_Check_eq x.1).trans h)

theorem n39 {T : Told} (H : Hands T) : EnvOk T Tryz.prog (envL e39) := envL_ok (l := e39) ⟨ok79 H, trivial⟩

theorem ok39 {T : Told} (H : Hands T) : CtrOk T Tryz.prog 39 c39 :=
  fn_ok H.ty (n39 H) hm (lh := valid_Ok_lh) (ct := c39) (dcd := fun y => (y.2.1)) Tryz.func39 (by kernel_rfl) (by rfl) (LHok_of (l := []) (by kernel_rfl) trivial) (by decide) (fun _ => rfl) (fun x r h => (valid_Ok_eq x.1).trans h)

theorem n11 {T : Told} (H : Hands T) : EnvOk T Tryz.prog (envL e11) := envL_ok (l := e11) ⟨ok39 H, trivial⟩

theorem ok11 {T : Told} (H : Hands T) : CtrOk T Tryz.prog 11 c11 :=
  fn_ok H.ty (n11 H) hm (lh := dendronlaw10_Why_lh) (ct := c11) (dcd := fun y => (y.2.1)) Tryz.func11 (by kernel_rfl) (by rfl) (LHok_of (l := []) (by kernel_rfl) trivial) (by decide) (fun _ => rfl) (fun x r h => (dendronlaw10_Why_eq x.1 x.2.1).trans h)

theorem n80 {T : Told} (H : Hands T) : EnvOk T Tryz.prog (envL e80) := envL_ok (l := e80) ⟨ok58 H, ok99 H, trivial⟩

theorem ok80 {T : Told} (H : Hands T) : CtrOk T Tryz.prog 80 c80 :=
  fn_ok H.ty (n80 H) hm (lh := whole_Of_lh) (ct := c80) (dcd := fun y => (y.2.1)) Tryz.func80 (by kernel_rfl) (by rfl) (LHok_of (l := []) (by kernel_rfl) trivial) (by decide) (fun _ => rfl) (fun x r h => (whole_Of_eq x.1).trans h)

theorem n40 {T : Told} (H : Hands T) : EnvOk T Tryz.prog (envL e40) := envL_ok (l := e40) ⟨ok58 H, ok80 H, trivial⟩

theorem ok40 {T : Told} (H : Hands T) : CtrOk T Tryz.prog 40 c40 :=
  fn_ok H.ty (n40 H) hm (lh := ratio_Of_lh) (ct := c40) (dcd := fun y => (y.2.1)) Tryz.func40 (by kernel_rfl) (by rfl) (LHok_of (l := []) (by kernel_rfl) trivial) (by decide) (fun _ => rfl) (fun x r h => (ratio_Of_eq x.1).trans h)

theorem n41 {T : Told} (H : Hands T) : EnvOk T Tryz.prog (envL e41) := envL_ok (l := e41) ⟨ok40 H, trivial⟩

theorem ok41 {T : Told} (H : Hands T) : CtrOk T Tryz.prog 41 c41 :=
  fn_ok H.ty (n41 H) hm (lh := ratio_One_lh) (ct := c41) (dcd := fun y => (y.2.1)) Tryz.func41 (by kernel_rfl) (by rfl) (LHok_of (l := []) (by kernel_rfl) trivial) (by decide) (fun _ => rfl) (fun x r h => (ratio_One_eq ).trans h)

theorem n83 {T : Told} (H : Hands T) : EnvOk T Tryz.prog (envL e83) := envL_ok (l := e83) ⟨ok39 H, trivial⟩

theorem ok83 {T : Told} (H : Hands T) : CtrOk T Tryz.prog 83 c83 :=
  fn_ok H.ty (n83 H) hm (lh := route_fits_lh) (ct := c83) (dcd := fun y => (y.2.1)) Tryz.func83 (by kernel_rfl) (by rfl) (LHok_of (l := []) (by kernel_rfl) trivial) (by decide) (fun _ => rfl) (fun x r h => (route_fits_eq x.1 x.2.1).trans h)

theorem n45 {T : Told} (H : Hands T) : EnvOk T Tryz.prog (envL e45) := envL_ok (l := e45) ⟨ok83 H, trivial⟩

theorem ok45 {T : Told} (H : Hands T) : CtrOk T Tryz.prog 45 c45 :=
  fn_ok H.ty (n45 H) hm (lh := route_Fits_lh) (ct := c45) (dcd := fun y => (y.2.1)) Tryz.func45 (by kernel_rfl) (by rfl) (LHok_of (l := []) (by kernel_rfl) trivial) (by decide) (fun _ => rfl) (fun x r h => (route_Fits_eq x.1 x.2.1).trans h)

theorem n94 {T : Told} (H : Hands T) : EnvOk T Tryz.prog (envL e94) := envL_ok (l := e94) ⟨ok81 H, trivial⟩

theorem ok94 {T : Told} (H : Hands T) : CtrOk T Tryz.prog 94 c94 :=
  fn_ok H.ty (n94 H) hm (lh := route_goes_lh) (ct := c94) (dcd := fun y => (y.2.1)) Tryz.func94 (by kernel_rfl) (by rfl) (LHok_of (l := []) (by kernel_rfl) trivial) (by decide) (fun _ => rfl) (fun x r h => (route_goes_eq x.1 x.2.1).trans h)

theorem n54 {T : Told} (H : Hands T) : EnvOk T Tryz.prog (envL e54) := envL_ok (l := e54) ⟨ok94 H, trivial⟩

theorem ok54 {T : Told} (H : Hands T) : CtrOk T Tryz.prog 54 c54 :=
  fn_ok H.ty (n54 H) hm (lh := route_Left_lh) (ct := c54) (dcd := fun y => (y.2.1)) Tryz.func54 (by kernel_rfl) (by rfl) (LHok_of (l := []) (by kernel_rfl) trivial) (by decide) (fun _ => rfl) (fun x r h => (route_Left_eq x.1 x.2.1).trans h)

theorem n25 {T : Told} (H : Hands T) : EnvOk T Tryz.prog (envL e25) := envL_ok (l := e25) ⟨ok56 H, ok59 H, ok61 H, ok63 H, trivial⟩

theorem ok25 {T : Told} (H : Hands T) : CtrOk T Tryz.prog 25 c25 :=
  fn_ok H.ty (n25 H) hm (lh := ratio_Mul_lh) (ct := c25) (dcd := fun y => (y.2.1)) Tryz.func25 (by kernel_rfl) (by rfl) (LHok_of (l := []) (by kernel_rfl) trivial) (by decide) (fun _ => rfl) (fun x r h => (ratio_Mul_eq x.1 x.2.1).trans h)

theorem n123 {T : Told} (H : Hands T) : EnvOk T Tryz.prog (envL e123) := envL_ok (l := e123) ⟨ok96 H, ok99 H, trivial⟩

theorem ok123 {T : Told} (H : Hands T) : CtrOk T Tryz.prog 123 c123 :=
  fn_ok H.ty (n123 H) hm (lh := whole_Neg_lh) (ct := c123) (dcd := fun y => (y.2.1)) Tryz.func123 (by kernel_rfl) (by rfl) (LHok_of (l := []) (by kernel_rfl) trivial) (by decide) (fun _ => rfl) (fun x r h => (whole_Neg_eq x.1).trans h)

theorem n82 {T : Told} (H : Hands T) : EnvOk T Tryz.prog (envL e82) := envL_ok (l := e82) ⟨ok59 H, ok96 H, ok122 H, ok123 H, trivial⟩

theorem ok82 {T : Told} (H : Hands T) : CtrOk T Tryz.prog 82 c82 :=
  fn_ok H.ty (n82 H) hm (lh := ratio_Make_lh) (ct := c82) (dcd := fun y => (y.2.1, y.2.2.1)) Tryz.func82 (by kernel_rfl) (by rfl) (LHok_of (l := []) (by kernel_rfl) trivial) (by decide) (fun _ => rfl) (fun x r h => (ratio_Make_eq x.1 x.2.1).trans h)

theorem n93 {T : Told} (H : Hands T) : EnvOk T Tryz.prog (envL e93) := envL_ok (l := e93) ⟨ok56 H, ok62 H, ok82 H, trivial⟩

theorem ok93 {T : Told} (H : Hands T) : CtrOk T Tryz.prog 93 c93 :=
  fn_ok H.ty (n93 H) hm (lh := ratio_Inv_lh) (ct := c93) (dcd := fun y => (y.2.1, y.2.2.1)) Tryz.func93 (by kernel_rfl) (by rfl) (LHok_of (l := []) (by kernel_rfl) trivial) (by decide) (fun _ => rfl) (fun x r h => (ratio_Inv_eq x.1).trans h)

theorem n53 {T : Told} (H : Hands T) : EnvOk T Tryz.prog (envL e53) := envL_ok (l := e53) ⟨ok25 H, ok93 H, trivial⟩

theorem ok53 {T : Told} (H : Hands T) : CtrOk T Tryz.prog 53 c53 :=
  fn_ok H.ty (n53 H) hm (lh := ratio_Div_lh) (ct := c53) (dcd := fun y => (y.2.1, y.2.2.1)) Tryz.func53 (by kernel_rfl) (by rfl) (LHok_of (l := []) (by kernel_rfl) trivial) (by decide) (fun _ => rfl) (fun x r h => (ratio_Div_eq x.1 x.2.1).trans h)

theorem n92 {T : Told} (H : Hands T) : EnvOk T Tryz.prog (envL e92) := envL_ok (l := e92) ⟨ok53 H, trivial⟩

theorem ok92 {T : Told} (H : Hands T) : CtrOk T Tryz.prog 92 c92 :=
  fn_ok H.ty (n92 H) hm (lh := expect_over_lh) (ct := c92) (dcd := fun y => (y.2.1)) Tryz.func92 (by kernel_rfl) (by rfl) (LHok_of (l := []) (by kernel_rfl) trivial) (by decide) (fun _ => rfl) (fun x r h => (expect_over_eq x.1 x.2.1).trans h)

theorem n57 {T : Told} (H : Hands T) : EnvOk T Tryz.prog (envL e57) := envL_ok (l := e57) ⟨ok24 H, ok25 H, ok92 H, trivial⟩

theorem ok57 {T : Told} (H : Hands T) : CtrOk T Tryz.prog 57 c57 :=
  fn_ok H.ty (n57 H) hm (lh := expect_mean_lh) (ct := c57) (dcd := fun y => (y.2.1)) Tryz.func57 (by kernel_rfl) (by rfl) (LHok_of (l := []) (by kernel_rfl) trivial) (by decide) (fun _ => rfl) (fun x r h => (expect_mean_eq x.1 x.2.1 x.2.2.1 x.2.2.2.1).trans h)

theorem n124 {T : Told} (H : Hands T) : EnvOk T Tryz.prog (envL e124) := envL_ok (l := e124) trivial

theorem ok124 {T : Told} (H : Hands T) : CtrOk T Tryz.prog 124 c124 :=
  fn_ok H.ty (n124 H) hm (lh := expect_known_lh) (ct := c124) (dcd := fun y => (y.2.1)) Tryz.func124 (by kernel_rfl) (by rfl) (LHok_of (l := []) (by kernel_rfl) trivial) (by decide) (fun _ => rfl) (fun x r h => (expect_known_eq x.1 x.2.1).trans h)

theorem n84 {T : Told} (H : Hands T) (n : Nat) (hr : CtrOk T Tryz.prog 84 (c84 n)) : EnvOk T Tryz.prog (envL (e84 n)) := envL_ok (l := (e84 n)) ⟨ok54 H, ok56 H, ok57 H, hr, ok124 H, trivial⟩

theorem ok84 {T : Told} (H : Hands T) : ∀ n, CtrOk T Tryz.prog 84 (c84 n)
  | 0 => CtrOk.never Tryz.func84 (by kernel_rfl) (by rfl) (fun _ => rfl)
  | n + 1 => fn_ok H.ty (n84 H n (ok84 H n)) hm (lh := expect_value_lh n) (ct := c84 (n + 1)) (dcd := fun y => (y.2.1)) Tryz.func84 (by kernel_rfl) (by rfl) (LHok_of (l := []) (by kernel_rfl) trivial) (Nat.le_of_ble_eq_true rfl) (fun _ => rfl) (fun x r h => (expect_value_eq n x.1 x.2.1 x.2.2.1 x.2.2.2.1).trans h)

theorem n46 {T : Told} (H : Hands T) : EnvOk T Tryz.prog (envL e46) := envL_ok (l := e46) ⟨ok23 H, ok24 H, ok45 H, ok84 H R0, trivial⟩

theorem expect_Value_p6 {T : Told} (H : Hands T) : PieceOk T Tryz.prog 35 (.loop (loopAt 6 (bodyOf Tryz.f46) .skip)) ⟨expect_Value_i6, expect_Value_o6, lp expect_Value_s6 K0⟩ :=
  loop_piece H.ty (n46 H) hm (LHok_of (l := []) (by kernel_rfl) trivial) expect_Value_l6 K0

theorem ok46 {T : Told} (H : Hands T) : CtrOk T Tryz.prog 46 c46 :=
  fn_ok H.ty (n46 H) hm (lh := expect_Value_lh) (ct := c46) (dcd := fun y => (y.2.1, y.2.2.1)) Tryz.func46 (by kernel_rfl) (by rfl) (LHok_of (l := [(.loop (loopAt 6 (bodyOf Tryz.f46) .skip), ⟨expect_Value_i6, expect_Value_o6, lp expect_Value_s6 K0⟩)]) (by kernel_rfl) ⟨expect_Value_p6 H, trivial⟩) (by decide) (fun _ => rfl) (fun x r h => (expect_Value_eq x.1 x.2.1 x.2.2.1).trans h)

theorem n42 {T : Told} (H : Hands T) : EnvOk T Tryz.prog (envL e42) := envL_ok (l := e42) ⟨ok39 H, ok46 H, trivial⟩

theorem ok42 {T : Told} (H : Hands T) : CtrOk T Tryz.prog 42 c42 :=
  fn_ok H.ty (n42 H) hm (lh := expect_Base_lh) (ct := c42) (dcd := fun y => (y.2.1, y.2.2.1)) Tryz.func42 (by kernel_rfl) (by rfl) (LHok_of (l := []) (by kernel_rfl) trivial) (by decide) (fun _ => rfl) (fun x r h => (expect_Base_eq x.1).trans h)

theorem n44 {T : Told} (H : Hands T) : EnvOk T Tryz.prog (envL e44) := envL_ok (l := e44) ⟨ok56 H, ok80 H, ok82 H, trivial⟩

theorem ok44 {T : Told} (H : Hands T) : CtrOk T Tryz.prog 44 c44 :=
  fn_ok H.ty (n44 H) hm (lh := ratio_Frac_lh) (ct := c44) (dcd := fun y => (y.2.1)) Tryz.func44 (by kernel_rfl) (by rfl) (LHok_of (l := []) (by kernel_rfl) trivial) (by decide) (fun _ => rfl) (fun x r h => (ratio_Frac_eq x.1 x.2.1).trans h)

theorem n12 {T : Told} (H : Hands T) : EnvOk T Tryz.prog (envL e12) := envL_ok (l := e12) ⟨ok40 H, ok41 H, ok42 H, ok43 H, ok44 H, trivial⟩

theorem ok12 {T : Told} (H : Hands T) : CtrOk T Tryz.prog 12 c12 :=
  fn_ok H.ty (n12 H) hm (lh := dendronlaw11_awake_lh) (ct := c12) (dcd := fun y => (y.2.1)) Tryz.func12 (by kernel_rfl) (by rfl) (LHok_of (l := []) (by kernel_rfl) trivial) (by decide) (fun _ => rfl) (fun x r h => (dendronlaw11_awake_eq ).trans h)

theorem n13 {T : Told} (H : Hands T) : EnvOk T Tryz.prog (envL e13) := envL_ok (l := e13) ⟨ok45 H, ok46 H, trivial⟩

theorem expect_Table_p8 {T : Told} (H : Hands T) : PieceOk T Tryz.prog 39 (.loop (loopAt 8 (bodyOf Tryz.f13) .skip)) ⟨expect_Table_i8, expect_Table_o8, lp expect_Table_s8 K0⟩ :=
  loop_piece H.ty (n13 H) hm (LHok_of (l := []) (by kernel_rfl) trivial) expect_Table_l8 K0

theorem ok13 {T : Told} (H : Hands T) : CtrOk T Tryz.prog 13 c13 :=
  fn_ok H.ty (n13 H) hm (lh := expect_Table_lh) (ct := c13) (dcd := fun y => (y.2.1, y.2.2.1)) Tryz.func13 (by kernel_rfl) (by rfl) (LHok_of (l := [(.loop (loopAt 8 (bodyOf Tryz.f13) .skip), ⟨expect_Table_i8, expect_Table_o8, lp expect_Table_s8 K0⟩)]) (by kernel_rfl) ⟨expect_Table_p8 H, trivial⟩) (by decide) (fun _ => rfl) (fun x r h => (expect_Table_eq x.1 x.2.1).trans h)

theorem n128 {T : Told} (H : Hands T) : EnvOk T Tryz.prog (envL e128) := envL_ok (l := e128) trivial

theorem dendronref01_Small_p2 {T : Told} (H : Hands T) : PieceOk T Tryz.prog 14 (.loop (loopAt 2 (bodyOf Tryz.f128) .skip)) ⟨dendronref01_Small_i2, dendronref01_Small_o2, lp dendronref01_Small_s2 K0⟩ :=
  loop_piece H.ty (n128 H) hm (LHok_of (l := []) (by kernel_rfl) trivial) dendronref01_Small_l2 K0

theorem ok128 {T : Told} (H : Hands T) : CtrOk T Tryz.prog 128 c128 :=
  fn_ok H.ty (n128 H) hm (lh := dendronref01_Small_lh) (ct := c128) (dcd := fun y => (y.2.1)) Tryz.func128 (by kernel_rfl) (by rfl) (LHok_of (l := [(.loop (loopAt 2 (bodyOf Tryz.f128) .skip), ⟨dendronref01_Small_i2, dendronref01_Small_o2, lp dendronref01_Small_s2 K0⟩)]) (by kernel_rfl) ⟨dendronref01_Small_p2 H, trivial⟩) (by decide) (fun _ => rfl) (fun x r h => (dendronref01_Small_eq x.1).trans h)

theorem n146 {T : Told} (H : Hands T) : EnvOk T Tryz.prog (envL e146) := envL_ok (l := e146) trivial

theorem ok146 {T : Told} (H : Hands T) : CtrOk T Tryz.prog 146 c146 :=
  fn_ok H.ty (n146 H) hm (lh := dendronref01_digit_lh) (ct := c146) (dcd := fun y => (y.2.1)) Tryz.func146 (by kernel_rfl) (by rfl) (LHok_of (l := []) (by kernel_rfl) trivial) (by decide) (fun _ => rfl) (fun x r h => (dendronref01_digit_eq x.1 x.2.1).trans h)

theorem n132 {T : Told} (H : Hands T) : EnvOk T Tryz.prog (envL e132) := envL_ok (l := e132) ⟨ok146 H, trivial⟩

theorem dendronref01_Plus_p4 {T : Told} (H : Hands T) : PieceOk T Tryz.prog 41 (.loop (loopAt 4 (bodyOf Tryz.f132) .skip)) ⟨dendronref01_Plus_i4, dendronref01_Plus_o4, lp dendronref01_Plus_s4 K0⟩ :=
  loop_piece H.ty (n132 H) hm (LHok_of (l := []) (by kernel_rfl) trivial) dendronref01_Plus_l4 K0

theorem ok132 {T : Told} (H : Hands T) : CtrOk T Tryz.prog 132 c132 :=
  fn_ok H.ty (n132 H) hm (lh := dendronref01_Plus_lh) (ct := c132) (dcd := fun y => (y.2.1)) Tryz.func132 (by kernel_rfl) (by rfl) (LHok_of (l := [(.loop (loopAt 4 (bodyOf Tryz.f132) .skip), ⟨dendronref01_Plus_i4, dendronref01_Plus_o4, lp dendronref01_Plus_s4 K0⟩)]) (by kernel_rfl) ⟨dendronref01_Plus_p4 H, trivial⟩) (by decide) (fun _ => rfl) (fun x r h => (dendronref01_Plus_eq x.1 x.2.1).trans h)

theorem n147 {T : Told} (H : Hands T) : EnvOk T Tryz.prog (envL e147) := envL_ok (l := e147) trivial

theorem dendronref01_Trim_p2 {T : Told} (H : Hands T) : PieceOk T Tryz.prog 21 (.loop (loopAt 2 (bodyOf Tryz.f147) .skip)) ⟨dendronref01_Trim_i2, dendronref01_Trim_o2, lp dendronref01_Trim_s2 K0⟩ :=
  loop_piece H.ty (n147 H) hm (LHok_of (l := []) (by kernel_rfl) trivial) dendronref01_Trim_l2 K0

theorem ok147 {T : Told} (H : Hands T) : CtrOk T Tryz.prog 147 c147 :=
  fn_ok H.ty (n147 H) hm (lh := dendronref01_Trim_lh) (ct := c147) (dcd := fun y => (y.2.1)) Tryz.func147 (by kernel_rfl) (by rfl) (LHok_of (l := [(.loop (loopAt 2 (bodyOf Tryz.f147) .skip), ⟨dendronref01_Trim_i2, dendronref01_Trim_o2, lp dendronref01_Trim_s2 K0⟩)]) (by kernel_rfl) ⟨dendronref01_Trim_p2 H, trivial⟩) (by decide) (fun _ => rfl) (fun x r h => (dendronref01_Trim_eq x.1).trans h)

theorem n133 {T : Told} (H : Hands T) : EnvOk T Tryz.prog (envL e133) := envL_ok (l := e133) ⟨ok147 H, trivial⟩

theorem dendronref01_Times_p7 {T : Told} (H : Hands T) : PieceOk T Tryz.prog 63 (.loop (loopAt 7 (bodyOf Tryz.f133) .skip)) ⟨dendronref01_Times_i7, dendronref01_Times_o7, lp dendronref01_Times_s7 K0⟩ :=
  loop_piece H.ty (n133 H) hm (LHok_of (l := []) (by kernel_rfl) trivial) dendronref01_Times_l7 K0

theorem dendronref01_Times_p3 {T : Told} (H : Hands T) : PieceOk T Tryz.prog 63 (.loop (loopAt 3 (bodyOf Tryz.f133) .skip)) ⟨dendronref01_Times_i3, dendronref01_Times_o3, lp dendronref01_Times_s3 K0⟩ :=
  loop_piece H.ty (n133 H) hm (LHok_of (l := [(.loop (loopAt 7 (bodyOf Tryz.f133) .skip), ⟨dendronref01_Times_i7, dendronref01_Times_o7, lp dendronref01_Times_s7 K0⟩)]) (by kernel_rfl) ⟨dendronref01_Times_p7 H, trivial⟩) dendronref01_Times_l3 K0

theorem ok133 {T : Told} (H : Hands T) : CtrOk T Tryz.prog 133 c133 :=
  fn_ok H.ty (n133 H) hm (lh := dendronref01_Times_lh) (ct := c133) (dcd := fun y => (y.2.1)) Tryz.func133 (by kernel_rfl) (by rfl) (LHok_of (l := [(.loop (loopAt 3 (bodyOf Tryz.f133) .skip), ⟨dendronref01_Times_i3, dendronref01_Times_o3, lp dendronref01_Times_s3 K0⟩)]) (by kernel_rfl) ⟨dendronref01_Times_p3 H, trivial⟩) (by decide) (fun _ => rfl) (fun x r h => (dendronref01_Times_eq x.1 x.2.1).trans h)

theorem n87 {T : Told} (H : Hands T) : EnvOk T Tryz.prog (envL e87) := envL_ok (l := e87) ⟨ok128 H, ok132 H, ok133 H, trivial⟩

theorem dendronref01_From_p4 {T : Told} (H : Hands T) : PieceOk T Tryz.prog 26 (.loop (loopAt 4 (bodyOf Tryz.f87) .skip)) ⟨dendronref01_From_i4, dendronref01_From_o4, lp dendronref01_From_s4 K0⟩ :=
  loop_piece H.ty (n87 H) hm (LHok_of (l := []) (by kernel_rfl) trivial) dendronref01_From_l4 K0

theorem ok87 {T : Told} (H : Hands T) : CtrOk T Tryz.prog 87 c87 :=
  fn_ok H.ty (n87 H) hm (lh := dendronref01_From_lh) (ct := c87) (dcd := fun y => (y.2.1)) Tryz.func87 (by kernel_rfl) (by rfl) (LHok_of (l := [(.loop (loopAt 4 (bodyOf Tryz.f87) .skip), ⟨dendronref01_From_i4, dendronref01_From_o4, lp dendronref01_From_s4 K0⟩)]) (by kernel_rfl) ⟨dendronref01_From_p4 H, trivial⟩) (by decide) (fun _ => rfl) (fun x r h => (dendronref01_From_eq x.1).trans h)

theorem n135 {T : Told} (H : Hands T) : EnvOk T Tryz.prog (envL e135) := envL_ok (l := e135) trivial

theorem ok135 {T : Told} (H : Hands T) : CtrOk T Tryz.prog 135 c135 :=
  fn_ok H.ty (n135 H) hm (lh := dendronref02_Make_lh) (ct := c135) (dcd := fun y => (y.2.1)) Tryz.func135 (by kernel_rfl) (by rfl) (LHok_of (l := []) (by kernel_rfl) trivial) (by decide) (fun _ => rfl) (fun x r h => (dendronref02_Make_eq x.1 x.2.1).trans h)

theorem n134 {T : Told} (H : Hands T) : EnvOk T Tryz.prog (envL e134) := envL_ok (l := e134) ⟨ok128 H, ok132 H, ok135 H, trivial⟩

theorem ok134 {T : Told} (H : Hands T) : CtrOk T Tryz.prog 134 c134 :=
  fn_ok H.ty (n134 H) hm (lh := dendronref02_Small_lh) (ct := c134) (dcd := fun y => (y.2.1)) Tryz.func134 (by kernel_rfl) (by rfl) (LHok_of (l := []) (by kernel_rfl) trivial) (by decide) (fun _ => rfl) (fun x r h => (dendronref02_Small_eq x.1).trans h)

theorem n88 {T : Told} (H : Hands T) : EnvOk T Tryz.prog (envL e88) := envL_ok (l := e88) ⟨ok128 H, ok134 H, trivial⟩

theorem ok88 {T : Told} (H : Hands T) : CtrOk T Tryz.prog 88 c88 :=
  fn_ok H.ty (n88 H) hm (lh := dendronref03_Small_lh) (ct := c88) (dcd := fun y => (y.2.1)) Tryz.func88 (by kernel_rfl) (by rfl) (LHok_of (l := []) (by kernel_rfl) trivial) (by decide) (fun _ => rfl) (fun x r h => (dendronref03_Small_eq x.1 x.2.1).trans h)

theorem n89 {T : Told} (H : Hands T) : EnvOk T Tryz.prog (envL e89) := envL_ok (l := e89) ⟨ok87 H, ok135 H, trivial⟩

theorem ok89 {T : Told} (H : Hands T) : CtrOk T Tryz.prog 89 c89 :=
  fn_ok H.ty (n89 H) hm (lh := dendronref02_From_lh) (ct := c89) (dcd := fun y => (y.2.1)) Tryz.func89 (by kernel_rfl) (by rfl) (LHok_of (l := []) (by kernel_rfl) trivial) (by decide) (fun _ => rfl) (fun x r h => (dendronref02_From_eq x.1).trans h)

theorem n48 {T : Told} (H : Hands T) : EnvOk T Tryz.prog (envL e48) := envL_ok (l := e48) ⟨ok87 H, ok88 H, ok89 H, trivial⟩

theorem ok48 {T : Told} (H : Hands T) : CtrOk T Tryz.prog 48 c48 :=
  fn_ok H.ty (n48 H) hm (lh := dendronref03_From_lh) (ct := c48) (dcd := fun y => (y.2.1)) Tryz.func48 (by kernel_rfl) (by rfl) (LHok_of (l := []) (by kernel_rfl) trivial) (by decide) (fun _ => rfl) (fun x r h => (dendronref03_From_eq x.1).trans h)

theorem n125 {T : Told} (H : Hands T) : EnvOk T Tryz.prog (envL e125) := envL_ok (l := e125) trivial

theorem dendronref01_Right_p2 {T : Told} (H : Hands T) : PieceOk T Tryz.prog 27 (.loop (loopAt 2 (bodyOf Tryz.f125) .skip)) ⟨dendronref01_Right_i2, dendronref01_Right_o2, lp dendronref01_Right_s2 K0⟩ :=
  loop_piece H.ty (n125 H) hm (LHok_of (l := []) (by kernel_rfl) trivial) dendronref01_Right_l2 K0

theorem ok125 {T : Told} (H : Hands T) : CtrOk T Tryz.prog 125 c125 :=
  fn_ok H.ty (n125 H) hm (lh := dendronref01_Right_lh) (ct := c125) (dcd := fun y => (y.2.1)) Tryz.func125 (by kernel_rfl) (by rfl) (LHok_of (l := [(.loop (loopAt 2 (bodyOf Tryz.f125) .skip), ⟨dendronref01_Right_i2, dendronref01_Right_o2, lp dendronref01_Right_s2 K0⟩)]) (by kernel_rfl) ⟨dendronref01_Right_p2 H, trivial⟩) (by decide) (fun _ => rfl) (fun x r h => (dendronref01_Right_eq x.1).trans h)

theorem n127 {T : Told} (H : Hands T) : EnvOk T Tryz.prog (envL e127) := envL_ok (l := e127) trivial

theorem dendronref01_Order_p6 {T : Told} (H : Hands T) : PieceOk T Tryz.prog 41 (.loop (loopAt 6 (bodyOf Tryz.f127) .skip)) ⟨dendronref01_Order_i6, dendronref01_Order_o6, lp dendronref01_Order_s6 K0⟩ :=
  loop_piece H.ty (n127 H) hm (LHok_of (l := []) (by kernel_rfl) trivial) dendronref01_Order_l6 K0

theorem ok127 {T : Told} (H : Hands T) : CtrOk T Tryz.prog 127 c127 :=
  fn_ok H.ty (n127 H) hm (lh := dendronref01_Order_lh) (ct := c127) (dcd := fun y => (y.2.1)) Tryz.func127 (by kernel_rfl) (by rfl) (LHok_of (l := [(.loop (loopAt 6 (bodyOf Tryz.f127) .skip), ⟨dendronref01_Order_i6, dendronref01_Order_o6, lp dendronref01_Order_s6 K0⟩)]) (by kernel_rfl) ⟨dendronref01_Order_p6 H, trivial⟩) (by decide) (fun _ => rfl) (fun x r h => (dendronref01_Order_eq x.1 x.2.1).trans h)

theorem n150 {T : Told} (H : Hands T) : EnvOk T Tryz.prog (envL e150) := envL_ok (l := e150) ⟨ok146 H, ok147 H, trivial⟩

theorem dendronref01_Minus_p4 {T : Told} (H : Hands T) : PieceOk T Tryz.prog 35 (.loop (loopAt 4 (bodyOf Tryz.f150) .skip)) ⟨dendronref01_Minus_i4, dendronref01_Minus_o4, lp dendronref01_Minus_s4 K0⟩ :=
  loop_piece H.ty (n150 H) hm (LHok_of (l := []) (by kernel_rfl) trivial) dendronref01_Minus_l4 K0

theorem ok150 {T : Told} (H : Hands T) : CtrOk T Tryz.prog 150 c150 :=
  fn_ok H.ty (n150 H) hm (lh := dendronref01_Minus_lh) (ct := c150) (dcd := fun y => (y.2.1)) Tryz.func150 (by kernel_rfl) (by rfl) (LHok_of (l := [(.loop (loopAt 4 (bodyOf Tryz.f150) .skip), ⟨dendronref01_Minus_i4, dendronref01_Minus_o4, lp dendronref01_Minus_s4 K0⟩)]) (by kernel_rfl) ⟨dendronref01_Minus_p4 H, trivial⟩) (by decide) (fun _ => rfl) (fun x r h => (dendronref01_Minus_eq x.1 x.2.1).trans h)

theorem n145 {T : Told} (H : Hands T) : EnvOk T Tryz.prog (envL e145) := envL_ok (l := e145) ⟨ok127 H, ok128 H, ok133 H, ok147 H, ok150 H, trivial⟩

theorem dendronref01_Over_p12 {T : Told} (H : Hands T) : PieceOk T Tryz.prog 65 (.loop (loopAt 12 (bodyOf Tryz.f145) .skip)) ⟨dendronref01_Over_i12, dendronref01_Over_o12, lp dendronref01_Over_s12 K0⟩ :=
  loop_piece H.ty (n145 H) hm (LHok_of (l := []) (by kernel_rfl) trivial) dendronref01_Over_l12 K0

theorem dendronref01_Over_p4 {T : Told} (H : Hands T) : PieceOk T Tryz.prog 65 (.loop (loopAt 4 (bodyOf Tryz.f145) .skip)) ⟨dendronref01_Over_i4, dendronref01_Over_o4, lp dendronref01_Over_s4 K0⟩ :=
  loop_piece H.ty (n145 H) hm (LHok_of (l := [(.loop (loopAt 12 (bodyOf Tryz.f145) .skip), ⟨dendronref01_Over_i12, dendronref01_Over_o12, lp dendronref01_Over_s12 K0⟩)]) (by kernel_rfl) ⟨dendronref01_Over_p12 H, trivial⟩) dendronref01_Over_l4 K0

theorem ok145 {T : Told} (H : Hands T) : CtrOk T Tryz.prog 145 c145 :=
  fn_ok H.ty (n145 H) hm (lh := dendronref01_Over_lh) (ct := c145) (dcd := fun y => (y.2.1, y.2.2.1)) Tryz.func145 (by kernel_rfl) (by rfl) (LHok_of (l := [(.loop (loopAt 4 (bodyOf Tryz.f145) .skip), ⟨dendronref01_Over_i4, dendronref01_Over_o4, lp dendronref01_Over_s4 K0⟩)]) (by kernel_rfl) ⟨dendronref01_Over_p4 H, trivial⟩) (by decide) (fun _ => rfl) (fun x r h => (dendronref01_Over_eq x.1 x.2.1).trans h)

theorem n126 {T : Told} (H : Hands T) : EnvOk T Tryz.prog (envL e126) := envL_ok (l := e126) ⟨ok145 H, trivial⟩

theorem dendronref01_Gcd_p1 {T : Told} (H : Hands T) : PieceOk T Tryz.prog 19 (.loop (loopAt 1 (bodyOf Tryz.f126) .skip)) ⟨dendronref01_Gcd_i1, dendronref01_Gcd_o1, lp dendronref01_Gcd_s1 K0⟩ :=
  loop_piece H.ty (n126 H) hm (LHok_of (l := []) (by kernel_rfl) trivial) dendronref01_Gcd_l1 K0

theorem ok126 {T : Told} (H : Hands T) : CtrOk T Tryz.prog 126 c126 :=
  fn_ok H.ty (n126 H) hm (lh := dendronref01_Gcd_lh) (ct := c126) (dcd := fun y => (y.2.1)) Tryz.func126 (by kernel_rfl) (by rfl) (LHok_of (l := [(.loop (loopAt 1 (bodyOf Tryz.f126) .skip), ⟨dendronref01_Gcd_i1, dendronref01_Gcd_o1, lp dendronref01_Gcd_s1 K0⟩)]) (by kernel_rfl) ⟨dendronref01_Gcd_p1 H, trivial⟩) (by decide) (fun _ => rfl) (fun x r h => (dendronref01_Gcd_eq x.1 x.2.1).trans h)

theorem n85 {T : Told} (H : Hands T) : EnvOk T Tryz.prog (envL e85) := envL_ok (l := e85) ⟨ok87 H, ok125 H, ok126 H, ok127 H, ok128 H, trivial⟩

theorem ok85 {T : Told} (H : Hands T) : CtrOk T Tryz.prog 85 c85 :=
  fn_ok H.ty (n85 H) hm (lh := dendronref03_Right_lh) (ct := c85) (dcd := fun y => (y.2.1)) Tryz.func85 (by kernel_rfl) (by rfl) (LHok_of (l := []) (by kernel_rfl) trivial) (by decide) (fun _ => rfl) (fun x r h => (dendronref03_Right_eq x.1).trans h)

theorem n129 {T : Told} (H : Hands T) : EnvOk T Tryz.prog (envL e129) := envL_ok (l := e129) ⟨ok127 H, trivial⟩

theorem ok129 {T : Told} (H : Hands T) : CtrOk T Tryz.prog 129 c129 :=
  fn_ok H.ty (n129 H) hm (lh := dendronref02_Order_lh) (ct := c129) (dcd := fun y => (y.2.1)) Tryz.func129 (by kernel_rfl) (by rfl) (LHok_of (l := []) (by kernel_rfl) trivial) (by decide) (fun _ => rfl) (fun x r h => (dendronref02_Order_eq x.1 x.2.1).trans h)

theorem n130 {T : Told} (H : Hands T) : EnvOk T Tryz.prog (envL e130) := envL_ok (l := e130) ⟨ok133 H, ok135 H, trivial⟩

theorem ok130 {T : Told} (H : Hands T) : CtrOk T Tryz.prog 130 c130 :=
  fn_ok H.ty (n130 H) hm (lh := dendronref02_Times_lh) (ct := c130) (dcd := fun y => (y.2.1)) Tryz.func130 (by kernel_rfl) (by rfl) (LHok_of (l := []) (by kernel_rfl) trivial) (by decide) (fun _ => rfl) (fun x r h => (dendronref02_Times_eq x.1 x.2.1).trans h)

theorem n131 {T : Told} (H : Hands T) : EnvOk T Tryz.prog (envL e131) := envL_ok (l := e131) ⟨ok135 H, trivial⟩

theorem ok131 {T : Told} (H : Hands T) : CtrOk T Tryz.prog 131 c131 :=
  fn_ok H.ty (n131 H) hm (lh := dendronref03_den_lh) (ct := c131) (dcd := fun y => (y.2.1)) Tryz.func131 (by kernel_rfl) (by rfl) (LHok_of (l := []) (by kernel_rfl) trivial) (by decide) (fun _ => rfl) (fun x r h => (dendronref03_den_eq x.1).trans h)

theorem n86 {T : Told} (H : Hands T) : EnvOk T Tryz.prog (envL e86) := envL_ok (l := e86) ⟨ok129 H, ok130 H, ok131 H, trivial⟩

theorem ok86 {T : Told} (H : Hands T) : CtrOk T Tryz.prog 86 c86 :=
  fn_ok H.ty (n86 H) hm (lh := dendronref03_Order_lh) (ct := c86) (dcd := fun y => (y.2.1)) Tryz.func86 (by kernel_rfl) (by rfl) (LHok_of (l := []) (by kernel_rfl) trivial) (by decide) (fun _ => rfl) (fun x r h => (dendronref03_Order_eq x.1 x.2.1).trans h)

theorem n47 {T : Told} (H : Hands T) : EnvOk T Tryz.prog (envL e47) := envL_ok (l := e47) ⟨ok48 H, ok85 H, ok86 H, trivial⟩

theorem ok47 {T : Told} (H : Hands T) : CtrOk T Tryz.prog 47 c47 :=
  fn_ok H.ty (n47 H) hm (lh := dendronref03_Is_lh) (ct := c47) (dcd := fun y => (y.2.1)) Tryz.func47 (by kernel_rfl) (by rfl) (LHok_of (l := []) (by kernel_rfl) trivial) (by decide) (fun _ => rfl) (fun x r h => (dendronref03_Is_eq x.1 x.2.1).trans h)

theorem n14 {T : Told} (H : Hands T) : EnvOk T Tryz.prog (envL e14) := envL_ok (l := e14) ⟨ok47 H, ok48 H, trivial⟩

theorem ok14 {T : Told} (H : Hands T) : CtrOk T Tryz.prog 14 c14 :=
  fn_ok H.ty (n14 H) hm (lh := dendronref10_Is_lh) (ct := c14) (dcd := fun y => (y.2.1)) Tryz.func14 (by kernel_rfl) (by rfl) (LHok_of (l := []) (by kernel_rfl) trivial) (by decide) (fun _ => rfl) (fun x r h => (dendronref10_Is_eq x.1 x.2.1).trans h)

theorem n90 {T : Told} (H : Hands T) : EnvOk T Tryz.prog (envL e90) := envL_ok (l := e90) trivial

theorem dendronlaw11_in_p2 {T : Told} (H : Hands T) : PieceOk T Tryz.prog 16 (.loop (loopAt 2 (bodyOf Tryz.f90) .skip)) ⟨dendronlaw11_in_i2, dendronlaw11_in_o2, lp dendronlaw11_in_s2 K0⟩ :=
  loop_piece H.ty (n90 H) hm (LHok_of (l := []) (by kernel_rfl) trivial) dendronlaw11_in_l2 K0

theorem ok90 {T : Told} (H : Hands T) : CtrOk T Tryz.prog 90 c90 :=
  fn_ok H.ty (n90 H) hm (lh := dendronlaw11_in_lh) (ct := c90) (dcd := fun y => (y.2.1)) Tryz.func90 (by kernel_rfl) (by rfl) (LHok_of (l := [(.loop (loopAt 2 (bodyOf Tryz.f90) .skip), ⟨dendronlaw11_in_i2, dendronlaw11_in_o2, lp dendronlaw11_in_s2 K0⟩)]) (by kernel_rfl) ⟨dendronlaw11_in_p2 H, trivial⟩) (by decide) (fun _ => rfl) (fun x r h => (dendronlaw11_in_eq x.1 x.2.1).trans h)

theorem n49 {T : Told} (H : Hands T) (n : Nat) (hr : CtrOk T Tryz.prog 49 (c49 n)) : EnvOk T Tryz.prog (envL (e49 n)) := envL_ok (l := (e49 n)) ⟨ok24 H, ok25 H, hr, ok53 H, ok54 H, ok90 H, trivial⟩

theorem ok49 {T : Told} (H : Hands T) : ∀ n, CtrOk T Tryz.prog 49 (c49 n)
  | 0 => CtrOk.never Tryz.func49 (by kernel_rfl) (by rfl) (fun _ => rfl)
  | n + 1 => fn_ok H.ty (n49 H n (ok49 H n)) hm (lh := dendronlaw11_below_lh n) (ct := c49 (n + 1)) (dcd := fun y => (y.2.1)) Tryz.func49 (by kernel_rfl) (by rfl) (LHok_of (l := []) (by kernel_rfl) trivial) (Nat.le_of_ble_eq_true rfl) (fun _ => rfl) (fun x r h => (dendronlaw11_below_eq n x.1 x.2.1 x.2.2.1 x.2.2.2.1).trans h)

theorem n15 {T : Told} (H : Hands T) : EnvOk T Tryz.prog (envL e15) := envL_ok (l := e15) ⟨ok23 H, ok24 H, ok49 H R0, trivial⟩

theorem dendronlaw11_Value_p3 {T : Told} (H : Hands T) : PieceOk T Tryz.prog 28 (.loop (loopAt 3 (bodyOf Tryz.f15) .skip)) ⟨dendronlaw11_Value_i3, dendronlaw11_Value_o3, lp dendronlaw11_Value_s3 K0⟩ :=
  loop_piece H.ty (n15 H) hm (LHok_of (l := []) (by kernel_rfl) trivial) dendronlaw11_Value_l3 K0

theorem ok15 {T : Told} (H : Hands T) : CtrOk T Tryz.prog 15 c15 :=
  fn_ok H.ty (n15 H) hm (lh := dendronlaw11_Value_lh) (ct := c15) (dcd := fun y => (y.2.1)) Tryz.func15 (by kernel_rfl) (by rfl) (LHok_of (l := [(.loop (loopAt 3 (bodyOf Tryz.f15) .skip), ⟨dendronlaw11_Value_i3, dendronlaw11_Value_o3, lp dendronlaw11_Value_s3 K0⟩)]) (by kernel_rfl) ⟨dendronlaw11_Value_p3 H, trivial⟩) (by decide) (fun _ => rfl) (fun x r h => (dendronlaw11_Value_eq x.1 x.2.1 x.2.2.1).trans h)

theorem n3 {T : Told} (H : Hands T) : EnvOk T Tryz.prog (envL e3) := envL_ok (l := e3) ⟨ok10 H, ok11 H, ok12 H, ok13 H, ok14 H, ok15 H, trivial⟩

theorem dendronlaw11_ExpectTables_p12 {T : Told} (H : Hands T) : PieceOk T Tryz.prog 92 (.loop (loopAt 12 (bodyOf Tryz.f3) .skip)) ⟨dendronlaw11_ExpectTables_i12, dendronlaw11_ExpectTables_o12, lp dendronlaw11_ExpectTables_s12 K0⟩ :=
  loop_piece H.ty (n3 H) hm (LHok_of (l := []) (by kernel_rfl) trivial) dendronlaw11_ExpectTables_l12 K0

theorem dendronlaw11_ExpectTables_p18 {T : Told} (H : Hands T) : PieceOk T Tryz.prog 92 (.loop (loopAt 18 (bodyOf Tryz.f3) .skip)) ⟨dendronlaw11_ExpectTables_i18, dendronlaw11_ExpectTables_o18, lp dendronlaw11_ExpectTables_s18 K0⟩ :=
  loop_piece H.ty (n3 H) hm (LHok_of (l := []) (by kernel_rfl) trivial) dendronlaw11_ExpectTables_l18 K0

theorem ok3 {T : Told} (H : Hands T) : CtrOk T Tryz.prog 3 c3 :=
  fn_ok H.ty (n3 H) hm (lh := dendronlaw11_ExpectTables_lh) (ct := c3) (dcd := fun y => (y.2.1)) Tryz.func3 (by kernel_rfl) (by rfl) (LHok_of (l := [(.loop (loopAt 12 (bodyOf Tryz.f3) .skip), ⟨dendronlaw11_ExpectTables_i12, dendronlaw11_ExpectTables_o12, lp dendronlaw11_ExpectTables_s12 K0⟩), (.loop (loopAt 18 (bodyOf Tryz.f3) .skip), ⟨dendronlaw11_ExpectTables_i18, dendronlaw11_ExpectTables_o18, lp dendronlaw11_ExpectTables_s18 K0⟩)]) (by kernel_rfl) ⟨dendronlaw11_ExpectTables_p12 H, dendronlaw11_ExpectTables_p18 H, trivial⟩) (by decide) (fun _ => rfl) (fun x r h => (dendronlaw11_ExpectTables_eq x.1 x.2.1).trans h)

theorem n19 {T : Told} (H : Hands T) : EnvOk T Tryz.prog (envL e19) := envL_ok (l := e19) ⟨ok39 H, trivial⟩

theorem ok19 {T : Told} (H : Hands T) : CtrOk T Tryz.prog 19 c19 :=
  fn_ok H.ty (n19 H) hm (lh := valid_Tree_lh) (ct := c19) (dcd := fun y => (y.2.1)) Tryz.func19 (by kernel_rfl) (by rfl) (LHok_of (l := []) (by kernel_rfl) trivial) (by decide) (fun _ => rfl) (fun x r h => (valid_Tree_eq x.1 x.2.1).trans h)

theorem n91 {T : Told} (H : Hands T) : EnvOk T Tryz.prog (envL e91) := envL_ok (l := e91) ⟨ok25 H, trivial⟩

theorem expect_along_p3 {T : Told} (H : Hands T) : PieceOk T Tryz.prog 86 (.loop (loopAt 3 (bodyOf Tryz.f91) .skip)) ⟨expect_along_i3, expect_along_o3, lp expect_along_s3 K0⟩ :=
  loop_piece H.ty (n91 H) hm (LHok_of (l := []) (by kernel_rfl) trivial) expect_along_l3 K0

theorem ok91 {T : Told} (H : Hands T) : CtrOk T Tryz.prog 91 c91 :=
  fn_ok H.ty (n91 H) hm (lh := expect_along_lh) (ct := c91) (dcd := fun y => (y.2.1)) Tryz.func91 (by kernel_rfl) (by rfl) (LHok_of (l := [(.loop (loopAt 3 (bodyOf Tryz.f91) .skip), ⟨expect_along_i3, expect_along_o3, lp expect_along_s3 K0⟩)]) (by kernel_rfl) ⟨expect_along_p3 H, trivial⟩) (by decide) (fun _ => rfl) (fun x r h => (expect_along_eq x.1 x.2.1 x.2.2.1 x.2.2.2.1).trans h)

theorem n52 {T : Told} (H : Hands T) (n : Nat) (hr : CtrOk T Tryz.prog 52 (c52 n)) : EnvOk T Tryz.prog (envL (e52 n)) := envL_ok (l := (e52 n)) ⟨hr, ok54 H, ok56 H, ok91 H, ok92 H, trivial⟩

theorem ok52 {T : Told} (H : Hands T) : ∀ n, CtrOk T Tryz.prog 52 (c52 n)
  | 0 => CtrOk.never Tryz.func52 (by kernel_rfl) (by rfl) (fun _ => rfl)
  | n + 1 => fn_ok H.ty (n52 H n (ok52 H n)) hm (lh := expect_legs_lh n) (ct := c52 (n + 1)) (dcd := fun y => (y.2.1)) Tryz.func52 (by kernel_rfl) (by rfl) (LHok_of (l := []) (by kernel_rfl) trivial) (Nat.le_of_ble_eq_true rfl) (fun _ => rfl) (fun x r h => (expect_legs_eq n x.1 x.2.1 x.2.2.1 x.2.2.2.1).trans h)

theorem n18 {T : Told} (H : Hands T) : EnvOk T Tryz.prog (envL e18) := envL_ok (l := e18) ⟨ok19 H, ok52 H R0, trivial⟩

theorem ok18 {T : Told} (H : Hands T) : CtrOk T Tryz.prog 18 c18 :=
  fn_ok H.ty (n18 H) hm (lh := expect_Legs_lh) (ct := c18) (dcd := fun y => (y.2.1, y.2.2.1)) Tryz.func18 (by kernel_rfl) (by rfl) (LHok_of (l := []) (by kernel_rfl) trivial) (by decide) (fun _ => rfl) (fun x r h => (expect_Legs_eq x.1 x.2.1).trans h)

theorem n20 {T : Told} (H : Hands T) (n : Nat) (hr : CtrOk T Tryz.prog 20 (c20 n)) : EnvOk T Tryz.prog (envL (e20 n)) := envL_ok (l := (e20 n)) ⟨hr, trivial⟩

theorem ok20 {T : Told} (H : Hands T) : ∀ n, CtrOk T Tryz.prog 20 (c20 n)
  | 0 => CtrOk.never Tryz.func20 (by kernel_rfl) (by rfl) (fun _ => rfl)
  | n + 1 => fn_ok H.ty (n20 H n (ok20 H n)) hm (lh := dendronlaw11_leaves_lh n) (ct := c20 (n + 1)) (dcd := fun y => (y.2.1)) Tryz.func20 (by kernel_rfl) (by rfl) (LHok_of (l := []) (by kernel_rfl) trivial) (Nat.le_of_ble_eq_true rfl) (fun _ => rfl) (fun x r h => (dendronlaw11_leaves_eq n x.1 x.2.1).trans h)

theorem n21 {T : Told} (H : Hands T) (n : Nat) (hr : CtrOk T Tryz.prog 21 (c21 n)) : EnvOk T Tryz.prog (envL (e21 n)) := envL_ok (l := (e21 n)) ⟨hr, ok25 H, ok41 H, ok53 H, ok54 H, trivial⟩

theorem dendronlaw11_share_p5 {T : Told} (H : Hands T) (n : Nat) (hr : CtrOk T Tryz.prog 21 (c21 n)) : PieceOk T Tryz.prog 90 (.loop (loopAt 5 (bodyOf Tryz.f21) .skip)) ⟨dendronlaw11_share_i5, dendronlaw11_share_o5, lp (dendronlaw11_share_s5 (dendronlaw11_share n)) K0⟩ :=
  loop_piece H.ty (n21 H n hr) hm (LHok_of (l := []) (by kernel_rfl) trivial) (dendronlaw11_share_l5 n) K0

theorem ok21 {T : Told} (H : Hands T) : ∀ n, CtrOk T Tryz.prog 21 (c21 n)
  | 0 => CtrOk.never Tryz.func21 (by kernel_rfl) (by rfl) (fun _ => rfl)
  | n + 1 => fn_ok H.ty (n21 H n (ok21 H n)) hm (lh := dendronlaw11_share_lh n) (ct := c21 (n + 1)) (dcd := fun y => (y.2.1, y.2.2.1, y.2.2.2.1, y.2.2.2.2.1)) Tryz.func21 (by kernel_rfl) (by rfl) (LHok_of (l := [(.loop (loopAt 5 (bodyOf Tryz.f21) .skip), ⟨dendronlaw11_share_i5, dendronlaw11_share_o5, lp (dendronlaw11_share_s5 (dendronlaw11_share n)) K0⟩)]) (by kernel_rfl) ⟨dendronlaw11_share_p5 H n (ok21 H n), trivial⟩) (Nat.le_of_ble_eq_true rfl) (fun _ => rfl) (fun x r h => (dendronlaw11_share_eq n x.1 x.2.1 x.2.2.1 x.2.2.2.1 x.2.2.2.2.1).trans h)

theorem n4 {T : Told} (H : Hands T) : EnvOk T Tryz.prog (envL e4) := envL_ok (l := e4) ⟨ok12 H, ok14 H, ok16 H, ok17 H, ok18 H, ok19 H, ok20 H R0, ok21 H R0, trivial⟩

theorem dendronlaw11_ExpectLegs_p16 {T : Told} (H : Hands T) : PieceOk T Tryz.prog 171 (.loop (loopAt 16 (bodyOf Tryz.f4) .skip)) ⟨dendronlaw11_ExpectLegs_i16, dendronlaw11_ExpectLegs_o16, lp dendronlaw11_ExpectLegs_s16 K0⟩ :=
  loop_piece H.ty (n4 H) hm (LHok_of (l := []) (by kernel_rfl) trivial) dendronlaw11_ExpectLegs_l16 K0

theorem dendronlaw11_ExpectLegs_p10 {T : Told} (H : Hands T) : PieceOk T Tryz.prog 171 (.loop (loopAt 10 (bodyOf Tryz.f4) .skip)) ⟨dendronlaw11_ExpectLegs_i10, dendronlaw11_ExpectLegs_o10, lp dendronlaw11_ExpectLegs_s10 K0⟩ :=
  loop_piece H.ty (n4 H) hm (LHok_of (l := [(.loop (loopAt 16 (bodyOf Tryz.f4) .skip), ⟨dendronlaw11_ExpectLegs_i16, dendronlaw11_ExpectLegs_o16, lp dendronlaw11_ExpectLegs_s16 K0⟩)]) (by kernel_rfl) ⟨dendronlaw11_ExpectLegs_p16 H, trivial⟩) dendronlaw11_ExpectLegs_l10 K0

theorem ok4 {T : Told} (H : Hands T) : CtrOk T Tryz.prog 4 c4 :=
  fn_ok H.ty (n4 H) hm (lh := dendronlaw11_ExpectLegs_lh) (ct := c4) (dcd := fun y => (y.2.1)) Tryz.func4 (by kernel_rfl) (by rfl) (LHok_of (l := [(.loop (loopAt 10 (bodyOf Tryz.f4) .skip), ⟨dendronlaw11_ExpectLegs_i10, dendronlaw11_ExpectLegs_o10, lp dendronlaw11_ExpectLegs_s10 K0⟩)]) (by kernel_rfl) ⟨dendronlaw11_ExpectLegs_p10 H, trivial⟩) (by decide) (fun _ => rfl) (fun x r h => (dendronlaw11_ExpectLegs_eq x.1 x.2.1).trans h)

theorem n55 {T : Told} (H : Hands T) : EnvOk T Tryz.prog (envL e55) := envL_ok (l := e55) trivial

theorem expect_down_p3 {T : Told} (H : Hands T) : PieceOk T Tryz.prog 31 (.loop (loopAt 3 (bodyOf Tryz.f55) .skip)) ⟨expect_down_i3, expect_down_o3, lp expect_down_s3 K0⟩ :=
  loop_piece H.ty (n55 H) hm (LHok_of (l := []) (by kernel_rfl) trivial) expect_down_l3 K0

theorem ok55 {T : Told} (H : Hands T) : CtrOk T Tryz.prog 55 c55 :=
  fn_ok H.ty (n55 H) hm (lh := expect_down_lh) (ct := c55) (dcd := fun y => (y.2.1)) Tryz.func55 (by kernel_rfl) (by rfl) (LHok_of (l := [(.loop (loopAt 3 (bodyOf Tryz.f55) .skip), ⟨expect_down_i3, expect_down_o3, lp expect_down_s3 K0⟩)]) (by kernel_rfl) ⟨expect_down_p3 H, trivial⟩) (by decide) (fun _ => rfl) (fun x r h => (expect_down_eq x.1).trans h)

theorem n22 {T : Told} (H : Hands T) : EnvOk T Tryz.prog (envL e22) := envL_ok (l := e22) ⟨ok19 H, ok55 H, ok56 H, ok57 H, trivial⟩

theorem expect_Nodes_p6 {T : Told} (H : Hands T) : PieceOk T Tryz.prog 64 (.loop (loopAt 6 (bodyOf Tryz.f22) .skip)) ⟨expect_Nodes_i6, expect_Nodes_o6, lp expect_Nodes_s6 K0⟩ :=
  loop_piece H.ty (n22 H) hm (LHok_of (l := []) (by kernel_rfl) trivial) expect_Nodes_l6 K0

theorem ok22 {T : Told} (H : Hands T) : CtrOk T Tryz.prog 22 c22 :=
  fn_ok H.ty (n22 H) hm (lh := expect_Nodes_lh) (ct := c22) (dcd := fun y => (y.2.1, y.2.2.1)) Tryz.func22 (by kernel_rfl) (by rfl) (LHok_of (l := [(.loop (loopAt 6 (bodyOf Tryz.f22) .skip), ⟨expect_Nodes_i6, expect_Nodes_o6, lp expect_Nodes_s6 K0⟩)]) (by kernel_rfl) ⟨expect_Nodes_p6 H, trivial⟩) (by decide) (fun _ => rfl) (fun x r h => (expect_Nodes_eq x.1 x.2.1).trans h)

theorem n65 {T : Told} (H : Hands T) : EnvOk T Tryz.prog (envL e65) := envL_ok (l := e65) trivial

theorem nat_Right_p2 {T : Told} (H : Hands T) : PieceOk T Tryz.prog 26 (.loop (loopAt 2 (bodyOf Tryz.f65) .skip)) ⟨nat_Right_i2, nat_Right_o2, lp nat_Right_s2 K0⟩ :=
  loop_piece H.ty (n65 H) hm (LHok_of (l := []) (by kernel_rfl) trivial) nat_Right_l2 K0

theorem ok65 {T : Told} (H : Hands T) : CtrOk T Tryz.prog 65 c65 :=
  fn_ok H.ty (n65 H) hm (lh := nat_Right_lh) (ct := c65) (dcd := fun y => (y.2.1)) Tryz.func65 (by kernel_rfl) (by rfl) (LHok_of (l := [(.loop (loopAt 2 (bodyOf Tryz.f65) .skip), ⟨nat_Right_i2, nat_Right_o2, lp nat_Right_s2 K0⟩)]) (by kernel_rfl) ⟨nat_Right_p2 H, trivial⟩) (by decide) (fun _ => rfl) (fun x r h => (nat_Right_eq x.1).trans h)

theorem n64 {T : Told} (H : Hands T) : EnvOk T Tryz.prog (envL e64) := envL_ok (l := e64) ⟨ok65 H, trivial⟩

theorem ok64 {T : Told} (H : Hands T) : CtrOk T Tryz.prog 64 c64 :=
  fn_ok H.ty (n64 H) hm (lh := whole_Right_lh) (ct := c64) (dcd := fun y => (y.2.1)) Tryz.func64 (by kernel_rfl) (by rfl) (LHok_of (l := []) (by kernel_rfl) trivial) (by decide) (fun _ => rfl) (fun x r h => (whole_Right_eq x.1).trans h)

theorem n26 {T : Told} (H : Hands T) : EnvOk T Tryz.prog (envL e26) := envL_ok (l := e26) ⟨ok58 H, ok64 H, ok65 H, ok66 H, ok67 H, trivial⟩

theorem ok26 {T : Told} (H : Hands T) : CtrOk T Tryz.prog 26 c26 :=
  fn_ok H.ty (n26 H) hm (lh := ratio_Right_lh) (ct := c26) (dcd := fun y => (y.2.1)) Tryz.func26 (by kernel_rfl) (by rfl) (LHok_of (l := []) (by kernel_rfl) trivial) (by decide) (fun _ => rfl) (fun x r h => (ratio_Right_eq x.1).trans h)

theorem n5 {T : Told} (H : Hands T) : EnvOk T Tryz.prog (envL e5) := envL_ok (l := e5) ⟨ok12 H, ok14 H, ok17 H, ok19 H, ok20 H R0, ok22 H, ok23 H, ok24 H, ok25 H, ok26 H, trivial⟩

theorem dendronlaw11_ExpectNodes_p13 {T : Told} (H : Hands T) : PieceOk T Tryz.prog 104 (.loop (loopAt 13 (bodyOf Tryz.f5) .skip)) ⟨dendronlaw11_ExpectNodes_i13, dendronlaw11_ExpectNodes_o13, lp dendronlaw11_ExpectNodes_s13 K0⟩ :=
  loop_piece H.ty (n5 H) hm (LHok_of (l := []) (by kernel_rfl) trivial) dendronlaw11_ExpectNodes_l13 K0

theorem dendronlaw11_ExpectNodes_p8 {T : Told} (H : Hands T) : PieceOk T Tryz.prog 104 (.loop (loopAt 8 (bodyOf Tryz.f5) .skip)) ⟨dendronlaw11_ExpectNodes_i8, dendronlaw11_ExpectNodes_o8, lp dendronlaw11_ExpectNodes_s8 K0⟩ :=
  loop_piece H.ty (n5 H) hm (LHok_of (l := [(.loop (loopAt 13 (bodyOf Tryz.f5) .skip), ⟨dendronlaw11_ExpectNodes_i13, dendronlaw11_ExpectNodes_o13, lp dendronlaw11_ExpectNodes_s13 K0⟩)]) (by kernel_rfl) ⟨dendronlaw11_ExpectNodes_p13 H, trivial⟩) dendronlaw11_ExpectNodes_l8 K0

theorem ok5 {T : Told} (H : Hands T) : CtrOk T Tryz.prog 5 c5 :=
  fn_ok H.ty (n5 H) hm (lh := dendronlaw11_ExpectNodes_lh) (ct := c5) (dcd := fun y => (y.2.1)) Tryz.func5 (by kernel_rfl) (by rfl) (LHok_of (l := [(.loop (loopAt 8 (bodyOf Tryz.f5) .skip), ⟨dendronlaw11_ExpectNodes_i8, dendronlaw11_ExpectNodes_o8, lp dendronlaw11_ExpectNodes_s8 K0⟩)]) (by kernel_rfl) ⟨dendronlaw11_ExpectNodes_p8 H, trivial⟩) (by decide) (fun _ => rfl) (fun x r h => (dendronlaw11_ExpectNodes_eq x.1 x.2.1).trans h)

theorem n109 {T : Told} (H : Hands T) : EnvOk T Tryz.prog (envL e109) := envL_ok (l := e109) ⟨ok94 H, trivial⟩

theorem ok109 {T : Told} (H : Hands T) : CtrOk T Tryz.prog 109 c109 :=
  fn_ok H.ty (n109 H) hm (lh := route_next_lh) (ct := c109) (dcd := fun y => (y.2.1)) Tryz.func109 (by kernel_rfl) (by rfl) (LHok_of (l := []) (by kernel_rfl) trivial) (by decide) (fun _ => rfl) (fun x r h => (route_next_eq x.1 x.2.1).trans h)

theorem n68 {T : Told} (H : Hands T) : EnvOk T Tryz.prog (envL e68) := envL_ok (l := e68) ⟨ok19 H, ok109 H, trivial⟩

theorem route_Way_p5 {T : Told} (H : Hands T) : PieceOk T Tryz.prog 31 (.loop (loopAt 5 (bodyOf Tryz.f68) .skip)) ⟨route_Way_i5, route_Way_o5, lp route_Way_s5 K0⟩ :=
  loop_piece H.ty (n68 H) hm (LHok_of (l := []) (by kernel_rfl) trivial) route_Way_l5 K0

theorem ok68 {T : Told} (H : Hands T) : CtrOk T Tryz.prog 68 c68 :=
  fn_ok H.ty (n68 H) hm (lh := route_Way_lh) (ct := c68) (dcd := fun y => (y.2.1, y.2.2.1)) Tryz.func68 (by kernel_rfl) (by rfl) (LHok_of (l := [(.loop (loopAt 5 (bodyOf Tryz.f68) .skip), ⟨route_Way_i5, route_Way_o5, lp route_Way_s5 K0⟩)]) (by kernel_rfl) ⟨route_Way_p5 H, trivial⟩) (by decide) (fun _ => rfl) (fun x r h => (route_Way_eq x.1 x.2.1).trans h)

theorem n110 {T : Told} (H : Hands T) : EnvOk T Tryz.prog (envL e110) := envL_ok (l := e110) ⟨ok56 H, ok123 H, trivial⟩

theorem ok110 {T : Told} (H : Hands T) : CtrOk T Tryz.prog 110 c110 :=
  fn_ok H.ty (n110 H) hm (lh := ratio_Neg_lh) (ct := c110) (dcd := fun y => (y.2.1)) Tryz.func110 (by kernel_rfl) (by rfl) (LHok_of (l := []) (by kernel_rfl) trivial) (by decide) (fun _ => rfl) (fun x r h => (ratio_Neg_eq x.1).trans h)

theorem n69 {T : Told} (H : Hands T) : EnvOk T Tryz.prog (envL e69) := envL_ok (l := e69) ⟨ok24 H, ok110 H, trivial⟩

theorem ok69 {T : Told} (H : Hands T) : CtrOk T Tryz.prog 69 c69 :=
  fn_ok H.ty (n69 H) hm (lh := ratio_Sub_lh) (ct := c69) (dcd := fun y => (y.2.1)) Tryz.func69 (by kernel_rfl) (by rfl) (LHok_of (l := []) (by kernel_rfl) trivial) (by decide) (fun _ => rfl) (fun x r h => (ratio_Sub_eq x.1 x.2.1).trans h)

theorem n27 {T : Told} (H : Hands T) : EnvOk T Tryz.prog (envL e27) := envL_ok (l := e27) ⟨ok22 H, ok45 H, ok68 H, ok69 H, trivial⟩

theorem saabas_Steps_p11 {T : Told} (H : Hands T) : PieceOk T Tryz.prog 85 (.loop (loopAt 11 (bodyOf Tryz.f27) .skip)) ⟨saabas_Steps_i11, saabas_Steps_o11, lp saabas_Steps_s11 K0⟩ :=
  loop_piece H.ty (n27 H) hm (LHok_of (l := []) (by kernel_rfl) trivial) saabas_Steps_l11 K0

theorem saabas_Steps_p6 {T : Told} (H : Hands T) : PieceOk T Tryz.prog 85 (.loop (loopAt 6 (bodyOf Tryz.f27) .skip)) ⟨saabas_Steps_i6, saabas_Steps_o6, lp saabas_Steps_s6 K0⟩ :=
  loop_piece H.ty (n27 H) hm (LHok_of (l := [(.loop (loopAt 11 (bodyOf Tryz.f27) .skip), ⟨saabas_Steps_i11, saabas_Steps_o11, lp saabas_Steps_s11 K0⟩)]) (by kernel_rfl) ⟨saabas_Steps_p11 H, trivial⟩) saabas_Steps_l6 K0

theorem ok27 {T : Told} (H : Hands T) : CtrOk T Tryz.prog 27 c27 :=
  fn_ok H.ty (n27 H) hm (lh := saabas_Steps_lh) (ct := c27) (dcd := fun y => (y.2.1, y.2.2.1)) Tryz.func27 (by kernel_rfl) (by rfl) (LHok_of (l := [(.loop (loopAt 6 (bodyOf Tryz.f27) .skip), ⟨saabas_Steps_i6, saabas_Steps_o6, lp saabas_Steps_s6 K0⟩)]) (by kernel_rfl) ⟨saabas_Steps_p6 H, trivial⟩) (by decide) (fun _ => rfl) (fun x r h => (saabas_Steps_eq x.1 x.2.1).trans h)

theorem n72 {T : Told} (H : Hands T) : EnvOk T Tryz.prog (envL e72) := envL_ok (l := e72) ⟨ok23 H, trivial⟩

theorem saabas_zeros_p3 {T : Told} (H : Hands T) : PieceOk T Tryz.prog 13 (.loop (loopAt 3 (bodyOf Tryz.f72) .skip)) ⟨saabas_zeros_i3, saabas_zeros_o3, lp saabas_zeros_s3 K0⟩ :=
  loop_piece H.ty (n72 H) hm (LHok_of (l := []) (by kernel_rfl) trivial) saabas_zeros_l3 K0

theorem ok72 {T : Told} (H : Hands T) : CtrOk T Tryz.prog 72 c72 :=
  fn_ok H.ty (n72 H) hm (lh := saabas_zeros_lh) (ct := c72) (dcd := fun y => (y.2.1)) Tryz.func72 (by kernel_rfl) (by rfl) (LHok_of (l := [(.loop (loopAt 3 (bodyOf Tryz.f72) .skip), ⟨saabas_zeros_i3, saabas_zeros_o3, lp saabas_zeros_s3 K0⟩)]) (by kernel_rfl) ⟨saabas_zeros_p3 H, trivial⟩) (by decide) (fun _ => rfl) (fun x r h => (saabas_zeros_eq x.1).trans h)

theorem n30 {T : Told} (H : Hands T) : EnvOk T Tryz.prog (envL e30) := envL_ok (l := e30) ⟨ok24 H, ok27 H, ok72 H, trivial⟩

theorem saabas_Values_p6 {T : Told} (H : Hands T) : PieceOk T Tryz.prog 43 (.loop (loopAt 6 (bodyOf Tryz.f30) .skip)) ⟨saabas_Values_i6, saabas_Values_o6, lp saabas_Values_s6 K0⟩ :=
  loop_piece H.ty (n30 H) hm (LHok_of (l := []) (by kernel_rfl) trivial) saabas_Values_l6 K0

theorem ok30 {T : Told} (H : Hands T) : CtrOk T Tryz.prog 30 c30 :=
  fn_ok H.ty (n30 H) hm (lh := saabas_Values_lh) (ct := c30) (dcd := fun y => (y.2.1, y.2.2.1)) Tryz.func30 (by kernel_rfl) (by rfl) (LHok_of (l := [(.loop (loopAt 6 (bodyOf Tryz.f30) .skip), ⟨saabas_Values_i6, saabas_Values_o6, lp saabas_Values_s6 K0⟩)]) (by kernel_rfl) ⟨saabas_Values_p6 H, trivial⟩) (by decide) (fun _ => rfl) (fun x r h => (saabas_Values_eq x.1 x.2.1).trans h)

theorem n28 {T : Told} (H : Hands T) : EnvOk T Tryz.prog (envL e28) := envL_ok (l := e28) ⟨ok30 H, ok40 H, ok41 H, ok43 H, ok44 H, trivial⟩

theorem ok28 {T : Told} (H : Hands T) : CtrOk T Tryz.prog 28 c28 :=
  fn_ok H.ty (n28 H) hm (lh := dendronlaw12_awake_lh) (ct := c28) (dcd := fun y => (y.2.1)) Tryz.func28 (by kernel_rfl) (by rfl) (LHok_of (l := []) (by kernel_rfl) trivial) (by decide) (fun _ => rfl) (fun x r h => (dendronlaw12_awake_eq ).trans h)

theorem n111 {T : Told} (H : Hands T) : EnvOk T Tryz.prog (envL e111) := envL_ok (l := e111) ⟨ok81 H, trivial⟩

theorem ok111 {T : Told} (H : Hands T) : CtrOk T Tryz.prog 111 c111 :=
  fn_ok H.ty (n111 H) hm (lh := dendronlaw10_left_lh) (ct := c111) (dcd := fun y => (y.2.1)) Tryz.func111 (by kernel_rfl) (by rfl) (LHok_of (l := []) (by kernel_rfl) trivial) (by decide) (fun _ => rfl) (fun x r h => (dendronlaw10_left_eq x.1 x.2.1).trans h)

theorem n70 {T : Told} (H : Hands T) (n : Nat) (hr : CtrOk T Tryz.prog 70 (c70 n)) : EnvOk T Tryz.prog (envL (e70 n)) := envL_ok (l := (e70 n)) ⟨hr, ok111 H, trivial⟩

theorem ok70 {T : Told} (H : Hands T) : ∀ n, CtrOk T Tryz.prog 70 (c70 n)
  | 0 => CtrOk.never Tryz.func70 (by kernel_rfl) (by rfl) (fun _ => rfl)
  | n + 1 => fn_ok H.ty (n70 H n (ok70 H n)) hm (lh := dendronlaw10_Way_lh n) (ct := c70 (n + 1)) (dcd := fun y => (y.2.1)) Tryz.func70 (by kernel_rfl) (by rfl) (LHok_of (l := []) (by kernel_rfl) trivial) (Nat.le_of_ble_eq_true rfl) (fun _ => rfl) (fun x r h => (dendronlaw10_Way_eq n x.1 x.2.1 x.2.2.1).trans h)

theorem n112 {T : Told} (H : Hands T) (n : Nat) (hr : CtrOk T Tryz.prog 112 (c112 n)) : EnvOk T Tryz.prog (envL (e112 n)) := envL_ok (l := (e112 n)) ⟨ok24 H, ok25 H, hr, trivial⟩

theorem ok112 {T : Told} (H : Hands T) : ∀ n, CtrOk T Tryz.prog 112 (c112 n)
  | 0 => CtrOk.never Tryz.func112 (by kernel_rfl) (by rfl) (fun _ => rfl)
  | n + 1 => fn_ok H.ty (n112 H n (ok112 H n)) hm (lh := dendronlaw12_sum_lh n) (ct := c112 (n + 1)) (dcd := fun y => (y.2.1)) Tryz.func112 (by kernel_rfl) (by rfl) (LHok_of (l := []) (by kernel_rfl) trivial) (Nat.le_of_ble_eq_true rfl) (fun _ => rfl) (fun x r h => (dendronlaw12_sum_eq n x.1 x.2.1).trans h)

theorem n71 {T : Told} (H : Hands T) : EnvOk T Tryz.prog (envL e71) := envL_ok (l := e71) ⟨ok53 H, ok112 H R0, trivial⟩

theorem ok71 {T : Told} (H : Hands T) : CtrOk T Tryz.prog 71 c71 :=
  fn_ok H.ty (n71 H) hm (lh := dendronlaw12_mean_lh) (ct := c71) (dcd := fun y => (y.2.1)) Tryz.func71 (by kernel_rfl) (by rfl) (LHok_of (l := []) (by kernel_rfl) trivial) (by decide) (fun _ => rfl) (fun x r h => (dendronlaw12_mean_eq x.1 x.2.1).trans h)

theorem n29 {T : Told} (H : Hands T) : EnvOk T Tryz.prog (envL e29) := envL_ok (l := e29) ⟨ok69 H, ok70 H R0, ok71 H, trivial⟩

theorem dendronlaw12_steps_p8 {T : Told} (H : Hands T) : PieceOk T Tryz.prog 69 (.loop (loopAt 8 (bodyOf Tryz.f29) .skip)) ⟨dendronlaw12_steps_i8, dendronlaw12_steps_o8, lp dendronlaw12_steps_s8 K0⟩ :=
  loop_piece H.ty (n29 H) hm (LHok_of (l := []) (by kernel_rfl) trivial) dendronlaw12_steps_l8 K0

theorem dendronlaw12_steps_p3 {T : Told} (H : Hands T) : PieceOk T Tryz.prog 69 (.loop (loopAt 3 (bodyOf Tryz.f29) .skip)) ⟨dendronlaw12_steps_i3, dendronlaw12_steps_o3, lp dendronlaw12_steps_s3 K0⟩ :=
  loop_piece H.ty (n29 H) hm (LHok_of (l := [(.loop (loopAt 8 (bodyOf Tryz.f29) .skip), ⟨dendronlaw12_steps_i8, dendronlaw12_steps_o8, lp dendronlaw12_steps_s8 K0⟩)]) (by kernel_rfl) ⟨dendronlaw12_steps_p8 H, trivial⟩) dendronlaw12_steps_l3 K0

theorem ok29 {T : Told} (H : Hands T) : CtrOk T Tryz.prog 29 c29 :=
  fn_ok H.ty (n29 H) hm (lh := dendronlaw12_steps_lh) (ct := c29) (dcd := fun y => (y.2.1)) Tryz.func29 (by kernel_rfl) (by rfl) (LHok_of (l := [(.loop (loopAt 3 (bodyOf Tryz.f29) .skip), ⟨dendronlaw12_steps_i3, dendronlaw12_steps_o3, lp dendronlaw12_steps_s3 K0⟩)]) (by kernel_rfl) ⟨dendronlaw12_steps_p3 H, trivial⟩) (by decide) (fun _ => rfl) (fun x r h => (dendronlaw12_steps_eq x.1 x.2.1).trans h)

theorem n6 {T : Told} (H : Hands T) : EnvOk T Tryz.prog (envL e6) := envL_ok (l := e6) ⟨ok10 H, ok11 H, ok14 H, ok27 H, ok28 H, ok29 H, trivial⟩

theorem dendronlaw12_SaabasSteps_p10 {T : Told} (H : Hands T) : PieceOk T Tryz.prog 108 (.loop (loopAt 10 (bodyOf Tryz.f6) .skip)) ⟨dendronlaw12_SaabasSteps_i10, dendronlaw12_SaabasSteps_o10, lp dendronlaw12_SaabasSteps_s10 K0⟩ :=
  loop_piece H.ty (n6 H) hm (LHok_of (l := []) (by kernel_rfl) trivial) dendronlaw12_SaabasSteps_l10 K0

theorem ok6 {T : Told} (H : Hands T) : CtrOk T Tryz.prog 6 c6 :=
  fn_ok H.ty (n6 H) hm (lh := dendronlaw12_SaabasSteps_lh) (ct := c6) (dcd := fun y => (y.2.1)) Tryz.func6 (by kernel_rfl) (by rfl) (LHok_of (l := [(.loop (loopAt 10 (bodyOf Tryz.f6) .skip), ⟨dendronlaw12_SaabasSteps_i10, dendronlaw12_SaabasSteps_o10, lp dendronlaw12_SaabasSteps_s10 K0⟩)]) (by kernel_rfl) ⟨dendronlaw12_SaabasSteps_p10 H, trivial⟩) (by decide) (fun _ => rfl) (fun x r h => (dendronlaw12_SaabasSteps_eq x.1 x.2.1).trans h)

theorem n7 {T : Told} (H : Hands T) : EnvOk T Tryz.prog (envL e7) := envL_ok (l := e7) ⟨ok10 H, ok11 H, ok14 H, ok23 H, ok24 H, ok28 H, ok29 H, ok30 H, trivial⟩

theorem dendronlaw12_SaabasValues_p14 {T : Told} (H : Hands T) : PieceOk T Tryz.prog 87 (.loop (loopAt 14 (bodyOf Tryz.f7) .skip)) ⟨dendronlaw12_SaabasValues_i14, dendronlaw12_SaabasValues_o14, lp dendronlaw12_SaabasValues_s14 K0⟩ :=
  loop_piece H.ty (n7 H) hm (LHok_of (l := []) (by kernel_rfl) trivial) dendronlaw12_SaabasValues_l14 K0

theorem dendronlaw12_SaabasValues_p10 {T : Told} (H : Hands T) : PieceOk T Tryz.prog 87 (.loop (loopAt 10 (bodyOf Tryz.f7) .skip)) ⟨dendronlaw12_SaabasValues_i10, dendronlaw12_SaabasValues_o10, lp dendronlaw12_SaabasValues_s10 K0⟩ :=
  loop_piece H.ty (n7 H) hm (LHok_of (l := [(.loop (loopAt 14 (bodyOf Tryz.f7) .skip), ⟨dendronlaw12_SaabasValues_i14, dendronlaw12_SaabasValues_o14, lp dendronlaw12_SaabasValues_s14 K0⟩)]) (by kernel_rfl) ⟨dendronlaw12_SaabasValues_p14 H, trivial⟩) dendronlaw12_SaabasValues_l10 K0

theorem ok7 {T : Told} (H : Hands T) : CtrOk T Tryz.prog 7 c7 :=
  fn_ok H.ty (n7 H) hm (lh := dendronlaw12_SaabasValues_lh) (ct := c7) (dcd := fun y => (y.2.1)) Tryz.func7 (by kernel_rfl) (by rfl) (LHok_of (l := [(.loop (loopAt 10 (bodyOf Tryz.f7) .skip), ⟨dendronlaw12_SaabasValues_i10, dendronlaw12_SaabasValues_o10, lp dendronlaw12_SaabasValues_s10 K0⟩)]) (by kernel_rfl) ⟨dendronlaw12_SaabasValues_p10 H, trivial⟩) (by decide) (fun _ => rfl) (fun x r h => (dendronlaw12_SaabasValues_eq x.1 x.2.1).trans h)

theorem n73 {T : Told} (H : Hands T) : EnvOk T Tryz.prog (envL e73) := envL_ok (l := e73) ⟨ok39 H, trivial⟩

theorem ok73 {T : Told} (H : Hands T) : CtrOk T Tryz.prog 73 c73 :=
  fn_ok H.ty (n73 H) hm (lh := depend_feature_lh) (ct := c73) (dcd := fun y => (y.2.1)) Tryz.func73 (by kernel_rfl) (by rfl) (LHok_of (l := []) (by kernel_rfl) trivial) (by decide) (fun _ => rfl) (fun x r h => (depend_feature_eq x.1 x.2.1).trans h)

theorem n31 {T : Told} (H : Hands T) : EnvOk T Tryz.prog (envL e31) := envL_ok (l := e31) ⟨ok46 H, ok73 H, trivial⟩

theorem ok31 {T : Told} (H : Hands T) : CtrOk T Tryz.prog 31 c31 :=
  fn_ok H.ty (n31 H) hm (lh := depend_Cover_lh) (ct := c31) (dcd := fun y => (y.2.1, y.2.2.1)) Tryz.func31 (by kernel_rfl) (by rfl) (LHok_of (l := []) (by kernel_rfl) trivial) (by decide) (fun _ => rfl) (fun x r h => (depend_Cover_eq x.1 x.2.1 x.2.2.1).trans h)

theorem n32 {T : Told} (H : Hands T) : EnvOk T Tryz.prog (envL e32) := envL_ok (l := e32) ⟨ok39 H, trivial⟩

theorem ok32 {T : Told} (H : Hands T) : CtrOk T Tryz.prog 32 c32 :=
  fn_ok H.ty (n32 H) hm (lh := dendronlaw13_why_lh) (ct := c32) (dcd := fun y => (y.2.1)) Tryz.func32 (by kernel_rfl) (by rfl) (LHok_of (l := []) (by kernel_rfl) trivial) (by decide) (fun _ => rfl) (fun x r h => (dendronlaw13_why_eq x.1 x.2.1).trans h)

theorem n74 {T : Told} (H : Hands T) : EnvOk T Tryz.prog (envL e74) := envL_ok (l := e74) ⟨ok81 H, trivial⟩

theorem depend_At_p3 {T : Told} (H : Hands T) : PieceOk T Tryz.prog 22 (.loop (loopAt 3 (bodyOf Tryz.f74) .skip)) ⟨depend_At_i3, depend_At_o3, lp depend_At_s3 K0⟩ :=
  loop_piece H.ty (n74 H) hm (LHok_of (l := []) (by kernel_rfl) trivial) depend_At_l3 K0

theorem ok74 {T : Told} (H : Hands T) : CtrOk T Tryz.prog 74 c74 :=
  fn_ok H.ty (n74 H) hm (lh := depend_At_lh) (ct := c74) (dcd := fun y => (y.2.1)) Tryz.func74 (by kernel_rfl) (by rfl) (LHok_of (l := [(.loop (loopAt 3 (bodyOf Tryz.f74) .skip), ⟨depend_At_i3, depend_At_o3, lp depend_At_s3 K0⟩)]) (by kernel_rfl) ⟨depend_At_p3 H, trivial⟩) (by decide) (fun _ => rfl) (fun x r h => (depend_At_eq x.1 x.2.1).trans h)

theorem n33 {T : Told} (H : Hands T) : EnvOk T Tryz.prog (envL e33) := envL_ok (l := e33) ⟨ok40 H, ok44 H, ok74 H, trivial⟩

theorem ok33 {T : Told} (H : Hands T) : CtrOk T Tryz.prog 33 c33 :=
  fn_ok H.ty (n33 H) hm (lh := dendronlaw13_awake_lh) (ct := c33) (dcd := fun y => (y.2.1)) Tryz.func33 (by kernel_rfl) (by rfl) (LHok_of (l := []) (by kernel_rfl) trivial) (by decide) (fun _ => rfl) (fun x r h => (dendronlaw13_awake_eq ).trans h)

theorem n34 {T : Told} (H : Hands T) : EnvOk T Tryz.prog (envL e34) := envL_ok (l := e34) trivial

theorem dendronlaw13_power_p3 {T : Told} (H : Hands T) : PieceOk T Tryz.prog 13 (.loop (loopAt 3 (bodyOf Tryz.f34) .skip)) ⟨dendronlaw13_power_i3, dendronlaw13_power_o3, lp dendronlaw13_power_s3 K0⟩ :=
  loop_piece H.ty (n34 H) hm (LHok_of (l := []) (by kernel_rfl) trivial) dendronlaw13_power_l3 K0

theorem ok34 {T : Told} (H : Hands T) : CtrOk T Tryz.prog 34 c34 :=
  fn_ok H.ty (n34 H) hm (lh := dendronlaw13_power_lh) (ct := c34) (dcd := fun y => (y.2.1)) Tryz.func34 (by kernel_rfl) (by rfl) (LHok_of (l := [(.loop (loopAt 3 (bodyOf Tryz.f34) .skip), ⟨dendronlaw13_power_i3, dendronlaw13_power_o3, lp dendronlaw13_power_s3 K0⟩)]) (by kernel_rfl) ⟨dendronlaw13_power_p3 H, trivial⟩) (by decide) (fun _ => rfl) (fun x r h => (dendronlaw13_power_eq x.1).trans h)

theorem n8 {T : Told} (H : Hands T) : EnvOk T Tryz.prog (envL e8) := envL_ok (l := e8) ⟨ok10 H, ok14 H, ok15 H, ok16 H, ok31 H, ok32 H, ok33 H, ok34 H, trivial⟩

theorem ok8 {T : Told} (H : Hands T) : CtrOk T Tryz.prog 8 c8 :=
  fn_ok H.ty (n8 H) hm (lh := dendronlaw13_DependCovers_lh) (ct := c8) (dcd := fun y => (y.2.1)) Tryz.func8 (by kernel_rfl) (by rfl) (LHok_of (l := []) (by kernel_rfl) trivial) (by decide) (fun _ => rfl) (fun x r h => (dendronlaw13_DependCovers_eq x.1 x.2.1 x.2.2.1).trans h)

theorem n35 {T : Told} (H : Hands T) : EnvOk T Tryz.prog (envL e35) := envL_ok (l := e35) ⟨ok16 H, trivial⟩

theorem dendronlaw09_All_p3 {T : Told} (H : Hands T) : PieceOk T Tryz.prog 30 (.loop (loopAt 3 (bodyOf Tryz.f35) .skip)) ⟨dendronlaw09_All_i3, dendronlaw09_All_o3, lp dendronlaw09_All_s3 K0⟩ :=
  loop_piece H.ty (n35 H) hm (LHok_of (l := []) (by kernel_rfl) trivial) dendronlaw09_All_l3 K0

theorem ok35 {T : Told} (H : Hands T) : CtrOk T Tryz.prog 35 c35 :=
  fn_ok H.ty (n35 H) hm (lh := dendronlaw09_All_lh) (ct := c35) (dcd := fun y => (y.2.1)) Tryz.func35 (by kernel_rfl) (by rfl) (LHok_of (l := [(.loop (loopAt 3 (bodyOf Tryz.f35) .skip), ⟨dendronlaw09_All_i3, dendronlaw09_All_o3, lp dendronlaw09_All_s3 K0⟩)]) (by kernel_rfl) ⟨dendronlaw09_All_p3 H, trivial⟩) (by decide) (fun _ => rfl) (fun x r h => (dendronlaw09_All_eq x.1 x.2.1 x.2.2.1).trans h)

theorem n75 {T : Told} (H : Hands T) : EnvOk T Tryz.prog (envL e75) := envL_ok (l := e75) ⟨ok45 H, trivial⟩

theorem depend_check_p2 {T : Told} (H : Hands T) : PieceOk T Tryz.prog 24 (.loop (loopAt 2 (bodyOf Tryz.f75) .skip)) ⟨depend_check_i2, depend_check_o2, lp depend_check_s2 K0⟩ :=
  loop_piece H.ty (n75 H) hm (LHok_of (l := []) (by kernel_rfl) trivial) depend_check_l2 K0

theorem ok75 {T : Told} (H : Hands T) : CtrOk T Tryz.prog 75 c75 :=
  fn_ok H.ty (n75 H) hm (lh := depend_check_lh) (ct := c75) (dcd := fun y => (y.2.1)) Tryz.func75 (by kernel_rfl) (by rfl) (LHok_of (l := [(.loop (loopAt 2 (bodyOf Tryz.f75) .skip), ⟨depend_check_i2, depend_check_o2, lp depend_check_s2 K0⟩)]) (by kernel_rfl) ⟨depend_check_p2 H, trivial⟩) (by decide) (fun _ => rfl) (fun x r h => (depend_check_eq x.1 x.2.1).trans h)

theorem n76 {T : Told} (H : Hands T) : EnvOk T Tryz.prog (envL e76) := envL_ok (l := e76) trivial

theorem ok76 {T : Told} (H : Hands T) : CtrOk T Tryz.prog 76 c76 :=
  fn_ok H.ty (n76 H) hm (lh := rows_With_lh) (ct := c76) (dcd := fun y => (y.2.1, y.2.2.1)) Tryz.func76 (by kernel_rfl) (by rfl) (LHok_of (l := []) (by kernel_rfl) trivial) (by decide) (fun _ => rfl) (fun x r h => (rows_With_eq x.1 x.2.1 x.2.2.1).trans h)

theorem n141 {T : Told} (H : Hands T) : EnvOk T Tryz.prog (envL e141) := envL_ok (l := e141) ⟨ok56 H, ok109 H, trivial⟩

theorem route_value_p2 {T : Told} (H : Hands T) : PieceOk T Tryz.prog 24 (.loop (loopAt 2 (bodyOf Tryz.f141) .skip)) ⟨route_value_i2, route_value_o2, lp route_value_s2 K0⟩ :=
  loop_piece H.ty (n141 H) hm (LHok_of (l := []) (by kernel_rfl) trivial) route_value_l2 K0

theorem ok141 {T : Told} (H : Hands T) : CtrOk T Tryz.prog 141 c141 :=
  fn_ok H.ty (n141 H) hm (lh := route_value_lh) (ct := c141) (dcd := fun y => (y.2.1)) Tryz.func141 (by kernel_rfl) (by rfl) (LHok_of (l := [(.loop (loopAt 2 (bodyOf Tryz.f141) .skip), ⟨route_value_i2, route_value_o2, lp route_value_s2 K0⟩)]) (by kernel_rfl) ⟨route_value_p2 H, trivial⟩) (by decide) (fun _ => rfl) (fun x r h => (route_value_eq x.1 x.2.1).trans h)

theorem n113 {T : Told} (H : Hands T) : EnvOk T Tryz.prog (envL e113) := envL_ok (l := e113) ⟨ok23 H, ok24 H, ok83 H, ok141 H, trivial⟩

theorem route_Predict_p6 {T : Told} (H : Hands T) : PieceOk T Tryz.prog 32 (.loop (loopAt 6 (bodyOf Tryz.f113) .skip)) ⟨route_Predict_i6, route_Predict_o6, lp route_Predict_s6 K0⟩ :=
  loop_piece H.ty (n113 H) hm (LHok_of (l := []) (by kernel_rfl) trivial) route_Predict_l6 K0

theorem ok113 {T : Told} (H : Hands T) : CtrOk T Tryz.prog 113 c113 :=
  fn_ok H.ty (n113 H) hm (lh := route_Predict_lh) (ct := c113) (dcd := fun y => (y.2.1, y.2.2.1)) Tryz.func113 (by kernel_rfl) (by rfl) (LHok_of (l := [(.loop (loopAt 6 (bodyOf Tryz.f113) .skip), ⟨route_Predict_i6, route_Predict_o6, lp route_Predict_s6 K0⟩)]) (by kernel_rfl) ⟨route_Predict_p6 H, trivial⟩) (by decide) (fun _ => rfl) (fun x r h => (route_Predict_eq x.1 x.2.1).trans h)

theorem n142 {T : Told} (H : Hands T) : EnvOk T Tryz.prog (envL e142) := envL_ok (l := e142) ⟨ok53 H, trivial⟩

theorem ok142 {T : Told} (H : Hands T) : CtrOk T Tryz.prog 142 c142 :=
  fn_ok H.ty (n142 H) hm (lh := ratio_over_lh) (ct := c142) (dcd := fun y => (y.2.1)) Tryz.func142 (by kernel_rfl) (by rfl) (LHok_of (l := []) (by kernel_rfl) trivial) (by decide) (fun _ => rfl) (fun x r h => (ratio_over_eq x.1 x.2.1).trans h)

theorem n143 {T : Told} (H : Hands T) : EnvOk T Tryz.prog (envL e143) := envL_ok (l := e143) ⟨ok23 H, ok24 H, trivial⟩

theorem ratio_Sum_p3 {T : Told} (H : Hands T) : PieceOk T Tryz.prog 18 (.loop (loopAt 3 (bodyOf Tryz.f143) .skip)) ⟨ratio_Sum_i3, ratio_Sum_o3, lp ratio_Sum_s3 K0⟩ :=
  loop_piece H.ty (n143 H) hm (LHok_of (l := []) (by kernel_rfl) trivial) ratio_Sum_l3 K0

theorem ok143 {T : Told} (H : Hands T) : CtrOk T Tryz.prog 143 c143 :=
  fn_ok H.ty (n143 H) hm (lh := ratio_Sum_lh) (ct := c143) (dcd := fun y => (y.2.1)) Tryz.func143 (by kernel_rfl) (by rfl) (LHok_of (l := [(.loop (loopAt 3 (bodyOf Tryz.f143) .skip), ⟨ratio_Sum_i3, ratio_Sum_o3, lp ratio_Sum_s3 K0⟩)]) (by kernel_rfl) ⟨ratio_Sum_p3 H, trivial⟩) (by decide) (fun _ => rfl) (fun x r h => (ratio_Sum_eq x.1).trans h)

theorem n114 {T : Told} (H : Hands T) : EnvOk T Tryz.prog (envL e114) := envL_ok (l := e114) ⟨ok40 H, ok142 H, ok143 H, trivial⟩

theorem ok114 {T : Told} (H : Hands T) : CtrOk T Tryz.prog 114 c114 :=
  fn_ok H.ty (n114 H) hm (lh := ratio_Mean_lh) (ct := c114) (dcd := fun y => (y.2.1, y.2.2.1)) Tryz.func114 (by kernel_rfl) (by rfl) (LHok_of (l := []) (by kernel_rfl) trivial) (by decide) (fun _ => rfl) (fun x r h => (ratio_Mean_eq x.1).trans h)

theorem n77 {T : Told} (H : Hands T) : EnvOk T Tryz.prog (envL e77) := envL_ok (l := e77) ⟨ok39 H, ok113 H, ok114 H, trivial⟩

theorem route_Mean_p3 {T : Told} (H : Hands T) : PieceOk T Tryz.prog 45 (.loop (loopAt 3 (bodyOf Tryz.f77) .skip)) ⟨route_Mean_i3, route_Mean_o3, lp route_Mean_s3 K0⟩ :=
  loop_piece H.ty (n77 H) hm (LHok_of (l := []) (by kernel_rfl) trivial) route_Mean_l3 K0

theorem ok77 {T : Told} (H : Hands T) : CtrOk T Tryz.prog 77 c77 :=
  fn_ok H.ty (n77 H) hm (lh := route_Mean_lh) (ct := c77) (dcd := fun y => (y.2.1, y.2.2.1)) Tryz.func77 (by kernel_rfl) (by rfl) (LHok_of (l := [(.loop (loopAt 3 (bodyOf Tryz.f77) .skip), ⟨route_Mean_i3, route_Mean_o3, lp route_Mean_s3 K0⟩)]) (by kernel_rfl) ⟨route_Mean_p3 H, trivial⟩) (by decide) (fun _ => rfl) (fun x r h => (route_Mean_eq x.1 x.2.1).trans h)

theorem n36 {T : Told} (H : Hands T) : EnvOk T Tryz.prog (envL e36) := envL_ok (l := e36) ⟨ok73 H, ok75 H, ok76 H, ok77 H, trivial⟩

theorem depend_Average_p9 {T : Told} (H : Hands T) : PieceOk T Tryz.prog 54 (.loop (loopAt 9 (bodyOf Tryz.f36) .skip)) ⟨depend_Average_i9, depend_Average_o9, lp depend_Average_s9 K0⟩ :=
  loop_piece H.ty (n36 H) hm (LHok_of (l := []) (by kernel_rfl) trivial) depend_Average_l9 K0

theorem ok36 {T : Told} (H : Hands T) : CtrOk T Tryz.prog 36 c36 :=
  fn_ok H.ty (n36 H) hm (lh := depend_Average_lh) (ct := c36) (dcd := fun y => (y.2.1, y.2.2.1)) Tryz.func36 (by kernel_rfl) (by rfl) (LHok_of (l := [(.loop (loopAt 9 (bodyOf Tryz.f36) .skip), ⟨depend_Average_i9, depend_Average_o9, lp depend_Average_s9 K0⟩)]) (by kernel_rfl) ⟨depend_Average_p9 H, trivial⟩) (by decide) (fun _ => rfl) (fun x r h => (depend_Average_eq x.1 x.2.1 x.2.2.1 x.2.2.2.1).trans h)

theorem n37 {T : Told} (H : Hands T) : EnvOk T Tryz.prog (envL e37) := envL_ok (l := e37) ⟨ok32 H, trivial⟩

theorem dendronlaw13_whyRows_p4 {T : Told} (H : Hands T) : PieceOk T Tryz.prog 32 (.loop (loopAt 4 (bodyOf Tryz.f37) .skip)) ⟨dendronlaw13_whyRows_i4, dendronlaw13_whyRows_o4, lp dendronlaw13_whyRows_s4 K0⟩ :=
  loop_piece H.ty (n37 H) hm (LHok_of (l := []) (by kernel_rfl) trivial) dendronlaw13_whyRows_l4 K0

theorem ok37 {T : Told} (H : Hands T) : CtrOk T Tryz.prog 37 c37 :=
  fn_ok H.ty (n37 H) hm (lh := dendronlaw13_whyRows_lh) (ct := c37) (dcd := fun y => (y.2.1)) Tryz.func37 (by kernel_rfl) (by rfl) (LHok_of (l := [(.loop (loopAt 4 (bodyOf Tryz.f37) .skip), ⟨dendronlaw13_whyRows_i4, dendronlaw13_whyRows_o4, lp dendronlaw13_whyRows_s4 K0⟩)]) (by kernel_rfl) ⟨dendronlaw13_whyRows_p4 H, trivial⟩) (by decide) (fun _ => rfl) (fun x r h => (dendronlaw13_whyRows_eq x.1 x.2.1 x.2.2.1).trans h)

theorem n78 {T : Told} (H : Hands T) : EnvOk T Tryz.prog (envL e78) := envL_ok (l := e78) ⟨ok23 H, ok24 H, ok70 H R0, trivial⟩

theorem dendronlaw10_Predict_p3 {T : Told} (H : Hands T) : PieceOk T Tryz.prog 40 (.loop (loopAt 3 (bodyOf Tryz.f78) .skip)) ⟨dendronlaw10_Predict_i3, dendronlaw10_Predict_o3, lp dendronlaw10_Predict_s3 K0⟩ :=
  loop_piece H.ty (n78 H) hm (LHok_of (l := []) (by kernel_rfl) trivial) dendronlaw10_Predict_l3 K0

theorem ok78 {T : Told} (H : Hands T) : CtrOk T Tryz.prog 78 c78 :=
  fn_ok H.ty (n78 H) hm (lh := dendronlaw10_Predict_lh) (ct := c78) (dcd := fun y => (y.2.1)) Tryz.func78 (by kernel_rfl) (by rfl) (LHok_of (l := [(.loop (loopAt 3 (bodyOf Tryz.f78) .skip), ⟨dendronlaw10_Predict_i3, dendronlaw10_Predict_o3, lp dendronlaw10_Predict_s3 K0⟩)]) (by kernel_rfl) ⟨dendronlaw10_Predict_p3 H, trivial⟩) (by decide) (fun _ => rfl) (fun x r h => (dendronlaw10_Predict_eq x.1 x.2.1).trans h)

theorem n38 {T : Told} (H : Hands T) : EnvOk T Tryz.prog (envL e38) := envL_ok (l := e38) ⟨ok23 H, ok24 H, ok25 H, ok44 H, ok78 H, trivial⟩

theorem dendronlaw13_average_p3 {T : Told} (H : Hands T) : PieceOk T Tryz.prog 39 (.loop (loopAt 3 (bodyOf Tryz.f38) .skip)) ⟨dendronlaw13_average_i3, dendronlaw13_average_o3, lp dendronlaw13_average_s3 K0⟩ :=
  loop_piece H.ty (n38 H) hm (LHok_of (l := []) (by kernel_rfl) trivial) dendronlaw13_average_l3 K0

theorem ok38 {T : Told} (H : Hands T) : CtrOk T Tryz.prog 38 c38 :=
  fn_ok H.ty (n38 H) hm (lh := dendronlaw13_average_lh) (ct := c38) (dcd := fun y => (y.2.1)) Tryz.func38 (by kernel_rfl) (by rfl) (LHok_of (l := [(.loop (loopAt 3 (bodyOf Tryz.f38) .skip), ⟨dendronlaw13_average_i3, dendronlaw13_average_o3, lp dendronlaw13_average_s3 K0⟩)]) (by kernel_rfl) ⟨dendronlaw13_average_p3 H, trivial⟩) (by decide) (fun _ => rfl) (fun x r h => (dendronlaw13_average_eq x.1 x.2.1 x.2.2.1 x.2.2.2.1).trans h)

theorem n9 {T : Told} (H : Hands T) : EnvOk T Tryz.prog (envL e9) := envL_ok (l := e9) ⟨ok10 H, ok14 H, ok16 H, ok33 H, ok35 H, ok36 H, ok37 H, ok38 H, trivial⟩

theorem ok9 {T : Told} (H : Hands T) : CtrOk T Tryz.prog 9 c9 :=
  fn_ok H.ty (n9 H) hm (lh := dendronlaw13_DependAverages_lh) (ct := c9) (dcd := fun y => (y.2.1)) Tryz.func9 (by kernel_rfl) (by rfl) (LHok_of (l := []) (by kernel_rfl) trivial) (by decide) (fun _ => rfl) (fun x r h => (dendronlaw13_DependAverages_eq x.1 x.2.1 x.2.2.1 x.2.2.2.1).trans h)
end Go.Proofs.YtongppphgbkckaaGreatDoor.X

