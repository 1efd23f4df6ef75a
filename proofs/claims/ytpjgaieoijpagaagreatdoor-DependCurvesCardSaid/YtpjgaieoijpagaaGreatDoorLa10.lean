/- Each function does what is known of it. Printed by a program of our own. -/
import Derived.Test.YtpjgaieoijpagaaGreatDoorLa9

namespace Go.Proofs.YtpjgaieoijpagaaGreatDoor.X
open Go
set_option linter.unusedSimpArgs false
set_option linter.unusedVariables false
set_option maxRecDepth 100000

theorem hm : Tryz.prog.follows .mixedOrders = true := by kernel_rfl
/-- What the printed texts do not show. -/
structure Hands (T : Told) : Prop where
  ty : TbOk Tryz.prog tb
  h165 : CtrOk T Tryz.prog 165 c165
  h171 : CtrOk T Tryz.prog 171 c171

theorem n56 {T : Told} (H : Hands T) : EnvOk T Tryz.prog (envL e56) := envL_ok (l := e56) trivial

theorem ok56 {T : Told} (H : Hands T) : CtrOk T Tryz.prog 56 c56 :=
  fn_ok H.ty (n56 H) hm (lh := dendronlaw09_number_lh) (ct := c56) (dcd := fun y => (y.2.1)) Tryz.func56 (by kernel_rfl) (by rfl) (LHok_of (l := []) (by kernel_rfl) trivial) (by decide) (fun _ => rfl) (fun x r h => (dendronlaw09_number_eq x.1).trans h)

theorem n20 {T : Told} (H : Hands T) : EnvOk T Tryz.prog (envL e20) := envL_ok (l := e20) ⟨ok56 H, trivial⟩

theorem dendronlaw09_Few_p3 {T : Told} (H : Hands T) : PieceOk T Tryz.prog 32 (.loop (loopAt 3 (bodyOf Tryz.f20) .skip)) ⟨dendronlaw09_Few_i3, dendronlaw09_Few_o3, lp dendronlaw09_Few_s3 K0⟩ :=
  loop_piece H.ty (n20 H) hm (LHok_of (l := []) (by kernel_rfl) trivial) dendronlaw09_Few_l3 K0

theorem ok20 {T : Told} (H : Hands T) : CtrOk T Tryz.prog 20 c20 :=
  fn_ok H.ty (n20 H) hm (lh := dendronlaw09_Few_lh) (ct := c20) (dcd := fun y => (y.2.1)) Tryz.func20 (by kernel_rfl) (by rfl) (LHok_of (l := [(.loop (loopAt 3 (bodyOf Tryz.f20) .skip), ⟨dendronlaw09_Few_i3, dendronlaw09_Few_o3, lp dendronlaw09_Few_s3 K0⟩)]) (by kernel_rfl) ⟨dendronlaw09_Few_p3 H, trivial⟩) (by decide) (fun _ => rfl) (fun x r h => (dendronlaw09_Few_eq x.1 x.2.1).trans h)

theorem n78 {T : Told} (H : Hands T) : EnvOk T Tryz.prog (envL e78) := envL_ok (l := e78) trivial

theorem ok78 {T : Told} (H : Hands T) : CtrOk T Tryz.prog 78 c78 :=
  fn_ok H.ty (n78 H) hm (lh := dendronlaw07_number_lh) (ct := c78) (dcd := fun y => (y.2.1)) Tryz.func78 (by kernel_rfl) (by rfl) (LHok_of (l := []) (by kernel_rfl) trivial) (by decide) (fun _ => rfl) (fun x r h => (dendronlaw07_number_eq x.1).trans h)

theorem n42 {T : Told} (H : Hands T) : EnvOk T Tryz.prog (envL e42) := envL_ok (l := e42) ⟨ok78 H, trivial⟩

theorem dendronlaw07_Few_p7 {T : Told} (H : Hands T) : PieceOk T Tryz.prog 67 (.loop (loopAt 7 (bodyOf Tryz.f42) .skip)) ⟨dendronlaw07_Few_i7, dendronlaw07_Few_o7, lp dendronlaw07_Few_s7 K0⟩ :=
  loop_piece H.ty (n42 H) hm (LHok_of (l := []) (by kernel_rfl) trivial) dendronlaw07_Few_l7 K0

theorem dendronlaw07_Few_p3 {T : Told} (H : Hands T) : PieceOk T Tryz.prog 67 (.loop (loopAt 3 (bodyOf Tryz.f42) .skip)) ⟨dendronlaw07_Few_i3, dendronlaw07_Few_o3, lp dendronlaw07_Few_s3 K0⟩ :=
  loop_piece H.ty (n42 H) hm (LHok_of (l := [(.loop (loopAt 7 (bodyOf Tryz.f42) .skip), ⟨dendronlaw07_Few_i7, dendronlaw07_Few_o7, lp dendronlaw07_Few_s7 K0⟩)]) (by kernel_rfl) ⟨dendronlaw07_Few_p7 H, trivial⟩) dendronlaw07_Few_l3 K0

theorem ok42 {T : Told} (H : Hands T) : CtrOk T Tryz.prog 42 c42 :=
  fn_ok H.ty (n42 H) hm (lh := dendronlaw07_Few_lh) (ct := c42) (dcd := fun y => (y.2.1)) Tryz.func42 (by kernel_rfl) (by rfl) (LHok_of (l := [(.loop (loopAt 3 (bodyOf Tryz.f42) .skip), ⟨dendronlaw07_Few_i3, dendronlaw07_Few_o3, lp dendronlaw07_Few_s3 K0⟩)]) (by kernel_rfl) ⟨dendronlaw07_Few_p3 H, trivial⟩) (by decide) (fun _ => rfl) (fun x r h => (dendronlaw07_Few_eq x.1).trans h)

theorem n8 {T : Told} (H : Hands T) : EnvOk T Tryz.prog (envL e8) := envL_ok (l := e8) ⟨ok20 H, ok42 H, trivial⟩

theorem ok8 {T : Told} (H : Hands T) : CtrOk T Tryz.prog 8 c8 :=
  fn_ok H.ty (n8 H) hm (lh := dendronlaw11_Small_lh) (ct := c8) (dcd := fun y => (y.2.1, y.2.2.1)) Tryz.func8 (by kernel_rfl) (by rfl) (LHok_of (l := []) (by kernel_rfl) trivial) (by decide) (fun _ => rfl) (fun x r h => (dendronlaw11_Small_eq x.1 x.2.1).trans h)

theorem n107 {T : Told} (H : Hands T) : EnvOk T Tryz.prog (envL e107) := envL_ok (l := e107) trivial

theorem nat_trim_p2 {T : Told} (H : Hands T) : PieceOk T Tryz.prog 23 (.loop (loopAt 2 (bodyOf Tryz.f107) .skip)) ⟨nat_trim_i2, nat_trim_o2, lp nat_trim_s2 K0⟩ :=
  loop_piece H.ty (n107 H) hm (LHok_of (l := []) (by kernel_rfl) trivial) nat_trim_l2 K0

theorem ok107 {T : Told} (H : Hands T) : CtrOk T Tryz.prog 107 c107 :=
  fn_ok H.ty (n107 H) hm (lh := nat_trim_lh) (ct := c107) (dcd := fun y => (y.2.1)) Tryz.func107 (by kernel_rfl) (by rfl) (LHok_of (l := [(.loop (loopAt 2 (bodyOf Tryz.f107) .skip), ⟨nat_trim_i2, nat_trim_o2, lp nat_trim_s2 K0⟩)]) (by kernel_rfl) ⟨nat_trim_p2 H, trivial⟩) (by decide) (fun _ => rfl) (fun x r h => (nat_trim_eq x.1).trans h)

theorem n69 {T : Told} (H : Hands T) : EnvOk T Tryz.prog (envL e69) := envL_ok (l := e69) ⟨ok107 H, trivial⟩

theorem ok69 {T : Told} (H : Hands T) : CtrOk T Tryz.prog 69 c69 :=
  fn_ok H.ty (n69 H) hm (lh := nat_Of_lh) (ct := c69) (dcd := fun y => (y.2.1)) Tryz.func69 (by kernel_rfl) (by rfl) (LHok_of (l := []) (by kernel_rfl) trivial) (by decide) (fun _ => rfl) (fun x r h => (nat_Of_eq x.1).trans h)

theorem n36 {T : Told} (H : Hands T) : EnvOk T Tryz.prog (envL e36) := envL_ok (l := e36) ⟨ok69 H, trivial⟩

theorem ok36 {T : Told} (H : Hands T) : CtrOk T Tryz.prog 36 c36 :=
  fn_ok H.ty (n36 H) hm (lh := ratio_Zero_lh) (ct := c36) (dcd := fun y => (y.2.1)) Tryz.func36 (by kernel_rfl) (by rfl) (LHok_of (l := []) (by kernel_rfl) trivial) (by decide) (fun _ => rfl) (fun x r h => (ratio_Zero_eq ).trans h)

theorem n112 {T : Told} (H : Hands T) : EnvOk T Tryz.prog (envL e112) := envL_ok (l := e112) trivial

theorem ok112 {T : Told} (H : Hands T) : CtrOk T Tryz.prog 112 c112 :=
  fn_ok H.ty (n112 H) hm (lh := whole_sign_lh) (ct := c112) (dcd := fun y => (y.2.1)) Tryz.func112 (by kernel_rfl) (by rfl) (LHok_of (l := []) (by kernel_rfl) trivial) (by decide) (fun _ => rfl) (fun x r h => (whole_sign_eq x.1 x.2.1).trans h)

theorem n77 {T : Told} (H : Hands T) : EnvOk T Tryz.prog (envL e77) := envL_ok (l := e77) ⟨ok69 H, ok112 H, trivial⟩

theorem ok77 {T : Told} (H : Hands T) : CtrOk T Tryz.prog 77 c77 :=
  fn_ok H.ty (n77 H) hm (lh := whole_Of_lh) (ct := c77) (dcd := fun y => (y.2.1)) Tryz.func77 (by kernel_rfl) (by rfl) (LHok_of (l := []) (by kernel_rfl) trivial) (by decide) (fun _ => rfl) (fun x r h => (whole_Of_eq x.1).trans h)

theorem n49 {T : Told} (H : Hands T) : EnvOk T Tryz.prog (envL e49) := envL_ok (l := e49) ⟨ok69 H, ok77 H, trivial⟩

theorem ok49 {T : Told} (H : Hands T) : CtrOk T Tryz.prog 49 c49 :=
  fn_ok H.ty (n49 H) hm (lh := ratio_Of_lh) (ct := c49) (dcd := fun y => (y.2.1)) Tryz.func49 (by kernel_rfl) (by rfl) (LHok_of (l := []) (by kernel_rfl) trivial) (by decide) (fun _ => rfl) (fun x r h => (ratio_Of_eq x.1).trans h)

theorem n48 {T : Told} (H : Hands T) : EnvOk T Tryz.prog (envL e48) := envL_ok (l := e48) ⟨ok49 H, trivial⟩

theorem ok48 {T : Told} (H : Hands T) : CtrOk T Tryz.prog 48 c48 :=
  fn_ok H.ty (n48 H) hm (lh := ratio_One_lh) (ct := c48) (dcd := fun y => (y.2.1)) Tryz.func48 (by kernel_rfl) (by rfl) (LHok_of (l := []) (by kernel_rfl) trivial) (by decide) (fun _ => rfl) (fun x r h => (ratio_One_eq ).trans h)

theorem n83 {T : Told} (H : Hands T) : EnvOk T Tryz.prog (envL e83) := envL_ok (l := e83) trivial

theorem model_Fits_p9 {T : Told} (H : Hands T) : PieceOk T Tryz.prog 72 (.loop (loopAt 9 (bodyOf Tryz.f83) .skip)) ⟨model_Fits_i9, model_Fits_o9, lp model_Fits_s9 K0⟩ :=
  loop_piece H.ty (n83 H) hm (LHok_of (l := []) (by kernel_rfl) trivial) model_Fits_l9 K0

theorem model_Fits_p4 {T : Told} (H : Hands T) : PieceOk T Tryz.prog 72 (.loop (loopAt 4 (bodyOf Tryz.f83) .skip)) ⟨model_Fits_i4, model_Fits_o4, lp model_Fits_s4 K0⟩ :=
  loop_piece H.ty (n83 H) hm (LHok_of (l := [(.loop (loopAt 9 (bodyOf Tryz.f83) .skip), ⟨model_Fits_i9, model_Fits_o9, lp model_Fits_s9 K0⟩)]) (by kernel_rfl) ⟨model_Fits_p9 H, trivial⟩) model_Fits_l4 K0

theorem ok83 {T : Told} (H : Hands T) : CtrOk T Tryz.prog 83 c83 :=
  fn_ok H.ty (n83 H) hm (lh := model_Fits_lh) (ct := c83) (dcd := fun y => (y.2.1)) Tryz.func83 (by kernel_rfl) (by rfl) (LHok_of (l := [(.loop (loopAt 4 (bodyOf Tryz.f83) .skip), ⟨model_Fits_i4, model_Fits_o4, lp model_Fits_s4 K0⟩)]) (by kernel_rfl) ⟨model_Fits_p4 H, trivial⟩) (by decide) (fun _ => rfl) (fun x r h => (model_Fits_eq x.1).trans h)

theorem n84 {T : Told} (H : Hands T) : EnvOk T Tryz.prog (envL e84) := envL_ok (l := e84) trivial

theorem valid_ranges_p2 {T : Told} (H : Hands T) : PieceOk T Tryz.prog 52 (.loop (loopAt 2 (bodyOf Tryz.f84) .skip)) ⟨valid_ranges_i2, valid_ranges_o2, lp valid_ranges_s2 K0⟩ :=
  loop_piece H.ty (n84 H) hm (LHok_of (l := []) (by kernel_rfl) trivial) valid_ranges_l2 K0

theorem ok84 {T : Told} (H : Hands T) : CtrOk T Tryz.prog 84 c84 :=
  fn_ok H.ty (n84 H) hm (lh := valid_ranges_lh) (ct := c84) (dcd := fun y => (y.2.1, y.2.2.1)) Tryz.func84 (by kernel_rfl) (by rfl) (LHok_of (l := [(.loop (loopAt 2 (bodyOf Tryz.f84) .skip), ⟨valid_ranges_i2, valid_ranges_o2, lp valid_ranges_s2 K0⟩)]) (by kernel_rfl) ⟨valid_ranges_p2 H, trivial⟩) (by decide) (fun _ => rfl) (fun x r h => (valid_ranges_eq x.1 x.2.1).trans h)

theorem n85 {T : Told} (H : Hands T) : EnvOk T Tryz.prog (envL e85) := envL_ok (l := e85) trivial

theorem valid_shape_p3 {T : Told} (H : Hands T) : PieceOk T Tryz.prog 103 (.loop (loopAt 3 (bodyOf Tryz.f85) .skip)) ⟨valid_shape_i3, valid_shape_o3, lp valid_shape_s3 K0⟩ :=
  loop_piece H.ty (n85 H) hm (LHok_of (l := []) (by kernel_rfl) trivial) valid_shape_l3 K0

theorem valid_shape_p10 {T : Told} (H : Hands T) : PieceOk T Tryz.prog 103 (.loop (loopAt 10 (bodyOf Tryz.f85) .skip)) ⟨valid_shape_i10, valid_shape_o10, lp valid_shape_s10 K0⟩ :=
  loop_piece H.ty (n85 H) hm (LHok_of (l := []) (by kernel_rfl) trivial) valid_shape_l10 K0

theorem valid_shape_p17 {T : Told} (H : Hands T) : PieceOk T Tryz.prog 103 (.loop (loopAt 17 (bodyOf Tryz.f85) .skip)) ⟨valid_shape_i17, valid_shape_o17, lp valid_shape_s17 K0⟩ :=
  loop_piece H.ty (n85 H) hm (LHok_of (l := []) (by kernel_rfl) trivial) valid_shape_l17 K0

theorem valid_shape_p25 {T : Told} (H : Hands T) : PieceOk T Tryz.prog 103 (.loop (loopAt 25 (bodyOf Tryz.f85) .skip)) ⟨valid_shape_i25, valid_shape_o25, lp valid_shape_s25 K0⟩ :=
  loop_piece H.ty (n85 H) hm (LHok_of (l := []) (by kernel_rfl) trivial) valid_shape_l25 K0

theorem ok85 {T : Told} (H : Hands T) : CtrOk T Tryz.prog 85 c85 :=
  fn_ok H.ty (n85 H) hm (lh := valid_shape_lh) (ct := c85) (dcd := fun y => (y.2.1, y.2.2.1)) Tryz.func85 (by kernel_rfl) (by rfl) (LHok_of (l := [(.loop (loopAt 3 (bodyOf Tryz.f85) .skip), ⟨valid_shape_i3, valid_shape_o3, lp valid_shape_s3 K0⟩), (.loop (loopAt 10 (bodyOf Tryz.f85) .skip), ⟨valid_shape_i10, valid_shape_o10, lp valid_shape_s10 K0⟩), (.loop (loopAt 17 (bodyOf Tryz.f85) .skip), ⟨valid_shape_i17, valid_shape_o17, lp valid_shape_s17 K0⟩), (.loop (loopAt 25 (bodyOf Tryz.f85) .skip), ⟨valid_shape_i25, valid_shape_o25, lp valid_shape_s25 K0⟩)]) (by kernel_rfl) ⟨valid_shape_p3 H, valid_shape_p10 H, valid_shape_p17 H, valid_shape_p25 H, trivial⟩) (by decide) (fun _ => rfl) (fun x r h => (valid_shape_eq x.1).trans h)

theorem n108 {T : Told} (H : Hands T) : EnvOk T Tryz.prog (envL e108) := envL_ok (l := e108) ⟨ok107 H, trivial⟩

theorem nat_Clean_p3 {T : Told} (H : Hands T) : PieceOk T Tryz.prog 24 (.loop (loopAt 3 (bodyOf Tryz.f108) .skip)) ⟨nat_Clean_i3, nat_Clean_o3, lp nat_Clean_s3 K0⟩ :=
  loop_piece H.ty (n108 H) hm (LHok_of (l := []) (by kernel_rfl) trivial) nat_Clean_l3 K0

theorem ok108 {T : Told} (H : Hands T) : CtrOk T Tryz.prog 108 c108 :=
  fn_ok H.ty (n108 H) hm (lh := nat_Clean_lh) (ct := c108) (dcd := fun y => (y.2.1)) Tryz.func108 (by kernel_rfl) (by rfl) (LHok_of (l := [(.loop (loopAt 3 (bodyOf Tryz.f108) .skip), ⟨nat_Clean_i3, nat_Clean_o3, lp nat_Clean_s3 K0⟩)]) (by kernel_rfl) ⟨nat_Clean_p3 H, trivial⟩) (by decide) (fun _ => rfl) (fun x r h => (nat_Clean_eq x.1).trans h)

theorem n164 {T : Told} (H : Hands T) : EnvOk T Tryz.prog (envL e164) := envL_ok (l := e164) ⟨ok108 H, trivial⟩

theorem ok164 {T : Told} (H : Hands T) : CtrOk T Tryz.prog 164 c164 :=
  fn_ok H.ty (n164 H) hm (lh := nat_To_lh) (ct := c164) (dcd := fun y => (y.2.1, y.2.2.1)) Tryz.func164 (by kernel_rfl) (by rfl) (LHok_of (l := []) (by kernel_rfl) trivial) (by decide) (fun _ => rfl) (fun x r h => (nat_To_eq x.1).trans h)

theorem n141 {T : Told} (H : Hands T) : EnvOk T Tryz.prog (envL e141) := envL_ok (l := e141) ⟨ok69 H, ok164 H, trivial⟩

theorem nat_euclid_p3 {T : Told} (H : Hands T) : PieceOk T Tryz.prog 27 (.loop (loopAt 3 (bodyOf Tryz.f141) .skip)) ⟨nat_euclid_i3, nat_euclid_o3, lp nat_euclid_s3 K0⟩ :=
  loop_piece H.ty (n141 H) hm (LHok_of (l := []) (by kernel_rfl) trivial) nat_euclid_l3 K0

theorem ok141 {T : Told} (H : Hands T) : CtrOk T Tryz.prog 141 c141 :=
  fn_ok H.ty (n141 H) hm (lh := nat_euclid_lh) (ct := c141) (dcd := fun y => (y.2.1)) Tryz.func141 (by kernel_rfl) (by rfl) (LHok_of (l := [(.loop (loopAt 3 (bodyOf Tryz.f141) .skip), ⟨nat_euclid_i3, nat_euclid_o3, lp nat_euclid_s3 K0⟩)]) (by kernel_rfl) ⟨nat_euclid_p3 H, trivial⟩) (by decide) (fun _ => rfl) (fun x r h => (nat_euclid_eq x.1 x.2.1).trans h)

theorem n142 {T : Told} (H : Hands T) : EnvOk T Tryz.prog (envL e142) := envL_ok (l := e142) ⟨H.h165, trivial⟩

theorem nat_zeros_p3 {T : Told} (H : Hands T) : PieceOk T Tryz.prog 24 (.loop (loopAt 3 (bodyOf Tryz.f142) .skip)) ⟨nat_zeros_i3, nat_zeros_o3, lp nat_zeros_s3 K0⟩ :=
  loop_piece H.ty (n142 H) hm (LHok_of (l := []) (by kernel_rfl) trivial) nat_zeros_l3 K0

theorem ok142 {T : Told} (H : Hands T) : CtrOk T Tryz.prog 142 c142 :=
  fn_ok H.ty (n142 H) hm (lh := nat_zeros_lh) (ct := c142) (dcd := fun y => (y.2.1)) Tryz.func142 (by kernel_rfl) (by rfl) (LHok_of (l := [(.loop (loopAt 3 (bodyOf Tryz.f142) .skip), ⟨nat_zeros_i3, nat_zeros_o3, lp nat_zeros_s3 K0⟩)]) (by kernel_rfl) ⟨nat_zeros_p3 H, trivial⟩) (by decide) (fun _ => rfl) (fun x r h => (nat_zeros_eq x.1).trans h)

theorem n150 {T : Told} (H : Hands T) : EnvOk T Tryz.prog (envL e150) := envL_ok (l := e150) trivial

theorem ok150 {T : Told} (H : Hands T) : CtrOk T Tryz.prog 150 c150 :=
  fn_ok H.ty (n150 H) hm (lh := nat_limb_lh) (ct := c150) (dcd := fun y => (y.2.1)) Tryz.func150 (by kernel_rfl) (by rfl) (LHok_of (l := []) (by kernel_rfl) trivial) (by decide) (fun _ => rfl) (fun x r h => (nat_limb_eq x.1 x.2.1).trans h)

theorem n143 {T : Told} (H : Hands T) : EnvOk T Tryz.prog (envL e143) := envL_ok (l := e143) ⟨ok107 H, ok150 H, trivial⟩

theorem nat_shr_p6 {T : Told} (H : Hands T) : PieceOk T Tryz.prog 50 (.loop (loopAt 6 (bodyOf Tryz.f143) .skip)) ⟨nat_shr_i6, nat_shr_o6, lp nat_shr_s6 K0⟩ :=
  loop_piece H.ty (n143 H) hm (LHok_of (l := []) (by kernel_rfl) trivial) nat_shr_l6 K0

theorem ok143 {T : Told} (H : Hands T) : CtrOk T Tryz.prog 143 c143 :=
  fn_ok H.ty (n143 H) hm (lh := nat_shr_lh) (ct := c143) (dcd := fun y => (y.2.1)) Tryz.func143 (by kernel_rfl) (by rfl) (LHok_of (l := [(.loop (loopAt 6 (bodyOf Tryz.f143) .skip), ⟨nat_shr_i6, nat_shr_o6, lp nat_shr_s6 K0⟩)]) (by kernel_rfl) ⟨nat_shr_p6 H, trivial⟩) (by decide) (fun _ => rfl) (fun x r h => (nat_shr_eq x.1 x.2.1).trans h)

theorem n144 {T : Told} (H : Hands T) : EnvOk T Tryz.prog (envL e144) := envL_ok (l := e144) trivial

theorem nat_order_p6 {T : Told} (H : Hands T) : PieceOk T Tryz.prog 45 (.loop (loopAt 6 (bodyOf Tryz.f144) .skip)) ⟨nat_order_i6, nat_order_o6, lp nat_order_s6 K0⟩ :=
  loop_piece H.ty (n144 H) hm (LHok_of (l := []) (by kernel_rfl) trivial) nat_order_l6 K0

theorem ok144 {T : Told} (H : Hands T) : CtrOk T Tryz.prog 144 c144 :=
  fn_ok H.ty (n144 H) hm (lh := nat_order_lh) (ct := c144) (dcd := fun y => (y.2.1)) Tryz.func144 (by kernel_rfl) (by rfl) (LHok_of (l := [(.loop (loopAt 6 (bodyOf Tryz.f144) .skip), ⟨nat_order_i6, nat_order_o6, lp nat_order_s6 K0⟩)]) (by kernel_rfl) ⟨nat_order_p6 H, trivial⟩) (by decide) (fun _ => rfl) (fun x r h => (nat_order_eq x.1 x.2.1).trans h)

theorem n145 {T : Told} (H : Hands T) : EnvOk T Tryz.prog (envL e145) := envL_ok (l := e145) ⟨ok107 H, trivial⟩

theorem nat_shl_p4 {T : Told} (H : Hands T) : PieceOk T Tryz.prog 51 (.loop (loopAt 4 (bodyOf Tryz.f145) .skip)) ⟨nat_shl_i4, nat_shl_o4, lp nat_shl_s4 K0⟩ :=
  loop_piece H.ty (n145 H) hm (LHok_of (l := []) (by kernel_rfl) trivial) nat_shl_l4 K0

theorem ok145 {T : Told} (H : Hands T) : CtrOk T Tryz.prog 145 c145 :=
  fn_ok H.ty (n145 H) hm (lh := nat_shl_lh) (ct := c145) (dcd := fun y => (y.2.1)) Tryz.func145 (by kernel_rfl) (by rfl) (LHok_of (l := [(.loop (loopAt 4 (bodyOf Tryz.f145) .skip), ⟨nat_shl_i4, nat_shl_o4, lp nat_shl_s4 K0⟩)]) (by kernel_rfl) ⟨nat_shl_p4 H, trivial⟩) (by decide) (fun _ => rfl) (fun x r h => (nat_shl_eq x.1 x.2.1).trans h)

theorem n148 {T : Told} (H : Hands T) : EnvOk T Tryz.prog (envL e148) := envL_ok (l := e148) ⟨ok107 H, trivial⟩

theorem nat_small_p4 {T : Told} (H : Hands T) : PieceOk T Tryz.prog 38 (.loop (loopAt 4 (bodyOf Tryz.f148) .skip)) ⟨nat_small_i4, nat_small_o4, lp nat_small_s4 K0⟩ :=
  loop_piece H.ty (n148 H) hm (LHok_of (l := []) (by kernel_rfl) trivial) nat_small_l4 K0

theorem ok148 {T : Told} (H : Hands T) : CtrOk T Tryz.prog 148 c148 :=
  fn_ok H.ty (n148 H) hm (lh := nat_small_lh) (ct := c148) (dcd := fun y => (y.2.1, y.2.2.1)) Tryz.func148 (by kernel_rfl) (by rfl) (LHok_of (l := [(.loop (loopAt 4 (bodyOf Tryz.f148) .skip), ⟨nat_small_i4, nat_small_o4, lp nat_small_s4 K0⟩)]) (by kernel_rfl) ⟨nat_small_p4 H, trivial⟩) (by decide) (fun _ => rfl) (fun x r h => (nat_small_eq x.1 x.2.1).trans h)

theorem n166 {T : Told} (H : Hands T) : EnvOk T Tryz.prog (envL e166) := envL_ok (l := e166) ⟨H.h171, trivial⟩

theorem ok166 {T : Told} (H : Hands T) : CtrOk T Tryz.prog 166 c166 :=
  fn_ok H.ty (n166 H) hm (lh := bits_LeadingZeros32_lh) (ct := c166) (dcd := fun y => (y.2.1)) Tryz.func166 (by kernel_rfl) (by rfl) (LHok_of (l := []) (by kernel_rfl) trivial) (by decide) (fun _ => rfl) (fun x r h => (bits_LeadingZeros32_eq x.1).trans h)

theorem n172 {T : Told} (H : Hands T) : EnvOk T Tryz.prog (envL e172) := envL_ok (l := e172) ⟨ok150 H, trivial⟩

theorem nat_take_p3 {T : Told} (H : Hands T) : PieceOk T Tryz.prog 46 (.loop (loopAt 3 (bodyOf Tryz.f172) .skip)) ⟨nat_take_i3, nat_take_o3, lp nat_take_s3 K0⟩ :=
  loop_piece H.ty (n172 H) hm (LHok_of (l := []) (by kernel_rfl) trivial) nat_take_l3 K0

theorem ok172 {T : Told} (H : Hands T) : CtrOk T Tryz.prog 172 c172 :=
  fn_ok H.ty (n172 H) hm (lh := nat_take_lh) (ct := c172) (dcd := fun y => (y.1.1, y.2.1)) Tryz.func172 (by kernel_rfl) (by rfl) (LHok_of (l := [(.loop (loopAt 3 (bodyOf Tryz.f172) .skip), ⟨nat_take_i3, nat_take_o3, lp nat_take_s3 K0⟩)]) (by kernel_rfl) ⟨nat_take_p3 H, trivial⟩) (by decide) (fun _ => rfl) (fun x r h => (nat_take_eq x.1 x.2.1 x.2.2.1).trans h)

theorem n173 {T : Told} (H : Hands T) : EnvOk T Tryz.prog (envL e173) := envL_ok (l := e173) ⟨ok150 H, trivial⟩

theorem nat_give_p2 {T : Told} (H : Hands T) : PieceOk T Tryz.prog 29 (.loop (loopAt 2 (bodyOf Tryz.f173) .skip)) ⟨nat_give_i2, nat_give_o2, lp nat_give_s2 K0⟩ :=
  loop_piece H.ty (n173 H) hm (LHok_of (l := []) (by kernel_rfl) trivial) nat_give_l2 K0

theorem ok173 {T : Told} (H : Hands T) : CtrOk T Tryz.prog 173 c173 :=
  fn_ok H.ty (n173 H) hm (lh := nat_give_lh) (ct := c173) (dcd := fun y => (y.1.1)) Tryz.func173 (by kernel_rfl) (by rfl) (LHok_of (l := [(.loop (loopAt 2 (bodyOf Tryz.f173) .skip), ⟨nat_give_i2, nat_give_o2, lp nat_give_s2 K0⟩)]) (by kernel_rfl) ⟨nat_give_p2 H, trivial⟩) (by decide) (fun _ => rfl) (fun x r h => (nat_give_eq x.1 x.2.1).trans h)

theorem n167 {T : Told} (H : Hands T) : EnvOk T Tryz.prog (envL e167) := envL_ok (l := e167) ⟨ok172 H, ok173 H, trivial⟩

theorem nat_digit_p4 {T : Told} (H : Hands T) : PieceOk T Tryz.prog 77 (.loop (loopAt 4 (bodyOf Tryz.f167) .skip)) ⟨nat_digit_i4, nat_digit_o4, lp nat_digit_s4 K0⟩ :=
  loop_piece H.ty (n167 H) hm (LHok_of (l := []) (by kernel_rfl) trivial) nat_digit_l4 K0

theorem ok167 {T : Told} (H : Hands T) : CtrOk T Tryz.prog 167 c167 :=
  fn_ok H.ty (n167 H) hm (lh := nat_digit_lh) (ct := c167) (dcd := fun y => (y.1.1, y.2.1)) Tryz.func167 (by kernel_rfl) (by rfl) (LHok_of (l := [(.loop (loopAt 4 (bodyOf Tryz.f167) .skip), ⟨nat_digit_i4, nat_digit_o4, lp nat_digit_s4 K0⟩)]) (by kernel_rfl) ⟨nat_digit_p4 H, trivial⟩) (by decide) (fun _ => rfl) (fun x r h => (nat_digit_eq x.1 x.2.1).trans h)

theorem n149 {T : Told} (H : Hands T) : EnvOk T Tryz.prog (envL e149) := envL_ok (l := e149) ⟨ok107 H, ok143 H, ok145 H, ok166 H, ok167 H, trivial⟩

theorem nat_long_p7 {T : Told} (H : Hands T) : PieceOk T Tryz.prog 64 (.loop (loopAt 7 (bodyOf Tryz.f149) .skip)) ⟨nat_long_i7, nat_long_o7, lp nat_long_s7 K0⟩ :=
  loop_piece H.ty (n149 H) hm (LHok_of (l := []) (by kernel_rfl) trivial) nat_long_l7 K0

theorem ok149 {T : Told} (H : Hands T) : CtrOk T Tryz.prog 149 c149 :=
  fn_ok H.ty (n149 H) hm (lh := nat_long_lh) (ct := c149) (dcd := fun y => (y.2.1, y.2.2.1)) Tryz.func149 (by kernel_rfl) (by rfl) (LHok_of (l := [(.loop (loopAt 7 (bodyOf Tryz.f149) .skip), ⟨nat_long_i7, nat_long_o7, lp nat_long_s7 K0⟩)]) (by kernel_rfl) ⟨nat_long_p7 H, trivial⟩) (by decide) (fun _ => rfl) (fun x r h => (nat_long_eq x.1 x.2.1).trans h)

theorem n111 {T : Told} (H : Hands T) : EnvOk T Tryz.prog (envL e111) := envL_ok (l := e111) ⟨ok69 H, ok108 H, ok144 H, ok148 H, ok149 H, trivial⟩

theorem ok111 {T : Told} (H : Hands T) : CtrOk T Tryz.prog 111 c111 :=
  fn_ok H.ty (n111 H) hm (lh := nat_DivMod_lh) (ct := c111) (dcd := fun y => (y.2.1, y.2.2.1, y.2.2.2.1)) Tryz.func111 (by kernel_rfl) (by rfl) (LHok_of (l := []) (by kernel_rfl) trivial) (by decide) (fun _ => rfl) (fun x r h => (nat_DivMod_eq x.1 x.2.1).trans h)

theorem n146 {T : Told} (H : Hands T) : EnvOk T Tryz.prog (envL e146) := envL_ok (l := e146) ⟨ok111 H, trivial⟩

theorem ok146 {T : Told} (H : Hands T) : CtrOk T Tryz.prog 146 c146 :=
  fn_ok H.ty (n146 H) hm (lh := nat_rest_lh) (ct := c146) (dcd := fun y => (y.2.1, y.2.2.1)) Tryz.func146 (by kernel_rfl) (by rfl) (LHok_of (l := []) (by kernel_rfl) trivial) (by decide) (fun _ => rfl) (fun x r h => (nat_rest_eq x.1 x.2.1).trans h)

theorem n147 {T : Told} (H : Hands T) : EnvOk T Tryz.prog (envL e147) := envL_ok (l := e147) ⟨ok107 H, ok150 H, trivial⟩

theorem nat_minus_p4 {T : Told} (H : Hands T) : PieceOk T Tryz.prog 39 (.loop (loopAt 4 (bodyOf Tryz.f147) .skip)) ⟨nat_minus_i4, nat_minus_o4, lp nat_minus_s4 K0⟩ :=
  loop_piece H.ty (n147 H) hm (LHok_of (l := []) (by kernel_rfl) trivial) nat_minus_l4 K0

theorem ok147 {T : Told} (H : Hands T) : CtrOk T Tryz.prog 147 c147 :=
  fn_ok H.ty (n147 H) hm (lh := nat_minus_lh) (ct := c147) (dcd := fun y => (y.2.1)) Tryz.func147 (by kernel_rfl) (by rfl) (LHok_of (l := [(.loop (loopAt 4 (bodyOf Tryz.f147) .skip), ⟨nat_minus_i4, nat_minus_o4, lp nat_minus_s4 K0⟩)]) (by kernel_rfl) ⟨nat_minus_p4 H, trivial⟩) (by decide) (fun _ => rfl) (fun x r h => (nat_minus_eq x.1 x.2.1).trans h)

theorem n110 {T : Told} (H : Hands T) : EnvOk T Tryz.prog (envL e110) := envL_ok (l := e110) ⟨ok108 H, ok141 H, ok142 H, ok143 H, ok144 H, ok145 H, ok146 H, ok147 H, trivial⟩

theorem nat_Gcd_p10 {T : Told} (H : Hands T) : PieceOk T Tryz.prog 86 (.loop (loopAt 10 (bodyOf Tryz.f110) .skip)) ⟨nat_Gcd_i10, nat_Gcd_o10, lp nat_Gcd_s10 K0⟩ :=
  loop_piece H.ty (n110 H) hm (LHok_of (l := []) (by kernel_rfl) trivial) nat_Gcd_l10 K0

theorem ok110 {T : Told} (H : Hands T) : CtrOk T Tryz.prog 110 c110 :=
  fn_ok H.ty (n110 H) hm (lh := nat_Gcd_lh) (ct := c110) (dcd := fun y => (y.2.1)) Tryz.func110 (by kernel_rfl) (by rfl) (LHok_of (l := [(.loop (loopAt 10 (bodyOf Tryz.f110) .skip), ⟨nat_Gcd_i10, nat_Gcd_o10, lp nat_Gcd_s10 K0⟩)]) (by kernel_rfl) ⟨nat_Gcd_p10 H, trivial⟩) (by decide) (fun _ => rfl) (fun x r h => (nat_Gcd_eq x.1 x.2.1).trans h)

theorem n71 {T : Told} (H : Hands T) : EnvOk T Tryz.prog (envL e71) := envL_ok (l := e71) ⟨ok69 H, ok110 H, ok111 H, trivial⟩

theorem ok71 {T : Told} (H : Hands T) : CtrOk T Tryz.prog 71 c71 :=
  fn_ok H.ty (n71 H) hm (lh := ratio_form_lh) (ct := c71) (dcd := fun y => (y.2.1)) Tryz.func71 (by kernel_rfl) (by rfl) (LHok_of (l := []) (by kernel_rfl) trivial) (by decide) (fun _ => rfl) (fun x r h => (ratio_form_eq x.1 x.2.1).trans h)

theorem n109 {T : Told} (H : Hands T) : EnvOk T Tryz.prog (envL e109) := envL_ok (l := e109) ⟨ok108 H, ok112 H, trivial⟩

theorem ok109 {T : Told} (H : Hands T) : CtrOk T Tryz.prog 109 c109 :=
  fn_ok H.ty (n109 H) hm (lh := whole_Clean_lh) (ct := c109) (dcd := fun y => (y.2.1)) Tryz.func109 (by kernel_rfl) (by rfl) (LHok_of (l := []) (by kernel_rfl) trivial) (by decide) (fun _ => rfl) (fun x r h => (whole_Clean_eq x.1).trans h)

theorem n70 {T : Told} (H : Hands T) : EnvOk T Tryz.prog (envL e70) := envL_ok (l := e70) ⟨ok36 H, ok71 H, ok108 H, ok109 H, trivial⟩

theorem ok70 {T : Told} (H : Hands T) : CtrOk T Tryz.prog 70 c70 :=
  fn_ok H.ty (n70 H) hm (lh := ratio_Clean_lh) (ct := c70) (dcd := fun y => (y.2.1)) Tryz.func70 (by kernel_rfl) (by rfl) (LHok_of (l := []) (by kernel_rfl) trivial) (by decide) (fun _ => rfl) (fun x r h => (ratio_Clean_eq x.1).trans h)

theorem n116 {T : Told} (H : Hands T) : EnvOk T Tryz.prog (envL e116) := envL_ok (l := e116) ⟨ok109 H, trivial⟩

theorem ok116 {T : Told} (H : Hands T) : CtrOk T Tryz.prog 116 c116 :=
  fn_ok H.ty (n116 H) hm (lh := whole_Sign_lh) (ct := c116) (dcd := fun y => (y.2.1)) Tryz.func116 (by kernel_rfl) (by rfl) (LHok_of (l := []) (by kernel_rfl) trivial) (by decide) (fun _ => rfl) (fun x r h => (whole_Sign_eq x.1).trans h)

theorem n119 {T : Told} (H : Hands T) : EnvOk T Tryz.prog (envL e119) := envL_ok (l := e119) ⟨ok70 H, ok116 H, trivial⟩

theorem ok119 {T : Told} (H : Hands T) : CtrOk T Tryz.prog 119 c119 :=
  fn_ok H.ty (n119 H) hm (lh := ratio_Sign_lh) (ct := c119) (dcd := fun y => (y.2.1)) Tryz.func119 (by kernel_rfl) (by rfl) (LHok_of (l := []) (by kernel_rfl) trivial) (by decide) (fun _ => rfl) (fun x r h => (ratio_Sign_eq x.1).trans h)

theorem n86 {T : Told} (H : Hands T) : EnvOk T Tryz.prog (envL e86) := envL_ok (l := e86) ⟨ok119 H, trivial⟩

theorem valid_covers_p2 {T : Told} (H : Hands T) : PieceOk T Tryz.prog 19 (.loop (loopAt 2 (bodyOf Tryz.f86) .skip)) ⟨valid_covers_i2, valid_covers_o2, lp valid_covers_s2 K0⟩ :=
  loop_piece H.ty (n86 H) hm (LHok_of (l := []) (by kernel_rfl) trivial) valid_covers_l2 K0

theorem ok86 {T : Told} (H : Hands T) : CtrOk T Tryz.prog 86 c86 :=
  fn_ok H.ty (n86 H) hm (lh := valid_covers_lh) (ct := c86) (dcd := fun y => (y.2.1, y.2.2.1)) Tryz.func86 (by kernel_rfl) (by rfl) (LHok_of (l := [(.loop (loopAt 2 (bodyOf Tryz.f86) .skip), ⟨valid_covers_i2, valid_covers_o2, lp valid_covers_s2 K0⟩)]) (by kernel_rfl) ⟨valid_covers_p2 H, trivial⟩) (by decide) (fun _ => rfl) (fun x r h => (valid_covers_eq x.1).trans h)

theorem n75 {T : Told} (H : Hands T) : EnvOk T Tryz.prog (envL e75) := envL_ok (l := e75) ⟨ok107 H, ok108 H, trivial⟩

theorem nat_Mul_p8 {T : Told} (H : Hands T) : PieceOk T Tryz.prog 67 (.loop (loopAt 8 (bodyOf Tryz.f75) .skip)) ⟨nat_Mul_i8, nat_Mul_o8, lp nat_Mul_s8 K0⟩ :=
  loop_piece H.ty (n75 H) hm (LHok_of (l := []) (by kernel_rfl) trivial) nat_Mul_l8 K0

theorem nat_Mul_p4 {T : Told} (H : Hands T) : PieceOk T Tryz.prog 67 (.loop (loopAt 4 (bodyOf Tryz.f75) .skip)) ⟨nat_Mul_i4, nat_Mul_o4, lp nat_Mul_s4 K0⟩ :=
  loop_piece H.ty (n75 H) hm (LHok_of (l := [(.loop (loopAt 8 (bodyOf Tryz.f75) .skip), ⟨nat_Mul_i8, nat_Mul_o8, lp nat_Mul_s8 K0⟩)]) (by kernel_rfl) ⟨nat_Mul_p8 H, trivial⟩) nat_Mul_l4 K0

theorem ok75 {T : Told} (H : Hands T) : CtrOk T Tryz.prog 75 c75 :=
  fn_ok H.ty (n75 H) hm (lh := nat_Mul_lh) (ct := c75) (dcd := fun y => (y.2.1)) Tryz.func75 (by kernel_rfl) (by rfl) (LHok_of (l := [(.loop (loopAt 4 (bodyOf Tryz.f75) .skip), ⟨nat_Mul_i4, nat_Mul_o4, lp nat_Mul_s4 K0⟩)]) (by kernel_rfl) ⟨nat_Mul_p4 H, trivial⟩) (by decide) (fun _ => rfl) (fun x r h => (nat_Mul_eq x.1 x.2.1).trans h)

theorem n73 {T : Told} (H : Hands T) : EnvOk T Tryz.prog (envL e73) := envL_ok (l := e73) ⟨ok75 H, ok109 H, ok112 H, trivial⟩

theorem ok73 {T : Told} (H : Hands T) : CtrOk T Tryz.prog 73 c73 :=
  fn_ok H.ty (n73 H) hm (lh := whole_Mul_lh) (ct := c73) (dcd := fun y => (y.2.1)) Tryz.func73 (by kernel_rfl) (by rfl) (LHok_of (l := []) (by kernel_rfl) trivial) (by decide) (fun _ => rfl) (fun x r h => (whole_Mul_eq x.1 x.2.1).trans h)

theorem n74 {T : Told} (H : Hands T) : EnvOk T Tryz.prog (envL e74) := envL_ok (l := e74) trivial

theorem ok74 {T : Told} (H : Hands T) : CtrOk T Tryz.prog 74 c74 :=
  fn_ok H.ty (n74 H) hm (lh := ratio_den_lh) (ct := c74) (dcd := fun y => (y.2.1)) Tryz.func74 (by kernel_rfl) (by rfl) (LHok_of (l := []) (by kernel_rfl) trivial) (by decide) (fun _ => rfl) (fun x r h => (ratio_den_eq x.1).trans h)

theorem n114 {T : Told} (H : Hands T) : EnvOk T Tryz.prog (envL e114) := envL_ok (l := e114) ⟨ok108 H, ok144 H, trivial⟩

theorem ok114 {T : Told} (H : Hands T) : CtrOk T Tryz.prog 114 c114 :=
  fn_ok H.ty (n114 H) hm (lh := nat_Cmp_lh) (ct := c114) (dcd := fun y => (y.2.1)) Tryz.func114 (by kernel_rfl) (by rfl) (LHok_of (l := []) (by kernel_rfl) trivial) (by decide) (fun _ => rfl) (fun x r h => (nat_Cmp_eq x.1 x.2.1).trans h)

theorem n92 {T : Told} (H : Hands T) : EnvOk T Tryz.prog (envL e92) := envL_ok (l := e92) ⟨ok109 H, ok114 H, trivial⟩

theorem ok92 {T : Told} (H : Hands T) : CtrOk T Tryz.prog 92 c92 :=
  fn_ok H.ty (n92 H) hm (lh := whole_Cmp_lh) (ct := c92) (dcd := fun y => (y.2.1)) Tryz.func92 (by kernel_rfl) (by rfl) (LHok_of (l := []) (by kernel_rfl) trivial) (by decide) (fun _ => rfl) (fun x r h => (whole_Cmp_eq x.1 x.2.1).trans h)

theorem n52 {T : Told} (H : Hands T) : EnvOk T Tryz.prog (envL e52) := envL_ok (l := e52) ⟨ok70 H, ok73 H, ok74 H, ok92 H, trivial⟩

theorem ok52 {T : Told} (H : Hands T) : CtrOk T Tryz.prog 52 c52 :=
  fn_ok H.ty (n52 H) hm (lh := ratio_Cmp_lh) (ct := c52) (dcd := fun y => (y.2.1)) Tryz.func52 (by kernel_rfl) (by rfl) (LHok_of (l := []) (by kernel_rfl) trivial) (by decide) (fun _ => rfl) (fun x r h => (ratio_Cmp_eq x.1 x.2.1).trans h)

theorem n15 {T : Told} (H : Hands T) : EnvOk T Tryz.prog (envL e15) := envL_ok (l := e15) ⟨ok52 H, trivial⟩

theorem ok15 {T : Told} (H : Hands T) : CtrOk T Tryz.prog 15 c15 :=
  fn_ok H.ty (n15 H) hm (lh := ratio_Same_lh) (ct := c15) (dcd := fun y => (y.2.1)) Tryz.func15 (by kernel_rfl) (by rfl) (LHok_of (l := []) (by kernel_rfl) trivial) (by decide) (fun _ => rfl) (fun x r h => (ratio_Same_eq x.1 x.2.1).trans h)

theorem n113 {T : Told} (H : Hands T) : EnvOk T Tryz.prog (envL e113) := envL_ok (l := e113) ⟨ok107 H, ok108 H, ok150 H, trivial⟩

theorem nat_Add_p5 {T : Told} (H : Hands T) : PieceOk T Tryz.prog 43 (.loop (loopAt 5 (bodyOf Tryz.f113) .skip)) ⟨nat_Add_i5, nat_Add_o5, lp nat_Add_s5 K0⟩ :=
  loop_piece H.ty (n113 H) hm (LHok_of (l := []) (by kernel_rfl) trivial) nat_Add_l5 K0

theorem ok113 {T : Told} (H : Hands T) : CtrOk T Tryz.prog 113 c113 :=
  fn_ok H.ty (n113 H) hm (lh := nat_Add_lh) (ct := c113) (dcd := fun y => (y.2.1)) Tryz.func113 (by kernel_rfl) (by rfl) (LHok_of (l := [(.loop (loopAt 5 (bodyOf Tryz.f113) .skip), ⟨nat_Add_i5, nat_Add_o5, lp nat_Add_s5 K0⟩)]) (by kernel_rfl) ⟨nat_Add_p5 H, trivial⟩) (by decide) (fun _ => rfl) (fun x r h => (nat_Add_eq x.1 x.2.1).trans h)

theorem n115 {T : Told} (H : Hands T) : EnvOk T Tryz.prog (envL e115) := envL_ok (l := e115) ⟨ok108 H, ok144 H, ok147 H, trivial⟩

theorem ok115 {T : Told} (H : Hands T) : CtrOk T Tryz.prog 115 c115 :=
  fn_ok H.ty (n115 H) hm (lh := nat_Sub_lh) (ct := c115) (dcd := fun y => (y.2.1, y.2.2.1)) Tryz.func115 (by kernel_rfl) (by rfl) (LHok_of (l := []) (by kernel_rfl) trivial) (by decide) (fun _ => rfl) (fun x r h => (nat_Sub_eq x.1 x.2.1).trans h)

theorem n72 {T : Told} (H : Hands T) : EnvOk T Tryz.prog (envL e72) := envL_ok (l := e72) ⟨ok109 H, ok112 H, ok113 H, ok114 H, ok115 H, trivial⟩

theorem ok72 {T : Told} (H : Hands T) : CtrOk T Tryz.prog 72 c72 :=
  fn_ok H.ty (n72 H) hm (lh := whole_Add_lh) (ct := c72) (dcd := fun y => (y.2.1)) Tryz.func72 (by kernel_rfl) (by rfl) (LHok_of (l := []) (by kernel_rfl) trivial) (by decide) (fun _ => rfl) (fun x r h => (whole_Add_eq x.1 x.2.1).trans h)

theorem n37 {T : Told} (H : Hands T) : EnvOk T Tryz.prog (envL e37) := envL_ok (l := e37) ⟨ok70 H, ok71 H, ok72 H, ok73 H, ok74 H, ok75 H, trivial⟩

theorem ok37 {T : Told} (H : Hands T) : CtrOk T Tryz.prog 37 c37 :=
  fn_ok H.ty (n37 H) hm (lh := ratio_Add_lh) (ct := c37) (dcd := fun y => (y.2.1)) Tryz.func37 (by kernel_rfl) (by rfl) (LHok_of (l := []) (by kernel_rfl) trivial) (by decide) (fun _ => rfl) (fun x r h => (ratio_Add_eq x.1 x.2.1).trans h)

theorem n87 {T : Told} (H : Hands T) : EnvOk T Tryz.prog (envL e87) := envL_ok (l := e87) ⟨ok15 H, ok37 H, trivial⟩

theorem valid_sums_p2 {T : Told} (H : Hands T) : PieceOk T Tryz.prog 37 (.loop (loopAt 2 (bodyOf Tryz.f87) .skip)) ⟨valid_sums_i2, valid_sums_o2, lp valid_sums_s2 K0⟩ :=
  loop_piece H.ty (n87 H) hm (LHok_of (l := []) (by kernel_rfl) trivial) valid_sums_l2 K0

theorem ok87 {T : Told} (H : Hands T) : CtrOk T Tryz.prog 87 c87 :=
  fn_ok H.ty (n87 H) hm (lh := valid_sums_lh) (ct := c87) (dcd := fun y => (y.2.1, y.2.2.1)) Tryz.func87 (by kernel_rfl) (by rfl) (LHok_of (l := [(.loop (loopAt 2 (bodyOf Tryz.f87) .skip), ⟨valid_sums_i2, valid_sums_o2, lp valid_sums_s2 K0⟩)]) (by kernel_rfl) ⟨valid_sums_p2 H, trivial⟩) (by decide) (fun _ => rfl) (fun x r h => (valid_sums_eq x.1).trans h)

theorem n88 {T : Told} (H : Hands T) : EnvOk T Tryz.prog (envL e88) := envL_ok (l := e88) trivial

theorem ok88 {T : Told} (H : Hands T) : CtrOk T Tryz.prog 88 c88 :=
  fn_ok H.ty (n88 H) hm (lh := valid_fault_lh) (ct := c88) (dcd := fun y => (y.2.1)) Tryz.func88 (by kernel_rfl) (by rfl) (LHok_of (l := []) (by kernel_rfl) trivial) (by decide) (fun _ => rfl) (fun x r h => (valid_fault_eq x.1 x.2.1 x.2.2.1).trans h)

theorem n46 {T : Told} (H : Hands T) : EnvOk T Tryz.prog (envL e46) := envL_ok (l := e46) ⟨ok83 H, ok84 H, ok85 H, ok86 H, ok87 H, ok88 H, trivial⟩

theorem valid_Check_p7 {T : Told} (H : Hands T) : PieceOk T Tryz.prog 63 (.loop (loopAt 7 (bodyOf Tryz.f46) .skip)) ⟨valid_Check_i7, valid_Check_o7, lp valid_Check_s7 K0⟩ :=
  loop_piece H.ty (n46 H) hm (LHok_of (l := []) (by kernel_rfl) trivial) valid_Check_l7 K0

theorem valid_Check_p4 {T : Told} (H : Hands T) : PieceOk T Tryz.prog 63 (.loop (loopAt 4 (bodyOf Tryz.f46) .skip)) ⟨valid_Check_i4, valid_Check_o4, lp valid_Check_s4 K0⟩ :=
  loop_piece H.ty (n46 H) hm (LHok_of (l := [(.loop (loopAt 7 (bodyOf Tryz.f46) .skip), ⟨valid_Check_i7, valid_Check_o7, lp valid_Check_s7 K0⟩)]) (by kernel_rfl) ⟨valid_Check_p7 H, trivial⟩) valid_Check_l4 K0

theorem ok46 {T : Told} (H : Hands T) : CtrOk T Tryz.prog 46 c46 :=
  fn_ok H.ty (n46 H) hm (lh := valid_Check_lh) (ct := c46) (dcd := fun y => (y.2.1)) Tryz.func46 (by kernel_rfl) (by rfl) (LHok_of (l := [(.loop (loopAt 4 (bodyOf Tryz.f46) .skip), ⟨valid_Check_i4, valid_Check_o4, lp valid_Check_s4 K0⟩)]) (by kernel_rfl) ⟨valid_Check_p4 H, trivial⟩) (by decide) (fun _ => rfl) (fun x r h => (valid_Check_eq x.1).trans h)

theorem n10 {T : Told} (H : Hands T) : EnvOk T Tryz.prog (envL e10) := envL_ok (l := e10) ⟨ok46 H, trivial⟩

theorem ok10 {T : Told} (H : Hands T) : CtrOk T Tryz.prog 10 c10 :=
  fn_ok H.ty (n10 H) hm (lh := valid_Ok_lh) (ct := c10) (dcd := fun y => (y.2.1)) Tryz.func10 (by kernel_rfl) (by rfl) (LHok_of (l := []) (by kernel_rfl) trivial) (by decide) (fun _ => rfl) (fun x r h => (valid_Ok_eq x.1).trans h)

theorem n97 {T : Told} (H : Hands T) : EnvOk T Tryz.prog (envL e97) := envL_ok (l := e97) ⟨ok15 H, ok52 H, trivial⟩

theorem route_put_p2 {T : Told} (H : Hands T) : PieceOk T Tryz.prog 51 (.loop (loopAt 2 (bodyOf Tryz.f97) .skip)) ⟨route_put_i2, route_put_o2, lp route_put_s2 K0⟩ :=
  loop_piece H.ty (n97 H) hm (LHok_of (l := []) (by kernel_rfl) trivial) route_put_l2 K0

theorem ok97 {T : Told} (H : Hands T) : CtrOk T Tryz.prog 97 c97 :=
  fn_ok H.ty (n97 H) hm (lh := route_put_lh) (ct := c97) (dcd := fun y => (y.2.1)) Tryz.func97 (by kernel_rfl) (by rfl) (LHok_of (l := [(.loop (loopAt 2 (bodyOf Tryz.f97) .skip), ⟨route_put_i2, route_put_o2, lp route_put_s2 K0⟩)]) (by kernel_rfl) ⟨route_put_p2 H, trivial⟩) (by decide) (fun _ => rfl) (fun x r h => (route_put_eq x.1 x.2.1).trans h)

theorem n57 {T : Told} (H : Hands T) : EnvOk T Tryz.prog (envL e57) := envL_ok (l := e57) ⟨ok10 H, ok70 H, ok97 H, trivial⟩

theorem route_Cuts_p10 {T : Told} (H : Hands T) : PieceOk T Tryz.prog 54 (.loop (loopAt 10 (bodyOf Tryz.f57) .skip)) ⟨route_Cuts_i10, route_Cuts_o10, lp route_Cuts_s10 K0⟩ :=
  loop_piece H.ty (n57 H) hm (LHok_of (l := []) (by kernel_rfl) trivial) route_Cuts_l10 K0

theorem route_Cuts_p7 {T : Told} (H : Hands T) : PieceOk T Tryz.prog 54 (.loop (loopAt 7 (bodyOf Tryz.f57) .skip)) ⟨route_Cuts_i7, route_Cuts_o7, lp route_Cuts_s7 K0⟩ :=
  loop_piece H.ty (n57 H) hm (LHok_of (l := [(.loop (loopAt 10 (bodyOf Tryz.f57) .skip), ⟨route_Cuts_i10, route_Cuts_o10, lp route_Cuts_s10 K0⟩)]) (by kernel_rfl) ⟨route_Cuts_p10 H, trivial⟩) route_Cuts_l7 K0

theorem ok57 {T : Told} (H : Hands T) : CtrOk T Tryz.prog 57 c57 :=
  fn_ok H.ty (n57 H) hm (lh := route_Cuts_lh) (ct := c57) (dcd := fun y => (y.2.1, y.2.2.1)) Tryz.func57 (by kernel_rfl) (by rfl) (LHok_of (l := [(.loop (loopAt 7 (bodyOf Tryz.f57) .skip), ⟨route_Cuts_i7, route_Cuts_o7, lp route_Cuts_s7 K0⟩)]) (by kernel_rfl) ⟨route_Cuts_p7 H, trivial⟩) (by decide) (fun _ => rfl) (fun x r h => (route_Cuts_eq x.1 x.2.1).trans h)

theorem n117 {T : Told} (H : Hands T) : EnvOk T Tryz.prog (envL e117) := envL_ok (l := e117) ⟨ok109 H, ok112 H, trivial⟩

theorem ok117 {T : Told} (H : Hands T) : CtrOk T Tryz.prog 117 c117 :=
  fn_ok H.ty (n117 H) hm (lh := whole_Neg_lh) (ct := c117) (dcd := fun y => (y.2.1)) Tryz.func117 (by kernel_rfl) (by rfl) (LHok_of (l := []) (by kernel_rfl) trivial) (by decide) (fun _ => rfl) (fun x r h => (whole_Neg_eq x.1).trans h)

theorem n98 {T : Told} (H : Hands T) : EnvOk T Tryz.prog (envL e98) := envL_ok (l := e98) ⟨ok70 H, ok117 H, trivial⟩

theorem ok98 {T : Told} (H : Hands T) : CtrOk T Tryz.prog 98 c98 :=
  fn_ok H.ty (n98 H) hm (lh := ratio_Neg_lh) (ct := c98) (dcd := fun y => (y.2.1)) Tryz.func98 (by kernel_rfl) (by rfl) (LHok_of (l := []) (by kernel_rfl) trivial) (by decide) (fun _ => rfl) (fun x r h => (ratio_Neg_eq x.1).trans h)

theorem n58 {T : Told} (H : Hands T) : EnvOk T Tryz.prog (envL e58) := envL_ok (l := e58) ⟨ok37 H, ok98 H, trivial⟩

theorem ok58 {T : Told} (H : Hands T) : CtrOk T Tryz.prog 58 c58 :=
  fn_ok H.ty (n58 H) hm (lh := ratio_Sub_lh) (ct := c58) (dcd := fun y => (y.2.1)) Tryz.func58 (by kernel_rfl) (by rfl) (LHok_of (l := []) (by kernel_rfl) trivial) (by decide) (fun _ => rfl) (fun x r h => (ratio_Sub_eq x.1 x.2.1).trans h)

theorem n24 {T : Told} (H : Hands T) : EnvOk T Tryz.prog (envL e24) := envL_ok (l := e24) ⟨ok36 H, ok48 H, ok57 H, ok58 H, trivial⟩

theorem ok24 {T : Told} (H : Hands T) : CtrOk T Tryz.prog 24 c24 :=
  fn_ok H.ty (n24 H) hm (lh := route_Steps_lh) (ct := c24) (dcd := fun y => (y.2.1, y.2.2.1)) Tryz.func24 (by kernel_rfl) (by rfl) (LHok_of (l := []) (by kernel_rfl) trivial) (by decide) (fun _ => rfl) (fun x r h => (route_Steps_eq x.1 x.2.1).trans h)

theorem n59 {T : Told} (H : Hands T) : EnvOk T Tryz.prog (envL e59) := envL_ok (l := e59) ⟨ok10 H, trivial⟩

theorem ok59 {T : Told} (H : Hands T) : CtrOk T Tryz.prog 59 c59 :=
  fn_ok H.ty (n59 H) hm (lh := depend_feature_lh) (ct := c59) (dcd := fun y => (y.2.1)) Tryz.func59 (by kernel_rfl) (by rfl) (LHok_of (l := []) (by kernel_rfl) trivial) (by decide) (fun _ => rfl) (fun x r h => (depend_feature_eq x.1 x.2.1).trans h)

theorem n89 {T : Told} (H : Hands T) : EnvOk T Tryz.prog (envL e89) := envL_ok (l := e89) ⟨ok10 H, trivial⟩

theorem ok89 {T : Told} (H : Hands T) : CtrOk T Tryz.prog 89 c89 :=
  fn_ok H.ty (n89 H) hm (lh := route_fits_lh) (ct := c89) (dcd := fun y => (y.2.1)) Tryz.func89 (by kernel_rfl) (by rfl) (LHok_of (l := []) (by kernel_rfl) trivial) (by decide) (fun _ => rfl) (fun x r h => (route_fits_eq x.1 x.2.1).trans h)

theorem n50 {T : Told} (H : Hands T) : EnvOk T Tryz.prog (envL e50) := envL_ok (l := e50) ⟨ok89 H, trivial⟩

theorem ok50 {T : Told} (H : Hands T) : CtrOk T Tryz.prog 50 c50 :=
  fn_ok H.ty (n50 H) hm (lh := route_Fits_lh) (ct := c50) (dcd := fun y => (y.2.1)) Tryz.func50 (by kernel_rfl) (by rfl) (LHok_of (l := []) (by kernel_rfl) trivial) (by decide) (fun _ => rfl) (fun x r h => (route_Fits_eq x.1 x.2.1).trans h)

theorem n124 {T : Told} (H : Hands T) : EnvOk T Tryz.prog (envL e124) := envL_ok (l := e124) ⟨ok52 H, trivial⟩

theorem ok124 {T : Told} (H : Hands T) : CtrOk T Tryz.prog 124 c124 :=
  fn_ok H.ty (n124 H) hm (lh := route_goes_lh) (ct := c124) (dcd := fun y => (y.2.1)) Tryz.func124 (by kernel_rfl) (by rfl) (LHok_of (l := []) (by kernel_rfl) trivial) (by decide) (fun _ => rfl) (fun x r h => (route_goes_eq x.1 x.2.1).trans h)

theorem n94 {T : Told} (H : Hands T) : EnvOk T Tryz.prog (envL e94) := envL_ok (l := e94) ⟨ok124 H, trivial⟩

theorem ok94 {T : Told} (H : Hands T) : CtrOk T Tryz.prog 94 c94 :=
  fn_ok H.ty (n94 H) hm (lh := route_Left_lh) (ct := c94) (dcd := fun y => (y.2.1)) Tryz.func94 (by kernel_rfl) (by rfl) (LHok_of (l := []) (by kernel_rfl) trivial) (by decide) (fun _ => rfl) (fun x r h => (route_Left_eq x.1 x.2.1).trans h)

theorem n126 {T : Told} (H : Hands T) : EnvOk T Tryz.prog (envL e126) := envL_ok (l := e126) trivial

theorem ok126 {T : Told} (H : Hands T) : CtrOk T Tryz.prog 126 c126 :=
  fn_ok H.ty (n126 H) hm (lh := expect_known_lh) (ct := c126) (dcd := fun y => (y.2.1)) Tryz.func126 (by kernel_rfl) (by rfl) (LHok_of (l := []) (by kernel_rfl) trivial) (by decide) (fun _ => rfl) (fun x r h => (expect_known_eq x.1 x.2.1).trans h)

theorem n38 {T : Told} (H : Hands T) : EnvOk T Tryz.prog (envL e38) := envL_ok (l := e38) ⟨ok70 H, ok71 H, ok73 H, ok75 H, trivial⟩

theorem ok38 {T : Told} (H : Hands T) : CtrOk T Tryz.prog 38 c38 :=
  fn_ok H.ty (n38 H) hm (lh := ratio_Mul_lh) (ct := c38) (dcd := fun y => (y.2.1)) Tryz.func38 (by kernel_rfl) (by rfl) (LHok_of (l := []) (by kernel_rfl) trivial) (by decide) (fun _ => rfl) (fun x r h => (ratio_Mul_eq x.1 x.2.1).trans h)

theorem n76 {T : Told} (H : Hands T) : EnvOk T Tryz.prog (envL e76) := envL_ok (l := e76) ⟨ok71 H, ok109 H, ok116 H, ok117 H, trivial⟩

theorem ok76 {T : Told} (H : Hands T) : CtrOk T Tryz.prog 76 c76 :=
  fn_ok H.ty (n76 H) hm (lh := ratio_Make_lh) (ct := c76) (dcd := fun y => (y.2.1, y.2.2.1)) Tryz.func76 (by kernel_rfl) (by rfl) (LHok_of (l := []) (by kernel_rfl) trivial) (by decide) (fun _ => rfl) (fun x r h => (ratio_Make_eq x.1 x.2.1).trans h)

theorem n125 {T : Told} (H : Hands T) : EnvOk T Tryz.prog (envL e125) := envL_ok (l := e125) ⟨ok70 H, ok74 H, ok76 H, trivial⟩

theorem ok125 {T : Told} (H : Hands T) : CtrOk T Tryz.prog 125 c125 :=
  fn_ok H.ty (n125 H) hm (lh := ratio_Inv_lh) (ct := c125) (dcd := fun y => (y.2.1, y.2.2.1)) Tryz.func125 (by kernel_rfl) (by rfl) (LHok_of (l := []) (by kernel_rfl) trivial) (by decide) (fun _ => rfl) (fun x r h => (ratio_Inv_eq x.1).trans h)

theorem n95 {T : Told} (H : Hands T) : EnvOk T Tryz.prog (envL e95) := envL_ok (l := e95) ⟨ok38 H, ok125 H, trivial⟩

theorem ok95 {T : Told} (H : Hands T) : CtrOk T Tryz.prog 95 c95 :=
  fn_ok H.ty (n95 H) hm (lh := ratio_Div_lh) (ct := c95) (dcd := fun y => (y.2.1, y.2.2.1)) Tryz.func95 (by kernel_rfl) (by rfl) (LHok_of (l := []) (by kernel_rfl) trivial) (by decide) (fun _ => rfl) (fun x r h => (ratio_Div_eq x.1 x.2.1).trans h)

theorem n157 {T : Told} (H : Hands T) : EnvOk T Tryz.prog (envL e157) := envL_ok (l := e157) ⟨ok95 H, trivial⟩

theorem ok157 {T : Told} (H : Hands T) : CtrOk T Tryz.prog 157 c157 :=
  fn_ok H.ty (n157 H) hm (lh := expect_over_lh) (ct := c157) (dcd := fun y => (y.2.1)) Tryz.func157 (by kernel_rfl) (by rfl) (LHok_of (l := []) (by kernel_rfl) trivial) (by decide) (fun _ => rfl) (fun x r h => (expect_over_eq x.1 x.2.1).trans h)

theorem n127 {T : Told} (H : Hands T) : EnvOk T Tryz.prog (envL e127) := envL_ok (l := e127) ⟨ok37 H, ok38 H, ok157 H, trivial⟩

theorem ok127 {T : Told} (H : Hands T) : CtrOk T Tryz.prog 127 c127 :=
  fn_ok H.ty (n127 H) hm (lh := expect_mean_lh) (ct := c127) (dcd := fun y => (y.2.1)) Tryz.func127 (by kernel_rfl) (by rfl) (LHok_of (l := []) (by kernel_rfl) trivial) (by decide) (fun _ => rfl) (fun x r h => (expect_mean_eq x.1 x.2.1 x.2.2.1 x.2.2.2.1).trans h)

theorem n99 {T : Told} (H : Hands T) (n : Nat) (hr : CtrOk T Tryz.prog 99 (c99 n)) : EnvOk T Tryz.prog (envL (e99 n)) := envL_ok (l := (e99 n)) ⟨ok70 H, ok94 H, hr, ok126 H, ok127 H, trivial⟩

theorem ok99 {T : Told} (H : Hands T) : ∀ n, CtrOk T Tryz.prog 99 (c99 n)
  | 0 => CtrOk.never Tryz.func99 (by kernel_rfl) (by rfl) (fun _ => rfl)
  | n + 1 => fn_ok H.ty (n99 H n (ok99 H n)) hm (lh := expect_value_lh n) (ct := c99 (n + 1)) (dcd := fun y => (y.2.1)) Tryz.func99 (by kernel_rfl) (by rfl) (LHok_of (l := []) (by kernel_rfl) trivial) (Nat.le_of_ble_eq_true rfl) (fun _ => rfl) (fun x r h => (expect_value_eq n x.1 x.2.1 x.2.2.1 x.2.2.2.1).trans h)

theorem n60 {T : Told} (H : Hands T) : EnvOk T Tryz.prog (envL e60) := envL_ok (l := e60) ⟨ok36 H, ok37 H, ok50 H, ok99 H R0, trivial⟩

theorem expect_Value_p6 {T : Told} (H : Hands T) : PieceOk T Tryz.prog 35 (.loop (loopAt 6 (bodyOf Tryz.f60) .skip)) ⟨expect_Value_i6, expect_Value_o6, lp expect_Value_s6 K0⟩ :=
  loop_piece H.ty (n60 H) hm (LHok_of (l := []) (by kernel_rfl) trivial) expect_Value_l6 K0

theorem ok60 {T : Told} (H : Hands T) : CtrOk T Tryz.prog 60 c60 :=
  fn_ok H.ty (n60 H) hm (lh := expect_Value_lh) (ct := c60) (dcd := fun y => (y.2.1, y.2.2.1)) Tryz.func60 (by kernel_rfl) (by rfl) (LHok_of (l := [(.loop (loopAt 6 (bodyOf Tryz.f60) .skip), ⟨expect_Value_i6, expect_Value_o6, lp expect_Value_s6 K0⟩)]) (by kernel_rfl) ⟨expect_Value_p6 H, trivial⟩) (by decide) (fun _ => rfl) (fun x r h => (expect_Value_eq x.1 x.2.1 x.2.2.1).trans h)

theorem n25 {T : Told} (H : Hands T) : EnvOk T Tryz.prog (envL e25) := envL_ok (l := e25) ⟨ok59 H, ok60 H, trivial⟩

theorem ok25 {T : Told} (H : Hands T) : CtrOk T Tryz.prog 25 c25 :=
  fn_ok H.ty (n25 H) hm (lh := depend_Cover_lh) (ct := c25) (dcd := fun y => (y.2.1, y.2.2.1)) Tryz.func25 (by kernel_rfl) (by rfl) (LHok_of (l := []) (by kernel_rfl) trivial) (by decide) (fun _ => rfl) (fun x r h => (depend_Cover_eq x.1 x.2.1 x.2.2.1).trans h)

theorem n21 {T : Told} (H : Hands T) : EnvOk T Tryz.prog (envL e21) := envL_ok (l := e21) ⟨ok24 H, ok25 H, trivial⟩

theorem depend_Curve_p6 {T : Told} (H : Hands T) : PieceOk T Tryz.prog 56 (.loop (loopAt 6 (bodyOf Tryz.f21) .skip)) ⟨depend_Curve_i6, depend_Curve_o6, lp depend_Curve_s6 K0⟩ :=
  loop_piece H.ty (n21 H) hm (LHok_of (l := []) (by kernel_rfl) trivial) depend_Curve_l6 K0

theorem ok21 {T : Told} (H : Hands T) : CtrOk T Tryz.prog 21 c21 :=
  fn_ok H.ty (n21 H) hm (lh := depend_Curve_lh) (ct := c21) (dcd := fun y => (y.2.1, y.2.2.1, y.2.2.2.1, y.2.2.2.2.1)) Tryz.func21 (by kernel_rfl) (by rfl) (LHok_of (l := [(.loop (loopAt 6 (bodyOf Tryz.f21) .skip), ⟨depend_Curve_i6, depend_Curve_o6, lp depend_Curve_s6 K0⟩)]) (by kernel_rfl) ⟨depend_Curve_p6 H, trivial⟩) (by decide) (fun _ => rfl) (fun x r h => (depend_Curve_eq x.1 x.2.1).trans h)

theorem n22 {T : Told} (H : Hands T) : EnvOk T Tryz.prog (envL e22) := envL_ok (l := e22) ⟨ok10 H, trivial⟩

theorem ok22 {T : Told} (H : Hands T) : CtrOk T Tryz.prog 22 c22 :=
  fn_ok H.ty (n22 H) hm (lh := dendronlaw13_why_lh) (ct := c22) (dcd := fun y => (y.2.1)) Tryz.func22 (by kernel_rfl) (by rfl) (LHok_of (l := []) (by kernel_rfl) trivial) (by decide) (fun _ => rfl) (fun x r h => (dendronlaw13_why_eq x.1 x.2.1).trans h)

theorem n27 {T : Told} (H : Hands T) : EnvOk T Tryz.prog (envL e27) := envL_ok (l := e27) ⟨ok52 H, trivial⟩

theorem depend_At_p3 {T : Told} (H : Hands T) : PieceOk T Tryz.prog 22 (.loop (loopAt 3 (bodyOf Tryz.f27) .skip)) ⟨depend_At_i3, depend_At_o3, lp depend_At_s3 K0⟩ :=
  loop_piece H.ty (n27 H) hm (LHok_of (l := []) (by kernel_rfl) trivial) depend_At_l3 K0

theorem ok27 {T : Told} (H : Hands T) : CtrOk T Tryz.prog 27 c27 :=
  fn_ok H.ty (n27 H) hm (lh := depend_At_lh) (ct := c27) (dcd := fun y => (y.2.1)) Tryz.func27 (by kernel_rfl) (by rfl) (LHok_of (l := [(.loop (loopAt 3 (bodyOf Tryz.f27) .skip), ⟨depend_At_i3, depend_At_o3, lp depend_At_s3 K0⟩)]) (by kernel_rfl) ⟨depend_At_p3 H, trivial⟩) (by decide) (fun _ => rfl) (fun x r h => (depend_At_eq x.1 x.2.1).trans h)

theorem n40 {T : Told} (H : Hands T) : EnvOk T Tryz.prog (envL e40) := envL_ok (l := e40) ⟨ok70 H, ok76 H, ok77 H, trivial⟩

theorem ok40 {T : Told} (H : Hands T) : CtrOk T Tryz.prog 40 c40 :=
  fn_ok H.ty (n40 H) hm (lh := ratio_Frac_lh) (ct := c40) (dcd := fun y => (y.2.1)) Tryz.func40 (by kernel_rfl) (by rfl) (LHok_of (l := []) (by kernel_rfl) trivial) (by decide) (fun _ => rfl) (fun x r h => (ratio_Frac_eq x.1 x.2.1).trans h)

theorem n23 {T : Told} (H : Hands T) : EnvOk T Tryz.prog (envL e23) := envL_ok (l := e23) ⟨ok27 H, ok40 H, ok49 H, trivial⟩

theorem ok23 {T : Told} (H : Hands T) : CtrOk T Tryz.prog 23 c23 :=
  fn_ok H.ty (n23 H) hm (lh := dendronlaw13_awake_lh) (ct := c23) (dcd := fun y => (y.2.1)) Tryz.func23 (by kernel_rfl) (by rfl) (LHok_of (l := []) (by kernel_rfl) trivial) (by decide) (fun _ => rfl) (fun x r h => (dendronlaw13_awake_eq ).trans h)

theorem n131 {T : Told} (H : Hands T) : EnvOk T Tryz.prog (envL e131) := envL_ok (l := e131) trivial

theorem dendronref01_Small_p2 {T : Told} (H : Hands T) : PieceOk T Tryz.prog 14 (.loop (loopAt 2 (bodyOf Tryz.f131) .skip)) ⟨dendronref01_Small_i2, dendronref01_Small_o2, lp dendronref01_Small_s2 K0⟩ :=
  loop_piece H.ty (n131 H) hm (LHok_of (l := []) (by kernel_rfl) trivial) dendronref01_Small_l2 K0

theorem ok131 {T : Told} (H : Hands T) : CtrOk T Tryz.prog 131 c131 :=
  fn_ok H.ty (n131 H) hm (lh := dendronref01_Small_lh) (ct := c131) (dcd := fun y => (y.2.1)) Tryz.func131 (by kernel_rfl) (by rfl) (LHok_of (l := [(.loop (loopAt 2 (bodyOf Tryz.f131) .skip), ⟨dendronref01_Small_i2, dendronref01_Small_o2, lp dendronref01_Small_s2 K0⟩)]) (by kernel_rfl) ⟨dendronref01_Small_p2 H, trivial⟩) (by decide) (fun _ => rfl) (fun x r h => (dendronref01_Small_eq x.1).trans h)

theorem n159 {T : Told} (H : Hands T) : EnvOk T Tryz.prog (envL e159) := envL_ok (l := e159) trivial

theorem ok159 {T : Told} (H : Hands T) : CtrOk T Tryz.prog 159 c159 :=
  fn_ok H.ty (n159 H) hm (lh := dendronref01_digit_lh) (ct := c159) (dcd := fun y => (y.2.1)) Tryz.func159 (by kernel_rfl) (by rfl) (LHok_of (l := []) (by kernel_rfl) trivial) (by decide) (fun _ => rfl) (fun x r h => (dendronref01_digit_eq x.1 x.2.1).trans h)

theorem n135 {T : Told} (H : Hands T) : EnvOk T Tryz.prog (envL e135) := envL_ok (l := e135) ⟨ok159 H, trivial⟩

theorem dendronref01_Plus_p4 {T : Told} (H : Hands T) : PieceOk T Tryz.prog 41 (.loop (loopAt 4 (bodyOf Tryz.f135) .skip)) ⟨dendronref01_Plus_i4, dendronref01_Plus_o4, lp dendronref01_Plus_s4 K0⟩ :=
  loop_piece H.ty (n135 H) hm (LHok_of (l := []) (by kernel_rfl) trivial) dendronref01_Plus_l4 K0

theorem ok135 {T : Told} (H : Hands T) : CtrOk T Tryz.prog 135 c135 :=
  fn_ok H.ty (n135 H) hm (lh := dendronref01_Plus_lh) (ct := c135) (dcd := fun y => (y.2.1)) Tryz.func135 (by kernel_rfl) (by rfl) (LHok_of (l := [(.loop (loopAt 4 (bodyOf Tryz.f135) .skip), ⟨dendronref01_Plus_i4, dendronref01_Plus_o4, lp dendronref01_Plus_s4 K0⟩)]) (by kernel_rfl) ⟨dendronref01_Plus_p4 H, trivial⟩) (by decide) (fun _ => rfl) (fun x r h => (dendronref01_Plus_eq x.1 x.2.1).trans h)

theorem n160 {T : Told} (H : Hands T) : EnvOk T Tryz.prog (envL e160) := envL_ok (l := e160) trivial

theorem dendronref01_Trim_p2 {T : Told} (H : Hands T) : PieceOk T Tryz.prog 21 (.loop (loopAt 2 (bodyOf Tryz.f160) .skip)) ⟨dendronref01_Trim_i2, dendronref01_Trim_o2, lp dendronref01_Trim_s2 K0⟩ :=
  loop_piece H.ty (n160 H) hm (LHok_of (l := []) (by kernel_rfl) trivial) dendronref01_Trim_l2 K0

theorem ok160 {T : Told} (H : Hands T) : CtrOk T Tryz.prog 160 c160 :=
  fn_ok H.ty (n160 H) hm (lh := dendronref01_Trim_lh) (ct := c160) (dcd := fun y => (y.2.1)) Tryz.func160 (by kernel_rfl) (by rfl) (LHok_of (l := [(.loop (loopAt 2 (bodyOf Tryz.f160) .skip), ⟨dendronref01_Trim_i2, dendronref01_Trim_o2, lp dendronref01_Trim_s2 K0⟩)]) (by kernel_rfl) ⟨dendronref01_Trim_p2 H, trivial⟩) (by decide) (fun _ => rfl) (fun x r h => (dendronref01_Trim_eq x.1).trans h)

theorem n136 {T : Told} (H : Hands T) : EnvOk T Tryz.prog (envL e136) := envL_ok (l := e136) ⟨ok160 H, trivial⟩

theorem dendronref01_Times_p7 {T : Told} (H : Hands T) : PieceOk T Tryz.prog 63 (.loop (loopAt 7 (bodyOf Tryz.f136) .skip)) ⟨dendronref01_Times_i7, dendronref01_Times_o7, lp dendronref01_Times_s7 K0⟩ :=
  loop_piece H.ty (n136 H) hm (LHok_of (l := []) (by kernel_rfl) trivial) dendronref01_Times_l7 K0

theorem dendronref01_Times_p3 {T : Told} (H : Hands T) : PieceOk T Tryz.prog 63 (.loop (loopAt 3 (bodyOf Tryz.f136) .skip)) ⟨dendronref01_Times_i3, dendronref01_Times_o3, lp dendronref01_Times_s3 K0⟩ :=
  loop_piece H.ty (n136 H) hm (LHok_of (l := [(.loop (loopAt 7 (bodyOf Tryz.f136) .skip), ⟨dendronref01_Times_i7, dendronref01_Times_o7, lp dendronref01_Times_s7 K0⟩)]) (by kernel_rfl) ⟨dendronref01_Times_p7 H, trivial⟩) dendronref01_Times_l3 K0

theorem ok136 {T : Told} (H : Hands T) : CtrOk T Tryz.prog 136 c136 :=
  fn_ok H.ty (n136 H) hm (lh := dendronref01_Times_lh) (ct := c136) (dcd := fun y => (y.2.1)) Tryz.func136 (by kernel_rfl) (by rfl) (LHok_of (l := [(.loop (loopAt 3 (bodyOf Tryz.f136) .skip), ⟨dendronref01_Times_i3, dendronref01_Times_o3, lp dendronref01_Times_s3 K0⟩)]) (by kernel_rfl) ⟨dendronref01_Times_p3 H, trivial⟩) (by decide) (fun _ => rfl) (fun x r h => (dendronref01_Times_eq x.1 x.2.1).trans h)

theorem n102 {T : Told} (H : Hands T) : EnvOk T Tryz.prog (envL e102) := envL_ok (l := e102) ⟨ok131 H, ok135 H, ok136 H, trivial⟩

theorem dendronref01_From_p4 {T : Told} (H : Hands T) : PieceOk T Tryz.prog 26 (.loop (loopAt 4 (bodyOf Tryz.f102) .skip)) ⟨dendronref01_From_i4, dendronref01_From_o4, lp dendronref01_From_s4 K0⟩ :=
  loop_piece H.ty (n102 H) hm (LHok_of (l := []) (by kernel_rfl) trivial) dendronref01_From_l4 K0

theorem ok102 {T : Told} (H : Hands T) : CtrOk T Tryz.prog 102 c102 :=
  fn_ok H.ty (n102 H) hm (lh := dendronref01_From_lh) (ct := c102) (dcd := fun y => (y.2.1)) Tryz.func102 (by kernel_rfl) (by rfl) (LHok_of (l := [(.loop (loopAt 4 (bodyOf Tryz.f102) .skip), ⟨dendronref01_From_i4, dendronref01_From_o4, lp dendronref01_From_s4 K0⟩)]) (by kernel_rfl) ⟨dendronref01_From_p4 H, trivial⟩) (by decide) (fun _ => rfl) (fun x r h => (dendronref01_From_eq x.1).trans h)

theorem n138 {T : Told} (H : Hands T) : EnvOk T Tryz.prog (envL e138) := envL_ok (l := e138) trivial

theorem ok138 {T : Told} (H : Hands T) : CtrOk T Tryz.prog 138 c138 :=
  fn_ok H.ty (n138 H) hm (lh := dendronref02_Make_lh) (ct := c138) (dcd := fun y => (y.2.1)) Tryz.func138 (by kernel_rfl) (by rfl) (LHok_of (l := []) (by kernel_rfl) trivial) (by decide) (fun _ => rfl) (fun x r h => (dendronref02_Make_eq x.1 x.2.1).trans h)

theorem n137 {T : Told} (H : Hands T) : EnvOk T Tryz.prog (envL e137) := envL_ok (l := e137) ⟨ok131 H, ok135 H, ok138 H, trivial⟩

theorem ok137 {T : Told} (H : Hands T) : CtrOk T Tryz.prog 137 c137 :=
  fn_ok H.ty (n137 H) hm (lh := dendronref02_Small_lh) (ct := c137) (dcd := fun y => (y.2.1)) Tryz.func137 (by kernel_rfl) (by rfl) (LHok_of (l := []) (by kernel_rfl) trivial) (by decide) (fun _ => rfl) (fun x r h => (dendronref02_Small_eq x.1).trans h)

theorem n103 {T : Told} (H : Hands T) : EnvOk T Tryz.prog (envL e103) := envL_ok (l := e103) ⟨ok131 H, ok137 H, trivial⟩

theorem ok103 {T : Told} (H : Hands T) : CtrOk T Tryz.prog 103 c103 :=
  fn_ok H.ty (n103 H) hm (lh := dendronref03_Small_lh) (ct := c103) (dcd := fun y => (y.2.1)) Tryz.func103 (by kernel_rfl) (by rfl) (LHok_of (l := []) (by kernel_rfl) trivial) (by decide) (fun _ => rfl) (fun x r h => (dendronref03_Small_eq x.1 x.2.1).trans h)

theorem n104 {T : Told} (H : Hands T) : EnvOk T Tryz.prog (envL e104) := envL_ok (l := e104) ⟨ok102 H, ok138 H, trivial⟩

theorem ok104 {T : Told} (H : Hands T) : CtrOk T Tryz.prog 104 c104 :=
  fn_ok H.ty (n104 H) hm (lh := dendronref02_From_lh) (ct := c104) (dcd := fun y => (y.2.1)) Tryz.func104 (by kernel_rfl) (by rfl) (LHok_of (l := []) (by kernel_rfl) trivial) (by decide) (fun _ => rfl) (fun x r h => (dendronref02_From_eq x.1).trans h)

theorem n62 {T : Told} (H : Hands T) : EnvOk T Tryz.prog (envL e62) := envL_ok (l := e62) ⟨ok102 H, ok103 H, ok104 H, trivial⟩

theorem ok62 {T : Told} (H : Hands T) : CtrOk T Tryz.prog 62 c62 :=
  fn_ok H.ty (n62 H) hm (lh := dendronref03_From_lh) (ct := c62) (dcd := fun y => (y.2.1)) Tryz.func62 (by kernel_rfl) (by rfl) (LHok_of (l := []) (by kernel_rfl) trivial) (by decide) (fun _ => rfl) (fun x r h => (dendronref03_From_eq x.1).trans h)

theorem n128 {T : Told} (H : Hands T) : EnvOk T Tryz.prog (envL e128) := envL_ok (l := e128) trivial

theorem dendronref01_Right_p2 {T : Told} (H : Hands T) : PieceOk T Tryz.prog 27 (.loop (loopAt 2 (bodyOf Tryz.f128) .skip)) ⟨dendronref01_Right_i2, dendronref01_Right_o2, lp dendronref01_Right_s2 K0⟩ :=
  loop_piece H.ty (n128 H) hm (LHok_of (l := []) (by kernel_rfl) trivial) dendronref01_Right_l2 K0

theorem ok128 {T : Told} (H : Hands T) : CtrOk T Tryz.prog 128 c128 :=
  fn_ok H.ty (n128 H) hm (lh := dendronref01_Right_lh) (ct := c128) (dcd := fun y => (y.2.1)) Tryz.func128 (by kernel_rfl) (by rfl) (LHok_of (l := [(.loop (loopAt 2 (bodyOf Tryz.f128) .skip), ⟨dendronref01_Right_i2, dendronref01_Right_o2, lp dendronref01_Right_s2 K0⟩)]) (by kernel_rfl) ⟨dendronref01_Right_p2 H, trivial⟩) (by decide) (fun _ => rfl) (fun x r h => (dendronref01_Right_eq x.1).trans h)

theorem n130 {T : Told} (H : Hands T) : EnvOk T Tryz.prog (envL e130) := envL_ok (l := e130) trivial

theorem dendronref01_Order_p6 {T : Told} (H : Hands T) : PieceOk T Tryz.prog 41 (.loop (loopAt 6 (bodyOf Tryz.f130) .skip)) ⟨dendronref01_Order_i6, dendronref01_Order_o6, lp dendronref01_Order_s6 K0⟩ :=
  loop_piece H.ty (n130 H) hm (LHok_of (l := []) (by kernel_rfl) trivial) dendronref01_Order_l6 K0

theorem ok130 {T : Told} (H : Hands T) : CtrOk T Tryz.prog 130 c130 :=
  fn_ok H.ty (n130 H) hm (lh := dendronref01_Order_lh) (ct := c130) (dcd := fun y => (y.2.1)) Tryz.func130 (by kernel_rfl) (by rfl) (LHok_of (l := [(.loop (loopAt 6 (bodyOf Tryz.f130) .skip), ⟨dendronref01_Order_i6, dendronref01_Order_o6, lp dendronref01_Order_s6 K0⟩)]) (by kernel_rfl) ⟨dendronref01_Order_p6 H, trivial⟩) (by decide) (fun _ => rfl) (fun x r h => (dendronref01_Order_eq x.1 x.2.1).trans h)

theorem n169 {T : Told} (H : Hands T) : EnvOk T Tryz.prog (envL e169) := envL_ok (l := e169) ⟨ok159 H, ok160 H, trivial⟩

theorem dendronref01_Minus_p4 {T : Told} (H : Hands T) : PieceOk T Tryz.prog 35 (.loop (loopAt 4 (bodyOf Tryz.f169) .skip)) ⟨dendronref01_Minus_i4, dendronref01_Minus_o4, lp dendronref01_Minus_s4 K0⟩ :=
  loop_piece H.ty (n169 H) hm (LHok_of (l := []) (by kernel_rfl) trivial) dendronref01_Minus_l4 K0

theorem ok169 {T : Told} (H : Hands T) : CtrOk T Tryz.prog 169 c169 :=
  fn_ok H.ty (n169 H) hm (lh := dendronref01_Minus_lh) (ct := c169) (dcd := fun y => (y.2.1)) Tryz.func169 (by kernel_rfl) (by rfl) (LHok_of (l := [(.loop (loopAt 4 (bodyOf Tryz.f169) .skip), ⟨dendronref01_Minus_i4, dendronref01_Minus_o4, lp dendronref01_Minus_s4 K0⟩)]) (by kernel_rfl) ⟨dendronref01_Minus_p4 H, trivial⟩) (by decide) (fun _ => rfl) (fun x r h => (dendronref01_Minus_eq x.1 x.2.1).trans h)

theorem n158 {T : Told} (H : Hands T) : EnvOk T Tryz.prog (envL e158) := envL_ok (l := e158) ⟨ok130 H, ok131 H, ok136 H, ok160 H, ok169 H, trivial⟩

theorem dendronref01_Over_p12 {T : Told} (H : Hands T) : PieceOk T Tryz.prog 65 (.loop (loopAt 12 (bodyOf Tryz.f158) .skip)) ⟨dendronref01_Over_i12, dendronref01_Over_o12, lp dendronref01_Over_s12 K0⟩ :=
  loop_piece H.ty (n158 H) hm (LHok_of (l := []) (by kernel_rfl) trivial) dendronref01_Over_l12 K0

theorem dendronref01_Over_p4 {T : Told} (H : Hands T) : PieceOk T Tryz.prog 65 (.loop (loopAt 4 (bodyOf Tryz.f158) .skip)) ⟨dendronref01_Over_i4, dendronref01_Over_o4, lp dendronref01_Over_s4 K0⟩ :=
  loop_piece H.ty (n158 H) hm (LHok_of (l := [(.loop (loopAt 12 (bodyOf Tryz.f158) .skip), ⟨dendronref01_Over_i12, dendronref01_Over_o12, lp dendronref01_Over_s12 K0⟩)]) (by kernel_rfl) ⟨dendronref01_Over_p12 H, trivial⟩) dendronref01_Over_l4 K0

theorem ok158 {T : Told} (H : Hands T) : CtrOk T Tryz.prog 158 c158 :=
  fn_ok H.ty (n158 H) hm (lh := dendronref01_Over_lh) (ct := c158) (dcd := fun y => (y.2.1, y.2.2.1)) Tryz.func158 (by kernel_rfl) (by rfl) (LHok_of (l := [(.loop (loopAt 4 (bodyOf Tryz.f158) .skip), ⟨dendronref01_Over_i4, dendronref01_Over_o4, lp dendronref01_Over_s4 K0⟩)]) (by kernel_rfl) ⟨dendronref01_Over_p4 H, trivial⟩) (by decide) (fun _ => rfl) (fun x r h => (dendronref01_Over_eq x.1 x.2.1).trans h)

theorem n129 {T : Told} (H : Hands T) : EnvOk T Tryz.prog (envL e129) := envL_ok (l := e129) ⟨ok158 H, trivial⟩

theorem dendronref01_Gcd_p1 {T : Told} (H : Hands T) : PieceOk T Tryz.prog 19 (.loop (loopAt 1 (bodyOf Tryz.f129) .skip)) ⟨dendronref01_Gcd_i1, dendronref01_Gcd_o1, lp dendronref01_Gcd_s1 K0⟩ :=
  loop_piece H.ty (n129 H) hm (LHok_of (l := []) (by kernel_rfl) trivial) dendronref01_Gcd_l1 K0

theorem ok129 {T : Told} (H : Hands T) : CtrOk T Tryz.prog 129 c129 :=
  fn_ok H.ty (n129 H) hm (lh := dendronref01_Gcd_lh) (ct := c129) (dcd := fun y => (y.2.1)) Tryz.func129 (by kernel_rfl) (by rfl) (LHok_of (l := [(.loop (loopAt 1 (bodyOf Tryz.f129) .skip), ⟨dendronref01_Gcd_i1, dendronref01_Gcd_o1, lp dendronref01_Gcd_s1 K0⟩)]) (by kernel_rfl) ⟨dendronref01_Gcd_p1 H, trivial⟩) (by decide) (fun _ => rfl) (fun x r h => (dendronref01_Gcd_eq x.1 x.2.1).trans h)

theorem n100 {T : Told} (H : Hands T) : EnvOk T Tryz.prog (envL e100) := envL_ok (l := e100) ⟨ok102 H, ok128 H, ok129 H, ok130 H, ok131 H, trivial⟩

theorem ok100 {T : Told} (H : Hands T) : CtrOk T Tryz.prog 100 c100 :=
  fn_ok H.ty (n100 H) hm (lh := dendronref03_Right_lh) (ct := c100) (dcd := fun y => (y.2.1)) Tryz.func100 (by kernel_rfl) (by rfl) (LHok_of (l := []) (by kernel_rfl) trivial) (by decide) (fun _ => rfl) (fun x r h => (dendronref03_Right_eq x.1).trans h)

theorem n132 {T : Told} (H : Hands T) : EnvOk T Tryz.prog (envL e132) := envL_ok (l := e132) ⟨ok130 H, trivial⟩

theorem ok132 {T : Told} (H : Hands T) : CtrOk T Tryz.prog 132 c132 :=
  fn_ok H.ty (n132 H) hm (lh := dendronref02_Order_lh) (ct := c132) (dcd := fun y => (y.2.1)) Tryz.func132 (by kernel_rfl) (by rfl) (LHok_of (l := []) (by kernel_rfl) trivial) (by decide) (fun _ => rfl) (fun x r h => (dendronref02_Order_eq x.1 x.2.1).trans h)

theorem n133 {T : Told} (H : Hands T) : EnvOk T Tryz.prog (envL e133) := envL_ok (l := e133) ⟨ok136 H, ok138 H, trivial⟩

theorem ok133 {T : Told} (H : Hands T) : CtrOk T Tryz.prog 133 c133 :=
  fn_ok H.ty (n133 H) hm (lh := dendronref02_Times_lh) (ct := c133) (dcd := fun y => (y.2.1)) Tryz.func133 (by kernel_rfl) (by rfl) (LHok_of (l := []) (by kernel_rfl) trivial) (by decide) (fun _ => rfl) (fun x r h => (dendronref02_Times_eq x.1 x.2.1).trans h)

theorem n134 {T : Told} (H : Hands T) : EnvOk T Tryz.prog (envL e134) := envL_ok (l := e134) ⟨ok138 H, trivial⟩

theorem ok134 {T : Told} (H : Hands T) : CtrOk T Tryz.prog 134 c134 :=
  fn_ok H.ty (n134 H) hm (lh := dendronref03_den_lh) (ct := c134) (dcd := fun y => (y.2.1)) Tryz.func134 (by kernel_rfl) (by rfl) (LHok_of (l := []) (by kernel_rfl) trivial) (by decide) (fun _ => rfl) (fun x r h => (dendronref03_den_eq x.1).trans h)

theorem n101 {T : Told} (H : Hands T) : EnvOk T Tryz.prog (envL e101) := envL_ok (l := e101) ⟨ok132 H, ok133 H, ok134 H, trivial⟩

theorem ok101 {T : Told} (H : Hands T) : CtrOk T Tryz.prog 101 c101 :=
  fn_ok H.ty (n101 H) hm (lh := dendronref03_Order_lh) (ct := c101) (dcd := fun y => (y.2.1)) Tryz.func101 (by kernel_rfl) (by rfl) (LHok_of (l := []) (by kernel_rfl) trivial) (by decide) (fun _ => rfl) (fun x r h => (dendronref03_Order_eq x.1 x.2.1).trans h)

theorem n61 {T : Told} (H : Hands T) : EnvOk T Tryz.prog (envL e61) := envL_ok (l := e61) ⟨ok62 H, ok100 H, ok101 H, trivial⟩

theorem ok61 {T : Told} (H : Hands T) : CtrOk T Tryz.prog 61 c61 :=
  fn_ok H.ty (n61 H) hm (lh := dendronref03_Is_lh) (ct := c61) (dcd := fun y => (y.2.1)) Tryz.func61 (by kernel_rfl) (by rfl) (LHok_of (l := []) (by kernel_rfl) trivial) (by decide) (fun _ => rfl) (fun x r h => (dendronref03_Is_eq x.1 x.2.1).trans h)

theorem n26 {T : Told} (H : Hands T) : EnvOk T Tryz.prog (envL e26) := envL_ok (l := e26) ⟨ok61 H, ok62 H, trivial⟩

theorem ok26 {T : Told} (H : Hands T) : CtrOk T Tryz.prog 26 c26 :=
  fn_ok H.ty (n26 H) hm (lh := dendronref10_Is_lh) (ct := c26) (dcd := fun y => (y.2.1)) Tryz.func26 (by kernel_rfl) (by rfl) (LHok_of (l := []) (by kernel_rfl) trivial) (by decide) (fun _ => rfl) (fun x r h => (dendronref10_Is_eq x.1 x.2.1).trans h)

theorem n5 {T : Told} (H : Hands T) : EnvOk T Tryz.prog (envL e5) := envL_ok (l := e5) ⟨ok8 H, ok20 H, ok21 H, ok22 H, ok23 H, ok24 H, ok25 H, ok26 H, ok27 H, trivial⟩

theorem dendronlaw13_DependCurves_p11 {T : Told} (H : Hands T) : PieceOk T Tryz.prog 145 (.loop (loopAt 11 (bodyOf Tryz.f5) .skip)) ⟨dendronlaw13_DependCurves_i11, dendronlaw13_DependCurves_o11, lp dendronlaw13_DependCurves_s11 K0⟩ :=
  loop_piece H.ty (n5 H) hm (LHok_of (l := []) (by kernel_rfl) trivial) dendronlaw13_DependCurves_l11 K0

theorem ok5 {T : Told} (H : Hands T) : CtrOk T Tryz.prog 5 c5 :=
  fn_ok H.ty (n5 H) hm (lh := dendronlaw13_DependCurves_lh) (ct := c5) (dcd := fun y => (y.2.1)) Tryz.func5 (by kernel_rfl) (by rfl) (LHok_of (l := [(.loop (loopAt 11 (bodyOf Tryz.f5) .skip), ⟨dendronlaw13_DependCurves_i11, dendronlaw13_DependCurves_o11, lp dendronlaw13_DependCurves_s11 K0⟩)]) (by kernel_rfl) ⟨dendronlaw13_DependCurves_p11 H, trivial⟩) (by decide) (fun _ => rfl) (fun x r h => (dendronlaw13_DependCurves_eq x.1 x.2.1 x.2.2.1).trans h)

end Go.Proofs.YtpjgaieoijpagaaGreatDoor.X

