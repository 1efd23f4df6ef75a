/- Own work: part of the proof; the first line of each part says what it tells. -/
import Derived.Test.YtjjgbpeapgmhoaaDoorLa9
import Derived.Test.YtjjgbpeapgmhoaaDoorLa12


namespace Go.Proofs.YtjjgbpeapgmhoaaDoor.X
open Go
set_option linter.unusedVariables false
set_option linter.unusedSimpArgs false
set_option maxRecDepth 100000
theorem F_in {ps : List (Ty × PM)} {rs : List (Ty × Bool)} {T : Type} {F : HL (fsts ps) → Option T} {enc : T → HL (lents ps) × HL (fsts rs)} {wi : Option Wir} (x : HL (fsts ps)) {r : Option T} (h : F x = r) : (Ctr.mk ps rs T F enc wi).F x = r := h
theorem hm : Tryd.prog.follows .mixedOrders = true := by kernel_rfl
structure Hands (T : Told) : Prop where
 ty : TbOk Tryd.prog tb
 h134 : CtrOk T Tryd.prog 134 c134
 h141 : CtrOk T Tryd.prog 141 c141
theorem n58 {T : Told} (H : Hands T) : EnvOk T Tryd.prog (envL e58) := envL_ok (l := e58) trivial
theorem ok58 {T : Told} (H : Hands T) : CtrOk T Tryd.prog 58 c58 :=
 fn_ok H.ty (n58 H) hm (lh := dendronlaw07_number_lh) (ct := c58) (dcd := fun y => (y.2.1)) Tryd.func58 (by kernel_rfl) (by rfl) (LHok_of (l := []) (by kernel_rfl) trivial) (by decide) (fun _ => rfl) (fun x r h => (dendronlaw07_number_eq x.1).trans h)
theorem n19 {T : Told} (H : Hands T) : EnvOk T Tryd.prog (envL e19) := envL_ok (l := e19) ⟨ok58 H, trivial⟩
theorem dendronlaw07_Few_p7 {T : Told} (H : Hands T) : PieceOk T Tryd.prog 67 (.loop (loopAt 7 (bodyOf Tryd.f19) .skip)) ⟨dendronlaw07_Few_i7, dendronlaw07_Few_o7, lp dendronlaw07_Few_s7 K0⟩ :=
 loop_piece H.ty (n19 H) hm (LHok_of (l := []) (by kernel_rfl) trivial) dendronlaw07_Few_l7 K0
theorem dendronlaw07_Few_p3 {T : Told} (H : Hands T) : PieceOk T Tryd.prog 67 (.loop (loopAt 3 (bodyOf Tryd.f19) .skip)) ⟨dendronlaw07_Few_i3, dendronlaw07_Few_o3, lp dendronlaw07_Few_s3 K0⟩ :=
 loop_piece H.ty (n19 H) hm (LHok_of (l := [(.loop (loopAt 7 (bodyOf Tryd.f19) .skip), ⟨dendronlaw07_Few_i7, dendronlaw07_Few_o7, lp dendronlaw07_Few_s7 K0⟩)]) (by kernel_rfl) ⟨dendronlaw07_Few_p7 H, trivial⟩) dendronlaw07_Few_l3 K0
theorem ok19 {T : Told} (H : Hands T) : CtrOk T Tryd.prog 19 c19 :=
 fn_ok H.ty (n19 H) hm (lh := dendronlaw07_Few_lh) (ct := c19) (dcd := fun y => (y.2.1)) Tryd.func19 (by kernel_rfl) (by rfl) (LHok_of (l := [(.loop (loopAt 3 (bodyOf Tryd.f19) .skip), ⟨dendronlaw07_Few_i3, dendronlaw07_Few_o3, lp dendronlaw07_Few_s3 K0⟩)]) (by kernel_rfl) ⟨dendronlaw07_Few_p3 H, trivial⟩) (by decide) (fun _ => rfl) (fun x r h => (dendronlaw07_Few_eq x.1).trans h)
theorem n59 {T : Told} (H : Hands T) : EnvOk T Tryd.prog (envL e59) := envL_ok (l := e59) trivial
theorem ok59 {T : Told} (H : Hands T) : CtrOk T Tryd.prog 59 c59 :=
 fn_ok H.ty (n59 H) hm (lh := dendronlaw09_number_lh) (ct := c59) (dcd := fun y => (y.2.1)) Tryd.func59 (by kernel_rfl) (by rfl) (LHok_of (l := []) (by kernel_rfl) trivial) (by decide) (fun _ => rfl) (fun x r h => (dendronlaw09_number_eq x.1).trans h)
theorem n20 {T : Told} (H : Hands T) : EnvOk T Tryd.prog (envL e20) := envL_ok (l := e20) ⟨ok59 H, trivial⟩
theorem dendronlaw09_Few_p3 {T : Told} (H : Hands T) : PieceOk T Tryd.prog 32 (.loop (loopAt 3 (bodyOf Tryd.f20) .skip)) ⟨dendronlaw09_Few_i3, dendronlaw09_Few_o3, lp dendronlaw09_Few_s3 K0⟩ :=
 loop_piece H.ty (n20 H) hm (LHok_of (l := []) (by kernel_rfl) trivial) dendronlaw09_Few_l3 K0
theorem ok20 {T : Told} (H : Hands T) : CtrOk T Tryd.prog 20 c20 :=
 fn_ok H.ty (n20 H) hm (lh := dendronlaw09_Few_lh) (ct := c20) (dcd := fun y => (y.2.1)) Tryd.func20 (by kernel_rfl) (by rfl) (LHok_of (l := [(.loop (loopAt 3 (bodyOf Tryd.f20) .skip), ⟨dendronlaw09_Few_i3, dendronlaw09_Few_o3, lp dendronlaw09_Few_s3 K0⟩)]) (by kernel_rfl) ⟨dendronlaw09_Few_p3 H, trivial⟩) (by decide) (fun _ => rfl) (fun x r h => (dendronlaw09_Few_eq x.1 x.2.1).trans h)
theorem n8 {T : Told} (H : Hands T) : EnvOk T Tryd.prog (envL e8) := envL_ok (l := e8) ⟨ok19 H, ok20 H, trivial⟩
theorem ok8 {T : Told} (H : Hands T) : CtrOk T Tryd.prog 8 c8 :=
 fn_ok H.ty (n8 H) hm (lh := dendronlaw11_Small_lh) (ct := c8) (dcd := fun y => (y.2.1, y.2.2.1)) Tryd.func8 (by kernel_rfl) (by rfl) (LHok_of (l := []) (by kernel_rfl) trivial) (by decide) (fun _ => rfl) (fun x r h => (dendronlaw11_Small_eq x.1 x.2.1).trans h)
theorem n107 {T : Told} (H : Hands T) : EnvOk T Tryd.prog (envL e107) := envL_ok (l := e107) trivial
theorem nat_trim_p2 {T : Told} (H : Hands T) : PieceOk T Tryd.prog 23 (.loop (loopAt 2 (bodyOf Tryd.f107) .skip)) ⟨nat_trim_i2, nat_trim_o2, lp nat_trim_s2 K0⟩ :=
 loop_piece H.ty (n107 H) hm (LHok_of (l := []) (by kernel_rfl) trivial) nat_trim_l2 K0
theorem ok107 {T : Told} (H : Hands T) : CtrOk T Tryd.prog 107 c107 :=
 fn_ok H.ty (n107 H) hm (lh := nat_trim_lh) (ct := c107) (dcd := fun y => (y.2.1)) Tryd.func107 (by kernel_rfl) (by rfl) (LHok_of (l := [(.loop (loopAt 2 (bodyOf Tryd.f107) .skip), ⟨nat_trim_i2, nat_trim_o2, lp nat_trim_s2 K0⟩)]) (by kernel_rfl) ⟨nat_trim_p2 H, trivial⟩) (by decide) (fun _ => rfl) (fun x r h => (nat_trim_eq x.1).trans h)
theorem n83 {T : Told} (H : Hands T) : EnvOk T Tryd.prog (envL e83) := envL_ok (l := e83) ⟨ok107 H, trivial⟩
theorem ok83 {T : Told} (H : Hands T) : CtrOk T Tryd.prog 83 c83 :=
 fn_ok H.ty (n83 H) hm (lh := nat_Of_lh) (ct := c83) (dcd := fun y => (y.2.1)) Tryd.func83 (by kernel_rfl) (by rfl) (LHok_of (l := []) (by kernel_rfl) trivial) (by decide) (fun _ => rfl) (fun x r h => (nat_Of_eq x.1).trans h)
theorem n51 {T : Told} (H : Hands T) : EnvOk T Tryd.prog (envL e51) := envL_ok (l := e51) ⟨ok83 H, trivial⟩
theorem ok51 {T : Told} (H : Hands T) : CtrOk T Tryd.prog 51 c51 :=
 fn_ok H.ty (n51 H) hm (lh := ratio_Zero_lh) (ct := c51) (dcd := fun y => (y.2.1)) Tryd.func51 (by kernel_rfl) (by rfl) (LHok_of (l := []) (by kernel_rfl) trivial) (by decide) (fun _ => rfl) (fun x r h => (ratio_Zero_eq ).trans h)
theorem n88 {T : Told} (H : Hands T) : EnvOk T Tryd.prog (envL e88) := envL_ok (l := e88) ⟨ok107 H, trivial⟩
theorem nat_Clean_p3 {T : Told} (H : Hands T) : PieceOk T Tryd.prog 24 (.loop (loopAt 3 (bodyOf Tryd.f88) .skip)) ⟨nat_Clean_i3, nat_Clean_o3, lp nat_Clean_s3 K0⟩ :=
 loop_piece H.ty (n88 H) hm (LHok_of (l := []) (by kernel_rfl) trivial) nat_Clean_l3 K0
theorem ok88 {T : Told} (H : Hands T) : CtrOk T Tryd.prog 88 c88 :=
 fn_ok H.ty (n88 H) hm (lh := nat_Clean_lh) (ct := c88) (dcd := fun y => (y.2.1)) Tryd.func88 (by kernel_rfl) (by rfl) (LHok_of (l := [(.loop (loopAt 3 (bodyOf Tryd.f88) .skip), ⟨nat_Clean_i3, nat_Clean_o3, lp nat_Clean_s3 K0⟩)]) (by kernel_rfl) ⟨nat_Clean_p3 H, trivial⟩) (by decide) (fun _ => rfl) (fun x r h => (nat_Clean_eq x.1).trans h)
theorem n133 {T : Told} (H : Hands T) : EnvOk T Tryd.prog (envL e133) := envL_ok (l := e133) ⟨ok88 H, trivial⟩
theorem ok133 {T : Told} (H : Hands T) : CtrOk T Tryd.prog 133 c133 :=
 fn_ok H.ty (n133 H) hm (lh := nat_To_lh) (ct := c133) (dcd := fun y => (y.2.1, y.2.2.1)) Tryd.func133 (by kernel_rfl) (by rfl) (LHok_of (l := []) (by kernel_rfl) trivial) (by decide) (fun _ => rfl) (fun x r h => (nat_To_eq x.1).trans h)
theorem n119 {T : Told} (H : Hands T) : EnvOk T Tryd.prog (envL e119) := envL_ok (l := e119) ⟨ok83 H, ok133 H, trivial⟩
theorem nat_euclid_p3 {T : Told} (H : Hands T) : PieceOk T Tryd.prog 27 (.loop (loopAt 3 (bodyOf Tryd.f119) .skip)) ⟨nat_euclid_i3, nat_euclid_o3, lp nat_euclid_s3 K0⟩ :=
 loop_piece H.ty (n119 H) hm (LHok_of (l := []) (by kernel_rfl) trivial) nat_euclid_l3 K0
theorem ok119 {T : Told} (H : Hands T) : CtrOk T Tryd.prog 119 c119 :=
 fn_ok H.ty (n119 H) hm (lh := nat_euclid_lh) (ct := c119) (dcd := fun y => (y.2.1)) Tryd.func119 (by kernel_rfl) (by rfl) (LHok_of (l := [(.loop (loopAt 3 (bodyOf Tryd.f119) .skip), ⟨nat_euclid_i3, nat_euclid_o3, lp nat_euclid_s3 K0⟩)]) (by kernel_rfl) ⟨nat_euclid_p3 H, trivial⟩) (by decide) (fun _ => rfl) (fun x r h => (nat_euclid_eq x.1 x.2.1).trans h)
theorem n120 {T : Told} (H : Hands T) : EnvOk T Tryd.prog (envL e120) := envL_ok (l := e120) ⟨H.h134, trivial⟩
theorem nat_zeros_p3 {T : Told} (H : Hands T) : PieceOk T Tryd.prog 24 (.loop (loopAt 3 (bodyOf Tryd.f120) .skip)) ⟨nat_zeros_i3, nat_zeros_o3, lp nat_zeros_s3 K0⟩ :=
 loop_piece H.ty (n120 H) hm (LHok_of (l := []) (by kernel_rfl) trivial) nat_zeros_l3 K0
theorem ok120 {T : Told} (H : Hands T) : CtrOk T Tryd.prog 120 c120 :=
 fn_ok H.ty (n120 H) hm (lh := nat_zeros_lh) (ct := c120) (dcd := fun y => (y.2.1)) Tryd.func120 (by kernel_rfl) (by rfl) (LHok_of (l := [(.loop (loopAt 3 (bodyOf Tryd.f120) .skip), ⟨nat_zeros_i3, nat_zeros_o3, lp nat_zeros_s3 K0⟩)]) (by kernel_rfl) ⟨nat_zeros_p3 H, trivial⟩) (by decide) (fun _ => rfl) (fun x r h => (nat_zeros_eq x.1).trans h)
theorem n132 {T : Told} (H : Hands T) : EnvOk T Tryd.prog (envL e132) := envL_ok (l := e132) trivial
theorem ok132 {T : Told} (H : Hands T) : CtrOk T Tryd.prog 132 c132 :=
 fn_ok H.ty (n132 H) hm (lh := nat_limb_lh) (ct := c132) (dcd := fun y => (y.2.1)) Tryd.func132 (by kernel_rfl) (by rfl) (LHok_of (l := []) (by kernel_rfl) trivial) (by decide) (fun _ => rfl) (fun x r h => (nat_limb_eq x.1 x.2.1).trans h)
theorem n121 {T : Told} (H : Hands T) : EnvOk T Tryd.prog (envL e121) := envL_ok (l := e121) ⟨ok107 H, ok132 H, trivial⟩
theorem nat_shr_p6 {T : Told} (H : Hands T) : PieceOk T Tryd.prog 50 (.loop (loopAt 6 (bodyOf Tryd.f121) .skip)) ⟨nat_shr_i6, nat_shr_o6, lp nat_shr_s6 K0⟩ :=
 loop_piece H.ty (n121 H) hm (LHok_of (l := []) (by kernel_rfl) trivial) nat_shr_l6 K0
theorem ok121 {T : Told} (H : Hands T) : CtrOk T Tryd.prog 121 c121 :=
 fn_ok H.ty (n121 H) hm (lh := nat_shr_lh) (ct := c121) (dcd := fun y => (y.2.1)) Tryd.func121 (by kernel_rfl) (by rfl) (LHok_of (l := [(.loop (loopAt 6 (bodyOf Tryd.f121) .skip), ⟨nat_shr_i6, nat_shr_o6, lp nat_shr_s6 K0⟩)]) (by kernel_rfl) ⟨nat_shr_p6 H, trivial⟩) (by decide) (fun _ => rfl) (fun x r h => (nat_shr_eq x.1 x.2.1).trans h)
theorem n122 {T : Told} (H : Hands T) : EnvOk T Tryd.prog (envL e122) := envL_ok (l := e122) trivial
theorem nat_order_p6 {T : Told} (H : Hands T) : PieceOk T Tryd.prog 45 (.loop (loopAt 6 (bodyOf Tryd.f122) .skip)) ⟨nat_order_i6, nat_order_o6, lp nat_order_s6 K0⟩ :=
 loop_piece H.ty (n122 H) hm (LHok_of (l := []) (by kernel_rfl) trivial) nat_order_l6 K0
theorem ok122 {T : Told} (H : Hands T) : CtrOk T Tryd.prog 122 c122 :=
 fn_ok H.ty (n122 H) hm (lh := nat_order_lh) (ct := c122) (dcd := fun y => (y.2.1)) Tryd.func122 (by kernel_rfl) (by rfl) (LHok_of (l := [(.loop (loopAt 6 (bodyOf Tryd.f122) .skip), ⟨nat_order_i6, nat_order_o6, lp nat_order_s6 K0⟩)]) (by kernel_rfl) ⟨nat_order_p6 H, trivial⟩) (by decide) (fun _ => rfl) (fun x r h => (nat_order_eq x.1 x.2.1).trans h)
theorem n123 {T : Told} (H : Hands T) : EnvOk T Tryd.prog (envL e123) := envL_ok (l := e123) ⟨ok107 H, trivial⟩
theorem nat_shl_p4 {T : Told} (H : Hands T) : PieceOk T Tryd.prog 51 (.loop (loopAt 4 (bodyOf Tryd.f123) .skip)) ⟨nat_shl_i4, nat_shl_o4, lp nat_shl_s4 K0⟩ :=
 loop_piece H.ty (n123 H) hm (LHok_of (l := []) (by kernel_rfl) trivial) nat_shl_l4 K0
theorem ok123 {T : Told} (H : Hands T) : CtrOk T Tryd.prog 123 c123 :=
 fn_ok H.ty (n123 H) hm (lh := nat_shl_lh) (ct := c123) (dcd := fun y => (y.2.1)) Tryd.func123 (by kernel_rfl) (by rfl) (LHok_of (l := [(.loop (loopAt 4 (bodyOf Tryd.f123) .skip), ⟨nat_shl_i4, nat_shl_o4, lp nat_shl_s4 K0⟩)]) (by kernel_rfl) ⟨nat_shl_p4 H, trivial⟩) (by decide) (fun _ => rfl) (fun x r h => (nat_shl_eq x.1 x.2.1).trans h)
theorem n126 {T : Told} (H : Hands T) : EnvOk T Tryd.prog (envL e126) := envL_ok (l := e126) ⟨ok107 H, trivial⟩
theorem nat_small_p4 {T : Told} (H : Hands T) : PieceOk T Tryd.prog 38 (.loop (loopAt 4 (bodyOf Tryd.f126) .skip)) ⟨nat_small_i4, nat_small_o4, lp nat_small_s4 K0⟩ :=
 loop_piece H.ty (n126 H) hm (LHok_of (l := []) (by kernel_rfl) trivial) nat_small_l4 K0
theorem ok126 {T : Told} (H : Hands T) : CtrOk T Tryd.prog 126 c126 :=
 fn_ok H.ty (n126 H) hm (lh := nat_small_lh) (ct := c126) (dcd := fun y => (y.2.1, y.2.2.1)) Tryd.func126 (by kernel_rfl) (by rfl) (LHok_of (l := [(.loop (loopAt 4 (bodyOf Tryd.f126) .skip), ⟨nat_small_i4, nat_small_o4, lp nat_small_s4 K0⟩)]) (by kernel_rfl) ⟨nat_small_p4 H, trivial⟩) (by decide) (fun _ => rfl) (fun x r h => (nat_small_eq x.1 x.2.1).trans h)
theorem n135 {T : Told} (H : Hands T) : EnvOk T Tryd.prog (envL e135) := envL_ok (l := e135) ⟨H.h141, trivial⟩
theorem ok135 {T : Told} (H : Hands T) : CtrOk T Tryd.prog 135 c135 :=
 fn_ok H.ty (n135 H) hm (lh := bits_LeadingZeros32_lh) (ct := c135) (dcd := fun y => (y.2.1)) Tryd.func135 (by kernel_rfl) (by rfl) (LHok_of (l := []) (by kernel_rfl) trivial) (by decide) (fun _ => rfl) (fun x r h => (bits_LeadingZeros32_eq x.1).trans h)
theorem n142 {T : Told} (H : Hands T) : EnvOk T Tryd.prog (envL e142) := envL_ok (l := e142) ⟨ok132 H, trivial⟩
theorem nat_take_p3 {T : Told} (H : Hands T) : PieceOk T Tryd.prog 46 (.loop (loopAt 3 (bodyOf Tryd.f142) .skip)) ⟨nat_take_i3, nat_take_o3, lp nat_take_s3 K0⟩ :=
 loop_piece H.ty (n142 H) hm (LHok_of (l := []) (by kernel_rfl) trivial) nat_take_l3 K0
theorem ok142 {T : Told} (H : Hands T) : CtrOk T Tryd.prog 142 c142 :=
 fn_ok H.ty (n142 H) hm (lh := nat_take_lh) (ct := c142) (dcd := fun y => (y.1.1, y.2.1)) Tryd.func142 (by kernel_rfl) (by rfl) (LHok_of (l := [(.loop (loopAt 3 (bodyOf Tryd.f142) .skip), ⟨nat_take_i3, nat_take_o3, lp nat_take_s3 K0⟩)]) (by kernel_rfl) ⟨nat_take_p3 H, trivial⟩) (by decide) (fun _ => rfl) (fun x r h => (nat_take_eq x.1 x.2.1 x.2.2.1).trans h)
theorem n143 {T : Told} (H : Hands T) : EnvOk T Tryd.prog (envL e143) := envL_ok (l := e143) ⟨ok132 H, trivial⟩
theorem nat_give_p2 {T : Told} (H : Hands T) : PieceOk T Tryd.prog 29 (.loop (loopAt 2 (bodyOf Tryd.f143) .skip)) ⟨nat_give_i2, nat_give_o2, lp nat_give_s2 K0⟩ :=
 loop_piece H.ty (n143 H) hm (LHok_of (l := []) (by kernel_rfl) trivial) nat_give_l2 K0
theorem ok143 {T : Told} (H : Hands T) : CtrOk T Tryd.prog 143 c143 :=
 fn_ok H.ty (n143 H) hm (lh := nat_give_lh) (ct := c143) (dcd := fun y => (y.1.1)) Tryd.func143 (by kernel_rfl) (by rfl) (LHok_of (l := [(.loop (loopAt 2 (bodyOf Tryd.f143) .skip), ⟨nat_give_i2, nat_give_o2, lp nat_give_s2 K0⟩)]) (by kernel_rfl) ⟨nat_give_p2 H, trivial⟩) (by decide) (fun _ => rfl) (fun x r h => (nat_give_eq x.1 x.2.1).trans h)
theorem n136 {T : Told} (H : Hands T) : EnvOk T Tryd.prog (envL e136) := envL_ok (l := e136) ⟨ok142 H, ok143 H, trivial⟩
theorem nat_digit_p4 {T : Told} (H : Hands T) : PieceOk T Tryd.prog 77 (.loop (loopAt 4 (bodyOf Tryd.f136) .skip)) ⟨nat_digit_i4, nat_digit_o4, lp nat_digit_s4 K0⟩ :=
 loop_piece H.ty (n136 H) hm (LHok_of (l := []) (by kernel_rfl) trivial) nat_digit_l4 K0
theorem ok136 {T : Told} (H : Hands T) : CtrOk T Tryd.prog 136 c136 :=
 fn_ok H.ty (n136 H) hm (lh := nat_digit_lh) (ct := c136) (dcd := fun y => (y.1.1, y.2.1)) Tryd.func136 (by kernel_rfl) (by rfl) (LHok_of (l := [(.loop (loopAt 4 (bodyOf Tryd.f136) .skip), ⟨nat_digit_i4, nat_digit_o4, lp nat_digit_s4 K0⟩)]) (by kernel_rfl) ⟨nat_digit_p4 H, trivial⟩) (by decide) (fun _ => rfl) (fun x r h => (nat_digit_eq x.1 x.2.1).trans h)
theorem n127 {T : Told} (H : Hands T) : EnvOk T Tryd.prog (envL e127) := envL_ok (l := e127) ⟨ok107 H, ok121 H, ok123 H, ok135 H, ok136 H, trivial⟩
theorem nat_long_p7 {T : Told} (H : Hands T) : PieceOk T Tryd.prog 64 (.loop (loopAt 7 (bodyOf Tryd.f127) .skip)) ⟨nat_long_i7, nat_long_o7, lp nat_long_s7 K0⟩ :=
 loop_piece H.ty (n127 H) hm (LHok_of (l := []) (by kernel_rfl) trivial) nat_long_l7 K0
theorem ok127 {T : Told} (H : Hands T) : CtrOk T Tryd.prog 127 c127 :=
 fn_ok H.ty (n127 H) hm (lh := nat_long_lh) (ct := c127) (dcd := fun y => (y.2.1, y.2.2.1)) Tryd.func127 (by kernel_rfl) (by rfl) (LHok_of (l := [(.loop (loopAt 7 (bodyOf Tryd.f127) .skip), ⟨nat_long_i7, nat_long_o7, lp nat_long_s7 K0⟩)]) (by kernel_rfl) ⟨nat_long_p7 H, trivial⟩) (by decide) (fun _ => rfl) (fun x r h => (nat_long_eq x.1 x.2.1).trans h)
theorem n105 {T : Told} (H : Hands T) : EnvOk T Tryd.prog (envL e105) := envL_ok (l := e105) ⟨ok83 H, ok88 H, ok122 H, ok126 H, ok127 H, trivial⟩
theorem ok105 {T : Told} (H : Hands T) : CtrOk T Tryd.prog 105 c105 :=
 fn_ok H.ty (n105 H) hm (lh := nat_DivMod_lh) (ct := c105) (dcd := fun y => (y.2.1, y.2.2.1, y.2.2.2.1)) Tryd.func105 (by kernel_rfl) (by rfl) (LHok_of (l := []) (by kernel_rfl) trivial) (by decide) (fun _ => rfl) (fun x r h => (nat_DivMod_eq x.1 x.2.1).trans h)
theorem n124 {T : Told} (H : Hands T) : EnvOk T Tryd.prog (envL e124) := envL_ok (l := e124) ⟨ok105 H, trivial⟩
theorem ok124 {T : Told} (H : Hands T) : CtrOk T Tryd.prog 124 c124 :=
 fn_ok H.ty (n124 H) hm (lh := nat_rest_lh) (ct := c124) (dcd := fun y => (y.2.1, y.2.2.1)) Tryd.func124 (by kernel_rfl) (by rfl) (LHok_of (l := []) (by kernel_rfl) trivial) (by decide) (fun _ => rfl) (fun x r h => (nat_rest_eq x.1 x.2.1).trans h)
theorem n125 {T : Told} (H : Hands T) : EnvOk T Tryd.prog (envL e125) := envL_ok (l := e125) ⟨ok107 H, ok132 H, trivial⟩
theorem nat_minus_p4 {T : Told} (H : Hands T) : PieceOk T Tryd.prog 39 (.loop (loopAt 4 (bodyOf Tryd.f125) .skip)) ⟨nat_minus_i4, nat_minus_o4, lp nat_minus_s4 K0⟩ :=
 loop_piece H.ty (n125 H) hm (LHok_of (l := []) (by kernel_rfl) trivial) nat_minus_l4 K0
theorem ok125 {T : Told} (H : Hands T) : CtrOk T Tryd.prog 125 c125 :=
 fn_ok H.ty (n125 H) hm (lh := nat_minus_lh) (ct := c125) (dcd := fun y => (y.2.1)) Tryd.func125 (by kernel_rfl) (by rfl) (LHok_of (l := [(.loop (loopAt 4 (bodyOf Tryd.f125) .skip), ⟨nat_minus_i4, nat_minus_o4, lp nat_minus_s4 K0⟩)]) (by kernel_rfl) ⟨nat_minus_p4 H, trivial⟩) (by decide) (fun _ => rfl) (fun x r h => (nat_minus_eq x.1 x.2.1).trans h)
theorem n104 {T : Told} (H : Hands T) : EnvOk T Tryd.prog (envL e104) := envL_ok (l := e104) ⟨ok88 H, ok119 H, ok120 H, ok121 H, ok122 H, ok123 H, ok124 H, ok125 H, trivial⟩
theorem nat_Gcd_p10 {T : Told} (H : Hands T) : PieceOk T Tryd.prog 86 (.loop (loopAt 10 (bodyOf Tryd.f104) .skip)) ⟨nat_Gcd_i10, nat_Gcd_o10, lp nat_Gcd_s10 K0⟩ :=
 loop_piece H.ty (n104 H) hm (LHok_of (l := []) (by kernel_rfl) trivial) nat_Gcd_l10 K0
theorem ok104 {T : Told} (H : Hands T) : CtrOk T Tryd.prog 104 c104 :=
 fn_ok H.ty (n104 H) hm (lh := nat_Gcd_lh) (ct := c104) (dcd := fun y => (y.2.1)) Tryd.func104 (by kernel_rfl) (by rfl) (LHok_of (l := [(.loop (loopAt 10 (bodyOf Tryd.f104) .skip), ⟨nat_Gcd_i10, nat_Gcd_o10, lp nat_Gcd_s10 K0⟩)]) (by kernel_rfl) ⟨nat_Gcd_p10 H, trivial⟩) (by decide) (fun _ => rfl) (fun x r h => (nat_Gcd_eq x.1 x.2.1).trans h)
theorem n69 {T : Told} (H : Hands T) : EnvOk T Tryd.prog (envL e69) := envL_ok (l := e69) ⟨ok83 H, ok104 H, ok105 H, trivial⟩
theorem ok69 {T : Told} (H : Hands T) : CtrOk T Tryd.prog 69 c69 :=
 fn_ok H.ty (n69 H) hm (lh := ratio_form_lh) (ct := c69) (dcd := fun y => (y.2.1)) Tryd.func69 (by kernel_rfl) (by rfl) (LHok_of (l := []) (by kernel_rfl) trivial) (by decide) (fun _ => rfl) (fun x r h => (ratio_form_eq x.1 x.2.1).trans h)
theorem n106 {T : Told} (H : Hands T) : EnvOk T Tryd.prog (envL e106) := envL_ok (l := e106) trivial
theorem ok106 {T : Told} (H : Hands T) : CtrOk T Tryd.prog 106 c106 :=
 fn_ok H.ty (n106 H) hm (lh := whole_sign_lh) (ct := c106) (dcd := fun y => (y.2.1)) Tryd.func106 (by kernel_rfl) (by rfl) (LHok_of (l := []) (by kernel_rfl) trivial) (by decide) (fun _ => rfl) (fun x r h => (whole_sign_eq x.1 x.2.1).trans h)
theorem n87 {T : Told} (H : Hands T) : EnvOk T Tryd.prog (envL e87) := envL_ok (l := e87) ⟨ok88 H, ok106 H, trivial⟩
theorem ok87 {T : Told} (H : Hands T) : CtrOk T Tryd.prog 87 c87 :=
 fn_ok H.ty (n87 H) hm (lh := whole_Clean_lh) (ct := c87) (dcd := fun y => (y.2.1)) Tryd.func87 (by kernel_rfl) (by rfl) (LHok_of (l := []) (by kernel_rfl) trivial) (by decide) (fun _ => rfl) (fun x r h => (whole_Clean_eq x.1).trans h)
theorem n55 {T : Told} (H : Hands T) : EnvOk T Tryd.prog (envL e55) := envL_ok (l := e55) ⟨ok51 H, ok69 H, ok87 H, ok88 H, trivial⟩
theorem ok55 {T : Told} (H : Hands T) : CtrOk T Tryd.prog 55 c55 :=
 fn_ok H.ty (n55 H) hm (lh := ratio_Clean_lh) (ct := c55) (dcd := fun y => (y.2.1)) Tryd.func55 (by kernel_rfl) (by rfl) (LHok_of (l := []) (by kernel_rfl) trivial) (by decide) (fun _ => rfl) (fun x r h => (ratio_Clean_eq x.1).trans h)
theorem n71 {T : Told} (H : Hands T) : EnvOk T Tryd.prog (envL e71) := envL_ok (l := e71) ⟨ok88 H, ok107 H, trivial⟩
theorem nat_Mul_p8 {T : Told} (H : Hands T) : PieceOk T Tryd.prog 67 (.loop (loopAt 8 (bodyOf Tryd.f71) .skip)) ⟨nat_Mul_i8, nat_Mul_o8, lp nat_Mul_s8 K0⟩ :=
 loop_piece H.ty (n71 H) hm (LHok_of (l := []) (by kernel_rfl) trivial) nat_Mul_l8 K0
theorem nat_Mul_p4 {T : Told} (H : Hands T) : PieceOk T Tryd.prog 67 (.loop (loopAt 4 (bodyOf Tryd.f71) .skip)) ⟨nat_Mul_i4, nat_Mul_o4, lp nat_Mul_s4 K0⟩ :=
 loop_piece H.ty (n71 H) hm (LHok_of (l := [(.loop (loopAt 8 (bodyOf Tryd.f71) .skip), ⟨nat_Mul_i8, nat_Mul_o8, lp nat_Mul_s8 K0⟩)]) (by kernel_rfl) ⟨nat_Mul_p8 H, trivial⟩) nat_Mul_l4 K0
theorem ok71 {T : Told} (H : Hands T) : CtrOk T Tryd.prog 71 c71 :=
 fn_ok H.ty (n71 H) hm (lh := nat_Mul_lh) (ct := c71) (dcd := fun y => (y.2.1)) Tryd.func71 (by kernel_rfl) (by rfl) (LHok_of (l := [(.loop (loopAt 4 (bodyOf Tryd.f71) .skip), ⟨nat_Mul_i4, nat_Mul_o4, lp nat_Mul_s4 K0⟩)]) (by kernel_rfl) ⟨nat_Mul_p4 H, trivial⟩) (by decide) (fun _ => rfl) (fun x r h => (nat_Mul_eq x.1 x.2.1).trans h)
theorem n70 {T : Told} (H : Hands T) : EnvOk T Tryd.prog (envL e70) := envL_ok (l := e70) ⟨ok71 H, ok87 H, ok106 H, trivial⟩
theorem ok70 {T : Told} (H : Hands T) : CtrOk T Tryd.prog 70 c70 :=
 fn_ok H.ty (n70 H) hm (lh := whole_Mul_lh) (ct := c70) (dcd := fun y => (y.2.1)) Tryd.func70 (by kernel_rfl) (by rfl) (LHok_of (l := []) (by kernel_rfl) trivial) (by decide) (fun _ => rfl) (fun x r h => (whole_Mul_eq x.1 x.2.1).trans h)
theorem n114 {T : Told} (H : Hands T) : EnvOk T Tryd.prog (envL e114) := envL_ok (l := e114) ⟨ok88 H, ok107 H, ok132 H, trivial⟩
theorem nat_Add_p5 {T : Told} (H : Hands T) : PieceOk T Tryd.prog 43 (.loop (loopAt 5 (bodyOf Tryd.f114) .skip)) ⟨nat_Add_i5, nat_Add_o5, lp nat_Add_s5 K0⟩ :=
 loop_piece H.ty (n114 H) hm (LHok_of (l := []) (by kernel_rfl) trivial) nat_Add_l5 K0
theorem ok114 {T : Told} (H : Hands T) : CtrOk T Tryd.prog 114 c114 :=
 fn_ok H.ty (n114 H) hm (lh := nat_Add_lh) (ct := c114) (dcd := fun y => (y.2.1)) Tryd.func114 (by kernel_rfl) (by rfl) (LHok_of (l := [(.loop (loopAt 5 (bodyOf Tryd.f114) .skip), ⟨nat_Add_i5, nat_Add_o5, lp nat_Add_s5 K0⟩)]) (by kernel_rfl) ⟨nat_Add_p5 H, trivial⟩) (by decide) (fun _ => rfl) (fun x r h => (nat_Add_eq x.1 x.2.1).trans h)
theorem n115 {T : Told} (H : Hands T) : EnvOk T Tryd.prog (envL e115) := envL_ok (l := e115) ⟨ok88 H, ok122 H, trivial⟩
theorem ok115 {T : Told} (H : Hands T) : CtrOk T Tryd.prog 115 c115 :=
 fn_ok H.ty (n115 H) hm (lh := nat_Cmp_lh) (ct := c115) (dcd := fun y => (y.2.1)) Tryd.func115 (by kernel_rfl) (by rfl) (LHok_of (l := []) (by kernel_rfl) trivial) (by decide) (fun _ => rfl) (fun x r h => (nat_Cmp_eq x.1 x.2.1).trans h)
theorem n116 {T : Told} (H : Hands T) : EnvOk T Tryd.prog (envL e116) := envL_ok (l := e116) ⟨ok88 H, ok122 H, ok125 H, trivial⟩
theorem ok116 {T : Told} (H : Hands T) : CtrOk T Tryd.prog 116 c116 :=
 fn_ok H.ty (n116 H) hm (lh := nat_Sub_lh) (ct := c116) (dcd := fun y => (y.2.1, y.2.2.1)) Tryd.func116 (by kernel_rfl) (by rfl) (LHok_of (l := []) (by kernel_rfl) trivial) (by decide) (fun _ => rfl) (fun x r h => (nat_Sub_eq x.1 x.2.1).trans h)
theorem n80 {T : Told} (H : Hands T) : EnvOk T Tryd.prog (envL e80) := envL_ok (l := e80) ⟨ok87 H, ok106 H, ok114 H, ok115 H, ok116 H, trivial⟩
theorem ok80 {T : Told} (H : Hands T) : CtrOk T Tryd.prog 80 c80 :=
 fn_ok H.ty (n80 H) hm (lh := whole_Add_lh) (ct := c80) (dcd := fun y => (y.2.1)) Tryd.func80 (by kernel_rfl) (by rfl) (LHok_of (l := []) (by kernel_rfl) trivial) (by decide) (fun _ => rfl) (fun x r h => (whole_Add_eq x.1 x.2.1).trans h)
theorem n81 {T : Told} (H : Hands T) : EnvOk T Tryd.prog (envL e81) := envL_ok (l := e81) trivial
theorem ok81 {T : Told} (H : Hands T) : CtrOk T Tryd.prog 81 c81 :=
 fn_ok H.ty (n81 H) hm (lh := ratio_den_lh) (ct := c81) (dcd := fun y => (y.2.1)) Tryd.func81 (by kernel_rfl) (by rfl) (LHok_of (l := []) (by kernel_rfl) trivial) (by decide) (fun _ => rfl) (fun x r h => (ratio_den_eq x.1).trans h)
theorem n46 {T : Told} (H : Hands T) : EnvOk T Tryd.prog (envL e46) := envL_ok (l := e46) ⟨ok55 H, ok69 H, ok70 H, ok71 H, ok80 H, ok81 H, trivial⟩
theorem ok46 {T : Told} (H : Hands T) : CtrOk T Tryd.prog 46 c46 :=
 fn_ok H.ty (n46 H) hm (lh := ratio_Add_lh) (ct := c46) (dcd := fun y => (y.2.1)) Tryd.func46 (by kernel_rfl) (by rfl) (LHok_of (l := []) (by kernel_rfl) trivial) (by decide) (fun _ => rfl) (fun x r h => (ratio_Add_eq x.1 x.2.1).trans h)
theorem n90 {T : Told} (H : Hands T) : EnvOk T Tryd.prog (envL e90) := envL_ok (l := e90) ⟨ok87 H, ok106 H, trivial⟩
theorem ok90 {T : Told} (H : Hands T) : CtrOk T Tryd.prog 90 c90 :=
 fn_ok H.ty (n90 H) hm (lh := whole_Neg_lh) (ct := c90) (dcd := fun y => (y.2.1)) Tryd.func90 (by kernel_rfl) (by rfl) (LHok_of (l := []) (by kernel_rfl) trivial) (by decide) (fun _ => rfl) (fun x r h => (whole_Neg_eq x.1).trans h)
theorem n57 {T : Told} (H : Hands T) : EnvOk T Tryd.prog (envL e57) := envL_ok (l := e57) ⟨ok55 H, ok90 H, trivial⟩
theorem ok57 {T : Told} (H : Hands T) : CtrOk T Tryd.prog 57 c57 :=
 fn_ok H.ty (n57 H) hm (lh := ratio_Neg_lh) (ct := c57) (dcd := fun y => (y.2.1)) Tryd.func57 (by kernel_rfl) (by rfl) (LHok_of (l := []) (by kernel_rfl) trivial) (by decide) (fun _ => rfl) (fun x r h => (ratio_Neg_eq x.1).trans h)
theorem n18 {T : Told} (H : Hands T) : EnvOk T Tryd.prog (envL e18) := envL_ok (l := e18) ⟨ok46 H, ok57 H, trivial⟩
theorem ok18 {T : Told} (H : Hands T) : CtrOk T Tryd.prog 18 c18 :=
 fn_ok H.ty (n18 H) hm (lh := ratio_Sub_lh) (ct := c18) (dcd := fun y => (y.2.1)) Tryd.func18 (by kernel_rfl) (by rfl) (LHok_of (l := []) (by kernel_rfl) trivial) (by decide) (fun _ => rfl) (fun x r h => (ratio_Sub_eq x.1 x.2.1).trans h)
theorem n92 {T : Told} (H : Hands T) : EnvOk T Tryd.prog (envL e92) := envL_ok (l := e92) trivial
theorem model_Fits_p9 {T : Told} (H : Hands T) : PieceOk T Tryd.prog 72 (.loop (loopAt 9 (bodyOf Tryd.f92) .skip)) ⟨model_Fits_i9, model_Fits_o9, lp model_Fits_s9 K0⟩ :=
 loop_piece H.ty (n92 H) hm (LHok_of (l := []) (by kernel_rfl) trivial) model_Fits_l9 K0
theorem model_Fits_p4 {T : Told} (H : Hands T) : PieceOk T Tryd.prog 72 (.loop (loopAt 4 (bodyOf Tryd.f92) .skip)) ⟨model_Fits_i4, model_Fits_o4, lp model_Fits_s4 K0⟩ :=
 loop_piece H.ty (n92 H) hm (LHok_of (l := [(.loop (loopAt 9 (bodyOf Tryd.f92) .skip), ⟨model_Fits_i9, model_Fits_o9, lp model_Fits_s9 K0⟩)]) (by kernel_rfl) ⟨model_Fits_p9 H, trivial⟩) model_Fits_l4 K0
theorem ok92 {T : Told} (H : Hands T) : CtrOk T Tryd.prog 92 c92 :=
 fn_ok H.ty (n92 H) hm (lh := model_Fits_lh) (ct := c92) (dcd := fun y => (y.2.1)) Tryd.func92 (by kernel_rfl) (by rfl) (LHok_of (l := [(.loop (loopAt 4 (bodyOf Tryd.f92) .skip), ⟨model_Fits_i4, model_Fits_o4, lp model_Fits_s4 K0⟩)]) (by kernel_rfl) ⟨model_Fits_p4 H, trivial⟩) (by decide) (fun _ => rfl) (fun x r h => (model_Fits_eq x.1).trans h)
theorem n93 {T : Told} (H : Hands T) : EnvOk T Tryd.prog (envL e93) := envL_ok (l := e93) trivial
theorem valid_ranges_p2 {T : Told} (H : Hands T) : PieceOk T Tryd.prog 52 (.loop (loopAt 2 (bodyOf Tryd.f93) .skip)) ⟨valid_ranges_i2, valid_ranges_o2, lp valid_ranges_s2 K0⟩ :=
 loop_piece H.ty (n93 H) hm (LHok_of (l := []) (by kernel_rfl) trivial) valid_ranges_l2 K0
theorem ok93 {T : Told} (H : Hands T) : CtrOk T Tryd.prog 93 c93 :=
 fn_ok H.ty (n93 H) hm (lh := valid_ranges_lh) (ct := c93) (dcd := fun y => (y.2.1, y.2.2.1)) Tryd.func93 (by kernel_rfl) (by rfl) (LHok_of (l := [(.loop (loopAt 2 (bodyOf Tryd.f93) .skip), ⟨valid_ranges_i2, valid_ranges_o2, lp valid_ranges_s2 K0⟩)]) (by kernel_rfl) ⟨valid_ranges_p2 H, trivial⟩) (by decide) (fun _ => rfl) (fun x r h => (valid_ranges_eq x.1 x.2.1).trans h)
theorem n94 {T : Told} (H : Hands T) : EnvOk T Tryd.prog (envL e94) := envL_ok (l := e94) trivial
theorem valid_shape_p3 {T : Told} (H : Hands T) : PieceOk T Tryd.prog 103 (.loop (loopAt 3 (bodyOf Tryd.f94) .skip)) ⟨valid_shape_i3, valid_shape_o3, lp valid_shape_s3 K0⟩ :=
 loop_piece H.ty (n94 H) hm (LHok_of (l := []) (by kernel_rfl) trivial) valid_shape_l3 K0
theorem valid_shape_p10 {T : Told} (H : Hands T) : PieceOk T Tryd.prog 103 (.loop (loopAt 10 (bodyOf Tryd.f94) .skip)) ⟨valid_shape_i10, valid_shape_o10, lp valid_shape_s10 K0⟩ :=
 loop_piece H.ty (n94 H) hm (LHok_of (l := []) (by kernel_rfl) trivial) valid_shape_l10 K0
theorem valid_shape_p17 {T : Told} (H : Hands T) : PieceOk T Tryd.prog 103 (.loop (loopAt 17 (bodyOf Tryd.f94) .skip)) ⟨valid_shape_i17, valid_shape_o17, lp valid_shape_s17 K0⟩ :=
 loop_piece H.ty (n94 H) hm (LHok_of (l := []) (by kernel_rfl) trivial) valid_shape_l17 K0
theorem valid_shape_p25 {T : Told} (H : Hands T) : PieceOk T Tryd.prog 103 (.loop (loopAt 25 (bodyOf Tryd.f94) .skip)) ⟨valid_shape_i25, valid_shape_o25, lp valid_shape_s25 K0⟩ :=
 loop_piece H.ty (n94 H) hm (LHok_of (l := []) (by kernel_rfl) trivial) valid_shape_l25 K0
theorem ok94 {T : Told} (H : Hands T) : CtrOk T Tryd.prog 94 c94 :=
 fn_ok H.ty (n94 H) hm (lh := valid_shape_lh) (ct := c94) (dcd := fun y => (y.2.1, y.2.2.1)) Tryd.func94 (by kernel_rfl) (by rfl) (LHok_of (l := [(.loop (loopAt 3 (bodyOf Tryd.f94) .skip), ⟨valid_shape_i3, valid_shape_o3, lp valid_shape_s3 K0⟩), (.loop (loopAt 10 (bodyOf Tryd.f94) .skip), ⟨valid_shape_i10, valid_shape_o10, lp valid_shape_s10 K0⟩), (.loop (loopAt 17 (bodyOf Tryd.f94) .skip), ⟨valid_shape_i17, valid_shape_o17, lp valid_shape_s17 K0⟩), (.loop (loopAt 25 (bodyOf Tryd.f94) .skip), ⟨valid_shape_i25, valid_shape_o25, lp valid_shape_s25 K0⟩)]) (by kernel_rfl) ⟨valid_shape_p3 H, valid_shape_p10 H, valid_shape_p17 H, valid_shape_p25 H, trivial⟩) (by decide) (fun _ => rfl) (fun x r h => (valid_shape_eq x.1).trans h)
theorem n54 {T : Told} (H : Hands T) : EnvOk T Tryd.prog (envL e54) := envL_ok (l := e54) ⟨ok87 H, trivial⟩
theorem ok54 {T : Told} (H : Hands T) : CtrOk T Tryd.prog 54 c54 :=
 fn_ok H.ty (n54 H) hm (lh := whole_Sign_lh) (ct := c54) (dcd := fun y => (y.2.1)) Tryd.func54 (by kernel_rfl) (by rfl) (LHok_of (l := []) (by kernel_rfl) trivial) (by decide) (fun _ => rfl) (fun x r h => (whole_Sign_eq x.1).trans h)
theorem n15 {T : Told} (H : Hands T) : EnvOk T Tryd.prog (envL e15) := envL_ok (l := e15) ⟨ok54 H, ok55 H, trivial⟩
theorem ok15 {T : Told} (H : Hands T) : CtrOk T Tryd.prog 15 c15 :=
 fn_ok H.ty (n15 H) hm (lh := ratio_Sign_lh) (ct := c15) (dcd := fun y => (y.2.1)) Tryd.func15 (by kernel_rfl) (by rfl) (LHok_of (l := []) (by kernel_rfl) trivial) (by decide) (fun _ => rfl) (fun x r h => (ratio_Sign_eq x.1).trans h)
theorem n95 {T : Told} (H : Hands T) : EnvOk T Tryd.prog (envL e95) := envL_ok (l := e95) ⟨ok15 H, trivial⟩
theorem valid_covers_p2 {T : Told} (H : Hands T) : PieceOk T Tryd.prog 19 (.loop (loopAt 2 (bodyOf Tryd.f95) .skip)) ⟨valid_covers_i2, valid_covers_o2, lp valid_covers_s2 K0⟩ :=
 loop_piece H.ty (n95 H) hm (LHok_of (l := []) (by kernel_rfl) trivial) valid_covers_l2 K0
theorem ok95 {T : Told} (H : Hands T) : CtrOk T Tryd.prog 95 c95 :=
 fn_ok H.ty (n95 H) hm (lh := valid_covers_lh) (ct := c95) (dcd := fun y => (y.2.1, y.2.2.1)) Tryd.func95 (by kernel_rfl) (by rfl) (LHok_of (l := [(.loop (loopAt 2 (bodyOf Tryd.f95) .skip), ⟨valid_covers_i2, valid_covers_o2, lp valid_covers_s2 K0⟩)]) (by kernel_rfl) ⟨valid_covers_p2 H, trivial⟩) (by decide) (fun _ => rfl) (fun x r h => (valid_covers_eq x.1).trans h)
theorem n89 {T : Told} (H : Hands T) : EnvOk T Tryd.prog (envL e89) := envL_ok (l := e89) ⟨ok87 H, ok115 H, trivial⟩
theorem ok89 {T : Told} (H : Hands T) : CtrOk T Tryd.prog 89 c89 :=
 fn_ok H.ty (n89 H) hm (lh := whole_Cmp_lh) (ct := c89) (dcd := fun y => (y.2.1)) Tryd.func89 (by kernel_rfl) (by rfl) (LHok_of (l := []) (by kernel_rfl) trivial) (by decide) (fun _ => rfl) (fun x r h => (whole_Cmp_eq x.1 x.2.1).trans h)
theorem n56 {T : Told} (H : Hands T) : EnvOk T Tryd.prog (envL e56) := envL_ok (l := e56) ⟨ok55 H, ok70 H, ok81 H, ok89 H, trivial⟩
theorem ok56 {T : Told} (H : Hands T) : CtrOk T Tryd.prog 56 c56 :=
 fn_ok H.ty (n56 H) hm (lh := ratio_Cmp_lh) (ct := c56) (dcd := fun y => (y.2.1)) Tryd.func56 (by kernel_rfl) (by rfl) (LHok_of (l := []) (by kernel_rfl) trivial) (by decide) (fun _ => rfl) (fun x r h => (ratio_Cmp_eq x.1 x.2.1).trans h)
theorem n16 {T : Told} (H : Hands T) : EnvOk T Tryd.prog (envL e16) := envL_ok (l := e16) ⟨ok56 H, trivial⟩
theorem ok16 {T : Told} (H : Hands T) : CtrOk T Tryd.prog 16 c16 :=
 fn_ok H.ty (n16 H) hm (lh := ratio_Same_lh) (ct := c16) (dcd := fun y => (y.2.1)) Tryd.func16 (by kernel_rfl) (by rfl) (LHok_of (l := []) (by kernel_rfl) trivial) (by decide) (fun _ => rfl) (fun x r h => (ratio_Same_eq x.1 x.2.1).trans h)
theorem n96 {T : Told} (H : Hands T) : EnvOk T Tryd.prog (envL e96) := envL_ok (l := e96) ⟨ok16 H, ok46 H, trivial⟩
theorem valid_sums_p2 {T : Told} (H : Hands T) : PieceOk T Tryd.prog 37 (.loop (loopAt 2 (bodyOf Tryd.f96) .skip)) ⟨valid_sums_i2, valid_sums_o2, lp valid_sums_s2 K0⟩ :=
 loop_piece H.ty (n96 H) hm (LHok_of (l := []) (by kernel_rfl) trivial) valid_sums_l2 K0
theorem ok96 {T : Told} (H : Hands T) : CtrOk T Tryd.prog 96 c96 :=
 fn_ok H.ty (n96 H) hm (lh := valid_sums_lh) (ct := c96) (dcd := fun y => (y.2.1, y.2.2.1)) Tryd.func96 (by kernel_rfl) (by rfl) (LHok_of (l := [(.loop (loopAt 2 (bodyOf Tryd.f96) .skip), ⟨valid_sums_i2, valid_sums_o2, lp valid_sums_s2 K0⟩)]) (by kernel_rfl) ⟨valid_sums_p2 H, trivial⟩) (by decide) (fun _ => rfl) (fun x r h => (valid_sums_eq x.1).trans h)
theorem n97 {T : Told} (H : Hands T) : EnvOk T Tryd.prog (envL e97) := envL_ok (l := e97) trivial
theorem ok97 {T : Told} (H : Hands T) : CtrOk T Tryd.prog 97 c97 :=
 fn_ok H.ty (n97 H) hm (lh := valid_fault_lh) (ct := c97) (dcd := fun y => (y.2.1)) Tryd.func97 (by kernel_rfl) (by rfl) (LHok_of (l := []) (by kernel_rfl) trivial) (by decide) (fun _ => rfl) (fun x r h => (valid_fault_eq x.1 x.2.1 x.2.2.1).trans h)
theorem n65 {T : Told} (H : Hands T) : EnvOk T Tryd.prog (envL e65) := envL_ok (l := e65) ⟨ok92 H, ok93 H, ok94 H, ok95 H, ok96 H, ok97 H, trivial⟩
theorem valid_Check_p7 {T : Told} (H : Hands T) : PieceOk T Tryd.prog 63 (.loop (loopAt 7 (bodyOf Tryd.f65) .skip)) ⟨valid_Check_i7, valid_Check_o7, lp valid_Check_s7 K0⟩ :=
 loop_piece H.ty (n65 H) hm (LHok_of (l := []) (by kernel_rfl) trivial) valid_Check_l7 K0
theorem valid_Check_p4 {T : Told} (H : Hands T) : PieceOk T Tryd.prog 63 (.loop (loopAt 4 (bodyOf Tryd.f65) .skip)) ⟨valid_Check_i4, valid_Check_o4, lp valid_Check_s4 K0⟩ :=
 loop_piece H.ty (n65 H) hm (LHok_of (l := [(.loop (loopAt 7 (bodyOf Tryd.f65) .skip), ⟨valid_Check_i7, valid_Check_o7, lp valid_Check_s7 K0⟩)]) (by kernel_rfl) ⟨valid_Check_p7 H, trivial⟩) valid_Check_l4 K0
theorem ok65 {T : Told} (H : Hands T) : CtrOk T Tryd.prog 65 c65 :=
 fn_ok H.ty (n65 H) hm (lh := valid_Check_lh) (ct := c65) (dcd := fun y => (y.2.1)) Tryd.func65 (by kernel_rfl) (by rfl) (LHok_of (l := [(.loop (loopAt 4 (bodyOf Tryd.f65) .skip), ⟨valid_Check_i4, valid_Check_o4, lp valid_Check_s4 K0⟩)]) (by kernel_rfl) ⟨valid_Check_p4 H, trivial⟩) (by decide) (fun _ => rfl) (fun x r h => (valid_Check_eq x.1).trans h)
theorem n27 {T : Told} (H : Hands T) : EnvOk T Tryd.prog (envL e27) := envL_ok (l := e27) ⟨ok65 H, trivial⟩
theorem ok27 {T : Told} (H : Hands T) : CtrOk T Tryd.prog 27 c27 :=
 fn_ok H.ty (n27 H) hm (lh := valid_Ok_lh) (ct := c27) (dcd := fun y => (y.2.1)) Tryd.func27 (by kernel_rfl) (by rfl) (LHok_of (l := []) (by kernel_rfl) trivial) (by decide) (fun _ => rfl) (fun x r h => (valid_Ok_eq x.1).trans h)
theorem n50 {T : Told} (H : Hands T) : EnvOk T Tryd.prog (envL e50) := envL_ok (l := e50) ⟨ok27 H, trivial⟩
theorem ok50 {T : Told} (H : Hands T) : CtrOk T Tryd.prog 50 c50 :=
 fn_ok H.ty (n50 H) hm (lh := route_fits_lh) (ct := c50) (dcd := fun y => (y.2.1)) Tryd.func50 (by kernel_rfl) (by rfl) (LHok_of (l := []) (by kernel_rfl) trivial) (by decide) (fun _ => rfl) (fun x r h => (route_fits_eq x.1 x.2.1).trans h)
theorem n77 {T : Told} (H : Hands T) : EnvOk T Tryd.prog (envL e77) := envL_ok (l := e77) ⟨ok50 H, trivial⟩
theorem ok77 {T : Told} (H : Hands T) : CtrOk T Tryd.prog 77 c77 :=
 fn_ok H.ty (n77 H) hm (lh := route_Fits_lh) (ct := c77) (dcd := fun y => (y.2.1)) Tryd.func77 (by kernel_rfl) (by rfl) (LHok_of (l := []) (by kernel_rfl) trivial) (by decide) (fun _ => rfl) (fun x r h => (route_Fits_eq x.1 x.2.1).trans h)
theorem n117 {T : Told} (H : Hands T) : EnvOk T Tryd.prog (envL e117) := envL_ok (l := e117) ⟨ok56 H, trivial⟩
theorem ok117 {T : Told} (H : Hands T) : CtrOk T Tryd.prog 117 c117 :=
 fn_ok H.ty (n117 H) hm (lh := route_goes_lh) (ct := c117) (dcd := fun y => (y.2.1)) Tryd.func117 (by kernel_rfl) (by rfl) (LHok_of (l := []) (by kernel_rfl) trivial) (by decide) (fun _ => rfl) (fun x r h => (route_goes_eq x.1 x.2.1).trans h)
theorem n85 {T : Told} (H : Hands T) : EnvOk T Tryd.prog (envL e85) := envL_ok (l := e85) ⟨ok117 H, trivial⟩
theorem ok85 {T : Told} (H : Hands T) : CtrOk T Tryd.prog 85 c85 :=
 fn_ok H.ty (n85 H) hm (lh := route_next_lh) (ct := c85) (dcd := fun y => (y.2.1)) Tryd.func85 (by kernel_rfl) (by rfl) (LHok_of (l := []) (by kernel_rfl) trivial) (by decide) (fun _ => rfl) (fun x r h => (route_next_eq x.1 x.2.1).trans h)
theorem n111 {T : Told} (H : Hands T) : EnvOk T Tryd.prog (envL e111) := envL_ok (l := e111) ⟨ok27 H, trivial⟩
theorem ok111 {T : Told} (H : Hands T) : CtrOk T Tryd.prog 111 c111 :=
 fn_ok H.ty (n111 H) hm (lh := valid_Tree_lh) (ct := c111) (dcd := fun y => (y.2.1)) Tryd.func111 (by kernel_rfl) (by rfl) (LHok_of (l := []) (by kernel_rfl) trivial) (by decide) (fun _ => rfl) (fun x r h => (valid_Tree_eq x.1 x.2.1).trans h)
theorem n78 {T : Told} (H : Hands T) : EnvOk T Tryd.prog (envL e78) := envL_ok (l := e78) ⟨ok85 H, ok111 H, trivial⟩
theorem route_Way_p5 {T : Told} (H : Hands T) : PieceOk T Tryd.prog 31 (.loop (loopAt 5 (bodyOf Tryd.f78) .skip)) ⟨route_Way_i5, route_Way_o5, lp route_Way_s5 K0⟩ :=
 loop_piece H.ty (n78 H) hm (LHok_of (l := []) (by kernel_rfl) trivial) route_Way_l5 K0
theorem ok78 {T : Told} (H : Hands T) : CtrOk T Tryd.prog 78 c78 :=
 fn_ok H.ty (n78 H) hm (lh := route_Way_lh) (ct := c78) (dcd := fun y => (y.2.1, y.2.2.1)) Tryd.func78 (by kernel_rfl) (by rfl) (LHok_of (l := [(.loop (loopAt 5 (bodyOf Tryd.f78) .skip), ⟨route_Way_i5, route_Way_o5, lp route_Way_s5 K0⟩)]) (by kernel_rfl) ⟨route_Way_p5 H, trivial⟩) (by decide) (fun _ => rfl) (fun x r h => (route_Way_eq x.1 x.2.1).trans h)
theorem n112 {T : Told} (H : Hands T) : EnvOk T Tryd.prog (envL e112) := envL_ok (l := e112) trivial
theorem expect_down_p3 {T : Told} (H : Hands T) : PieceOk T Tryd.prog 31 (.loop (loopAt 3 (bodyOf Tryd.f112) .skip)) ⟨expect_down_i3, expect_down_o3, lp expect_down_s3 K0⟩ :=
 loop_piece H.ty (n112 H) hm (LHok_of (l := []) (by kernel_rfl) trivial) expect_down_l3 K0
theorem ok112 {T : Told} (H : Hands T) : CtrOk T Tryd.prog 112 c112 :=
 fn_ok H.ty (n112 H) hm (lh := expect_down_lh) (ct := c112) (dcd := fun y => (y.2.1)) Tryd.func112 (by kernel_rfl) (by rfl) (LHok_of (l := [(.loop (loopAt 3 (bodyOf Tryd.f112) .skip), ⟨expect_down_i3, expect_down_o3, lp expect_down_s3 K0⟩)]) (by kernel_rfl) ⟨expect_down_p3 H, trivial⟩) (by decide) (fun _ => rfl) (fun x r h => (expect_down_eq x.1).trans h)
theorem n31 {T : Told} (H : Hands T) : EnvOk T Tryd.prog (envL e31) := envL_ok (l := e31) ⟨ok55 H, ok69 H, ok70 H, ok71 H, trivial⟩
theorem ok31 {T : Told} (H : Hands T) : CtrOk T Tryd.prog 31 c31 :=
 fn_ok H.ty (n31 H) hm (lh := ratio_Mul_lh) (ct := c31) (dcd := fun y => (y.2.1)) Tryd.func31 (by kernel_rfl) (by rfl) (LHok_of (l := []) (by kernel_rfl) trivial) (by decide) (fun _ => rfl) (fun x r h => (ratio_Mul_eq x.1 x.2.1).trans h)
theorem n84 {T : Told} (H : Hands T) : EnvOk T Tryd.prog (envL e84) := envL_ok (l := e84) ⟨ok54 H, ok69 H, ok87 H, ok90 H, trivial⟩
theorem ok84 {T : Told} (H : Hands T) : CtrOk T Tryd.prog 84 c84 :=
 fn_ok H.ty (n84 H) hm (lh := ratio_Make_lh) (ct := c84) (dcd := fun y => (y.2.1, y.2.2.1)) Tryd.func84 (by kernel_rfl) (by rfl) (LHok_of (l := []) (by kernel_rfl) trivial) (by decide) (fun _ => rfl) (fun x r h => (ratio_Make_eq x.1 x.2.1).trans h)
theorem n109 {T : Told} (H : Hands T) : EnvOk T Tryd.prog (envL e109) := envL_ok (l := e109) ⟨ok55 H, ok81 H, ok84 H, trivial⟩
theorem ok109 {T : Told} (H : Hands T) : CtrOk T Tryd.prog 109 c109 :=
 fn_ok H.ty (n109 H) hm (lh := ratio_Inv_lh) (ct := c109) (dcd := fun y => (y.2.1, y.2.2.1)) Tryd.func109 (by kernel_rfl) (by rfl) (LHok_of (l := []) (by kernel_rfl) trivial) (by decide) (fun _ => rfl) (fun x r h => (ratio_Inv_eq x.1).trans h)
theorem n103 {T : Told} (H : Hands T) : EnvOk T Tryd.prog (envL e103) := envL_ok (l := e103) ⟨ok31 H, ok109 H, trivial⟩
theorem ok103 {T : Told} (H : Hands T) : CtrOk T Tryd.prog 103 c103 :=
 fn_ok H.ty (n103 H) hm (lh := ratio_Div_lh) (ct := c103) (dcd := fun y => (y.2.1, y.2.2.1)) Tryd.func103 (by kernel_rfl) (by rfl) (LHok_of (l := []) (by kernel_rfl) trivial) (by decide) (fun _ => rfl) (fun x r h => (ratio_Div_eq x.1 x.2.1).trans h)
theorem n131 {T : Told} (H : Hands T) : EnvOk T Tryd.prog (envL e131) := envL_ok (l := e131) ⟨ok103 H, trivial⟩
theorem ok131 {T : Told} (H : Hands T) : CtrOk T Tryd.prog 131 c131 :=
 fn_ok H.ty (n131 H) hm (lh := expect_over_lh) (ct := c131) (dcd := fun y => (y.2.1)) Tryd.func131 (by kernel_rfl) (by rfl) (LHok_of (l := []) (by kernel_rfl) trivial) (by decide) (fun _ => rfl) (fun x r h => (expect_over_eq x.1 x.2.1).trans h)
theorem n113 {T : Told} (H : Hands T) : EnvOk T Tryd.prog (envL e113) := envL_ok (l := e113) ⟨ok31 H, ok46 H, ok131 H, trivial⟩
theorem ok113 {T : Told} (H : Hands T) : CtrOk T Tryd.prog 113 c113 :=
 fn_ok H.ty (n113 H) hm (lh := expect_mean_lh) (ct := c113) (dcd := fun y => (y.2.1)) Tryd.func113 (by kernel_rfl) (by rfl) (LHok_of (l := []) (by kernel_rfl) trivial) (by decide) (fun _ => rfl) (fun x r h => (expect_mean_eq x.1 x.2.1 x.2.2.1 x.2.2.2.1).trans h)
theorem n79 {T : Told} (H : Hands T) : EnvOk T Tryd.prog (envL e79) := envL_ok (l := e79) ⟨ok55 H, ok111 H, ok112 H, ok113 H, trivial⟩
theorem expect_Nodes_p6 {T : Told} (H : Hands T) : PieceOk T Tryd.prog 64 (.loop (loopAt 6 (bodyOf Tryd.f79) .skip)) ⟨expect_Nodes_i6, expect_Nodes_o6, lp expect_Nodes_s6 K0⟩ :=
 loop_piece H.ty (n79 H) hm (LHok_of (l := []) (by kernel_rfl) trivial) expect_Nodes_l6 K0
theorem ok79 {T : Told} (H : Hands T) : CtrOk T Tryd.prog 79 c79 :=
 fn_ok H.ty (n79 H) hm (lh := expect_Nodes_lh) (ct := c79) (dcd := fun y => (y.2.1, y.2.2.1)) Tryd.func79 (by kernel_rfl) (by rfl) (LHok_of (l := [(.loop (loopAt 6 (bodyOf Tryd.f79) .skip), ⟨expect_Nodes_i6, expect_Nodes_o6, lp expect_Nodes_s6 K0⟩)]) (by kernel_rfl) ⟨expect_Nodes_p6 H, trivial⟩) (by decide) (fun _ => rfl) (fun x r h => (expect_Nodes_eq x.1 x.2.1).trans h)
theorem n44 {T : Told} (H : Hands T) : EnvOk T Tryd.prog (envL e44) := envL_ok (l := e44) ⟨ok18 H, ok77 H, ok78 H, ok79 H, trivial⟩
theorem saabas_Steps_p11 {T : Told} (H : Hands T) : PieceOk T Tryd.prog 85 (.loop (loopAt 11 (bodyOf Tryd.f44) .skip)) ⟨saabas_Steps_i11, saabas_Steps_o11, lp saabas_Steps_s11 K0⟩ :=
 loop_piece H.ty (n44 H) hm (LHok_of (l := []) (by kernel_rfl) trivial) saabas_Steps_l11 K0
theorem saabas_Steps_p6 {T : Told} (H : Hands T) : PieceOk T Tryd.prog 85 (.loop (loopAt 6 (bodyOf Tryd.f44) .skip)) ⟨saabas_Steps_i6, saabas_Steps_o6, lp saabas_Steps_s6 K0⟩ :=
 loop_piece H.ty (n44 H) hm (LHok_of (l := [(.loop (loopAt 11 (bodyOf Tryd.f44) .skip), ⟨saabas_Steps_i11, saabas_Steps_o11, lp saabas_Steps_s11 K0⟩)]) (by kernel_rfl) ⟨saabas_Steps_p11 H, trivial⟩) saabas_Steps_l6 K0
theorem ok44 {T : Told} (H : Hands T) : CtrOk T Tryd.prog 44 c44 :=
 fn_ok H.ty (n44 H) hm (lh := saabas_Steps_lh) (ct := c44) (dcd := fun y => (y.2.1, y.2.2.1)) Tryd.func44 (by kernel_rfl) (by rfl) (LHok_of (l := [(.loop (loopAt 6 (bodyOf Tryd.f44) .skip), ⟨saabas_Steps_i6, saabas_Steps_o6, lp saabas_Steps_s6 K0⟩)]) (by kernel_rfl) ⟨saabas_Steps_p6 H, trivial⟩) (by decide) (fun _ => rfl) (fun x r h => (saabas_Steps_eq x.1 x.2.1).trans h)
theorem n45 {T : Told} (H : Hands T) : EnvOk T Tryd.prog (envL e45) := envL_ok (l := e45) ⟨ok51 H, trivial⟩
theorem saabas_zeros_p3 {T : Told} (H : Hands T) : PieceOk T Tryd.prog 13 (.loop (loopAt 3 (bodyOf Tryd.f45) .skip)) ⟨saabas_zeros_i3, saabas_zeros_o3, lp saabas_zeros_s3 K0⟩ :=
 loop_piece H.ty (n45 H) hm (LHok_of (l := []) (by kernel_rfl) trivial) saabas_zeros_l3 K0
theorem ok45 {T : Told} (H : Hands T) : CtrOk T Tryd.prog 45 c45 :=
 fn_ok H.ty (n45 H) hm (lh := saabas_zeros_lh) (ct := c45) (dcd := fun y => (y.2.1)) Tryd.func45 (by kernel_rfl) (by rfl) (LHok_of (l := [(.loop (loopAt 3 (bodyOf Tryd.f45) .skip), ⟨saabas_zeros_i3, saabas_zeros_o3, lp saabas_zeros_s3 K0⟩)]) (by kernel_rfl) ⟨saabas_zeros_p3 H, trivial⟩) (by decide) (fun _ => rfl) (fun x r h => (saabas_zeros_eq x.1).trans h)
theorem n9 {T : Told} (H : Hands T) : EnvOk T Tryd.prog (envL e9) := envL_ok (l := e9) ⟨ok44 H, ok45 H, ok46 H, trivial⟩
theorem saabas_Values_p6 {T : Told} (H : Hands T) : PieceOk T Tryd.prog 43 (.loop (loopAt 6 (bodyOf Tryd.f9) .skip)) ⟨saabas_Values_i6, saabas_Values_o6, lp saabas_Values_s6 K0⟩ :=
 loop_piece H.ty (n9 H) hm (LHok_of (l := []) (by kernel_rfl) trivial) saabas_Values_l6 K0
theorem ok9 {T : Told} (H : Hands T) : CtrOk T Tryd.prog 9 c9 :=
 fn_ok H.ty (n9 H) hm (lh := saabas_Values_lh) (ct := c9) (dcd := fun y => (y.2.1, y.2.2.1)) Tryd.func9 (by kernel_rfl) (by rfl) (LHok_of (l := [(.loop (loopAt 6 (bodyOf Tryd.f9) .skip), ⟨saabas_Values_i6, saabas_Values_o6, lp saabas_Values_s6 K0⟩)]) (by kernel_rfl) ⟨saabas_Values_p6 H, trivial⟩) (by decide) (fun _ => rfl) (fun x r h => (saabas_Values_eq x.1 x.2.1).trans h)
theorem n10 {T : Told} (H : Hands T) : EnvOk T Tryd.prog (envL e10) := envL_ok (l := e10) ⟨ok27 H, trivial⟩
theorem ok10 {T : Told} (H : Hands T) : CtrOk T Tryd.prog 10 c10 :=
 fn_ok H.ty (n10 H) hm (lh := dendronlaw10_Why_lh) (ct := c10) (dcd := fun y => (y.2.1)) Tryd.func10 (by kernel_rfl) (by rfl) (LHok_of (l := []) (by kernel_rfl) trivial) (by decide) (fun _ => rfl) (fun x r h => (dendronlaw10_Why_eq x.1 x.2.1).trans h)
theorem n82 {T : Told} (H : Hands T) : EnvOk T Tryd.prog (envL e82) := envL_ok (l := e82) ⟨ok83 H, ok106 H, trivial⟩
theorem ok82 {T : Told} (H : Hands T) : CtrOk T Tryd.prog 82 c82 :=
 fn_ok H.ty (n82 H) hm (lh := whole_Of_lh) (ct := c82) (dcd := fun y => (y.2.1)) Tryd.func82 (by kernel_rfl) (by rfl) (LHok_of (l := []) (by kernel_rfl) trivial) (by decide) (fun _ => rfl) (fun x r h => (whole_Of_eq x.1).trans h)
theorem n47 {T : Told} (H : Hands T) : EnvOk T Tryd.prog (envL e47) := envL_ok (l := e47) ⟨ok82 H, ok83 H, trivial⟩
theorem ok47 {T : Told} (H : Hands T) : CtrOk T Tryd.prog 47 c47 :=
 fn_ok H.ty (n47 H) hm (lh := ratio_Of_lh) (ct := c47) (dcd := fun y => (y.2.1)) Tryd.func47 (by kernel_rfl) (by rfl) (LHok_of (l := []) (by kernel_rfl) trivial) (by decide) (fun _ => rfl) (fun x r h => (ratio_Of_eq x.1).trans h)
theorem n48 {T : Told} (H : Hands T) : EnvOk T Tryd.prog (envL e48) := envL_ok (l := e48) ⟨ok47 H, trivial⟩
theorem ok48 {T : Told} (H : Hands T) : CtrOk T Tryd.prog 48 c48 :=
 fn_ok H.ty (n48 H) hm (lh := ratio_One_lh) (ct := c48) (dcd := fun y => (y.2.1)) Tryd.func48 (by kernel_rfl) (by rfl) (LHok_of (l := []) (by kernel_rfl) trivial) (by decide) (fun _ => rfl) (fun x r h => (ratio_One_eq ).trans h)
theorem n49 {T : Told} (H : Hands T) : EnvOk T Tryd.prog (envL e49) := envL_ok (l := e49) ⟨ok55 H, ok82 H, ok84 H, trivial⟩
theorem ok49 {T : Told} (H : Hands T) : CtrOk T Tryd.prog 49 c49 :=
 fn_ok H.ty (n49 H) hm (lh := ratio_Frac_lh) (ct := c49) (dcd := fun y => (y.2.1)) Tryd.func49 (by kernel_rfl) (by rfl) (LHok_of (l := []) (by kernel_rfl) trivial) (by decide) (fun _ => rfl) (fun x r h => (ratio_Frac_eq x.1 x.2.1).trans h)
theorem n11 {T : Told} (H : Hands T) : EnvOk T Tryd.prog (envL e11) := envL_ok (l := e11) ⟨ok9 H, ok16 H, ok47 H, ok48 H, ok49 H, trivial⟩
theorem dendronlaw12_awake_cF {r} (h : c11.F () = r) : dendronlaw12_awake = r := by
 subst h
 delta c11
 exact (@F_in [] _ _ (fun _ => dendronlaw12_awake) _ _ () _ rfl).symm
theorem dendronlaw12_awake_fx (x) (r : c11.T) (h : c11.F x = some r) : fnF tb (envL e11) Tryd.f11 dendronlaw12_awake_lh c11.ps c11.rs (T := c11.T) (fun y => (y.2.1)) x = some r := by
 cases x
 exact dendronlaw12_awake_eq.trans (dendronlaw12_awake_cF h)
theorem ok11 {T : Told} (H : Hands T) : CtrOk T Tryd.prog 11 c11 :=
 fn_ok H.ty (n11 H) hm (lh := dendronlaw12_awake_lh) (ct := c11) (dcd := fun y => (y.2.1)) Tryd.func11 (by kernel_rfl) (by rfl) (LHok_of (l := []) (by kernel_rfl) trivial) (by decide) (fun _ => rfl) (fun x r h => dendronlaw12_awake_fx x r h)
theorem n52 {T : Told} (H : Hands T) : EnvOk T Tryd.prog (envL e52) := envL_ok (l := e52) ⟨ok55 H, ok85 H, trivial⟩
theorem route_value_p2 {T : Told} (H : Hands T) : PieceOk T Tryd.prog 24 (.loop (loopAt 2 (bodyOf Tryd.f52) .skip)) ⟨route_value_i2, route_value_o2, lp route_value_s2 K0⟩ :=
 loop_piece H.ty (n52 H) hm (LHok_of (l := []) (by kernel_rfl) trivial) route_value_l2 K0
theorem ok52 {T : Told} (H : Hands T) : CtrOk T Tryd.prog 52 c52 :=
 fn_ok H.ty (n52 H) hm (lh := route_value_lh) (ct := c52) (dcd := fun y => (y.2.1)) Tryd.func52 (by kernel_rfl) (by rfl) (LHok_of (l := [(.loop (loopAt 2 (bodyOf Tryd.f52) .skip), ⟨route_value_i2, route_value_o2, lp route_value_s2 K0⟩)]) (by kernel_rfl) ⟨route_value_p2 H, trivial⟩) (by decide) (fun _ => rfl) (fun x r h => (route_value_eq x.1 x.2.1).trans h)
theorem n12 {T : Told} (H : Hands T) : EnvOk T Tryd.prog (envL e12) := envL_ok (l := e12) ⟨ok46 H, ok50 H, ok51 H, ok52 H, trivial⟩
theorem route_Predict_p6 {T : Told} (H : Hands T) : PieceOk T Tryd.prog 32 (.loop (loopAt 6 (bodyOf Tryd.f12) .skip)) ⟨route_Predict_i6, route_Predict_o6, lp route_Predict_s6 K0⟩ :=
 loop_piece H.ty (n12 H) hm (LHok_of (l := []) (by kernel_rfl) trivial) route_Predict_l6 K0
theorem ok12 {T : Told} (H : Hands T) : CtrOk T Tryd.prog 12 c12 :=
 fn_ok H.ty (n12 H) hm (lh := route_Predict_lh) (ct := c12) (dcd := fun y => (y.2.1, y.2.2.1)) Tryd.func12 (by kernel_rfl) (by rfl) (LHok_of (l := [(.loop (loopAt 6 (bodyOf Tryd.f12) .skip), ⟨route_Predict_i6, route_Predict_o6, lp route_Predict_s6 K0⟩)]) (by kernel_rfl) ⟨route_Predict_p6 H, trivial⟩) (by decide) (fun _ => rfl) (fun x r h => (route_Predict_eq x.1 x.2.1).trans h)
theorem n102 {T : Told} (H : Hands T) : EnvOk T Tryd.prog (envL e102) := envL_ok (l := e102) ⟨ok117 H, trivial⟩
theorem ok102 {T : Told} (H : Hands T) : CtrOk T Tryd.prog 102 c102 :=
 fn_ok H.ty (n102 H) hm (lh := route_Left_lh) (ct := c102) (dcd := fun y => (y.2.1)) Tryd.func102 (by kernel_rfl) (by rfl) (LHok_of (l := []) (by kernel_rfl) trivial) (by decide) (fun _ => rfl) (fun x r h => (route_Left_eq x.1 x.2.1).trans h)
theorem n118 {T : Told} (H : Hands T) : EnvOk T Tryd.prog (envL e118) := envL_ok (l := e118) trivial
theorem ok118 {T : Told} (H : Hands T) : CtrOk T Tryd.prog 118 c118 :=
 fn_ok H.ty (n118 H) hm (lh := expect_known_lh) (ct := c118) (dcd := fun y => (y.2.1)) Tryd.func118 (by kernel_rfl) (by rfl) (LHok_of (l := []) (by kernel_rfl) trivial) (by decide) (fun _ => rfl) (fun x r h => (expect_known_eq x.1 x.2.1).trans h)
theorem n86 {T : Told} (H : Hands T) (n : Nat) (hr : CtrOk T Tryd.prog 86 (c86 n)) : EnvOk T Tryd.prog (envL (e86 n)) := envL_ok (l := (e86 n)) ⟨ok55 H, hr, ok102 H, ok113 H, ok118 H, trivial⟩
theorem ok86 {T : Told} (H : Hands T) : ∀ n, CtrOk T Tryd.prog 86 (c86 n)
 | 0 => CtrOk.never Tryd.func86 (by kernel_rfl) (by rfl) (fun _ => rfl)
 | n + 1 => fn_ok H.ty (n86 H n (ok86 H n)) hm (lh := expect_value_lh n) (ct := c86 (n + 1)) (dcd := fun y => (y.2.1)) Tryd.func86 (by kernel_rfl) (by rfl) (LHok_of (l := []) (by kernel_rfl) trivial) (Nat.le_of_ble_eq_true rfl) (fun _ => rfl) (fun x r h => (expect_value_eq n x.1 x.2.1 x.2.2.1 x.2.2.2.1).trans h)
theorem n53 {T : Told} (H : Hands T) : EnvOk T Tryd.prog (envL e53) := envL_ok (l := e53) ⟨ok46 H, ok51 H, ok77 H, ok86 H R0, trivial⟩
theorem expect_Value_p6 {T : Told} (H : Hands T) : PieceOk T Tryd.prog 35 (.loop (loopAt 6 (bodyOf Tryd.f53) .skip)) ⟨expect_Value_i6, expect_Value_o6, lp expect_Value_s6 K0⟩ :=
 loop_piece H.ty (n53 H) hm (LHok_of (l := []) (by kernel_rfl) trivial) expect_Value_l6 K0
theorem ok53 {T : Told} (H : Hands T) : CtrOk T Tryd.prog 53 c53 :=
 fn_ok H.ty (n53 H) hm (lh := expect_Value_lh) (ct := c53) (dcd := fun y => (y.2.1, y.2.2.1)) Tryd.func53 (by kernel_rfl) (by rfl) (LHok_of (l := [(.loop (loopAt 6 (bodyOf Tryd.f53) .skip), ⟨expect_Value_i6, expect_Value_o6, lp expect_Value_s6 K0⟩)]) (by kernel_rfl) ⟨expect_Value_p6 H, trivial⟩) (by decide) (fun _ => rfl) (fun x r h => (expect_Value_eq x.1 x.2.1 x.2.2.1).trans h)
theorem n13 {T : Told} (H : Hands T) : EnvOk T Tryd.prog (envL e13) := envL_ok (l := e13) ⟨ok27 H, ok53 H, trivial⟩
theorem ok13 {T : Told} (H : Hands T) : CtrOk T Tryd.prog 13 c13 :=
 fn_ok H.ty (n13 H) hm (lh := expect_Base_lh) (ct := c13) (dcd := fun y => (y.2.1, y.2.2.1)) Tryd.func13 (by kernel_rfl) (by rfl) (LHok_of (l := []) (by kernel_rfl) trivial) (by decide) (fun _ => rfl) (fun x r h => (expect_Base_eq x.1).trans h)
theorem ok14 {T : Told} (H : Hands T) : CtrOk T Tryd.prog 14 c14 := used_walk (ok27 H)
theorem n17 {T : Told} (H : Hands T) : EnvOk T Tryd.prog (envL e17) := envL_ok (l := e17) ⟨ok46 H, ok51 H, trivial⟩
theorem ratio_Sum_p3 {T : Told} (H : Hands T) : PieceOk T Tryd.prog 18 (.loop (loopAt 3 (bodyOf Tryd.f17) .skip)) ⟨ratio_Sum_i3, ratio_Sum_o3, lp ratio_Sum_s3 K0⟩ :=
 loop_piece H.ty (n17 H) hm (LHok_of (l := []) (by kernel_rfl) trivial) ratio_Sum_l3 K0
theorem ok17 {T : Told} (H : Hands T) : CtrOk T Tryd.prog 17 c17 :=
 fn_ok H.ty (n17 H) hm (lh := ratio_Sum_lh) (ct := c17) (dcd := fun y => (y.2.1)) Tryd.func17 (by kernel_rfl) (by rfl) (LHok_of (l := [(.loop (loopAt 3 (bodyOf Tryd.f17) .skip), ⟨ratio_Sum_i3, ratio_Sum_o3, lp ratio_Sum_s3 K0⟩)]) (by kernel_rfl) ⟨ratio_Sum_p3 H, trivial⟩) (by decide) (fun _ => rfl) (fun x r h => (ratio_Sum_eq x.1).trans h)
theorem n3 {T : Told} (H : Hands T) : EnvOk T Tryd.prog (envL e3) := envL_ok (l := e3) ⟨ok8 H, ok9 H, ok10 H, ok11 H, ok12 H, ok13 H, ok14 H, ok15 H, ok16 H, ok17 H, ok18 H, trivial⟩
theorem dendronlaw12_SaabasAdds_p11 {T : Told} (H : Hands T) : PieceOk T Tryd.prog 89 (.loop (loopAt 11 (bodyOf Tryd.f3) .skip)) ⟨dendronlaw12_SaabasAdds_i11, dendronlaw12_SaabasAdds_o11, lp dendronlaw12_SaabasAdds_s11 K0⟩ :=
 loop_piece H.ty (n3 H) hm (LHok_of (l := []) (by kernel_rfl) trivial) dendronlaw12_SaabasAdds_l11 K0
theorem ok3 {T : Told} (H : Hands T) : CtrOk T Tryd.prog 3 c3 :=
 fn_ok H.ty (n3 H) hm (lh := dendronlaw12_SaabasAdds_lh) (ct := c3) (dcd := fun y => (y.2.1)) Tryd.func3 (by kernel_rfl) (by rfl) (LHok_of (l := [(.loop (loopAt 11 (bodyOf Tryd.f3) .skip), ⟨dendronlaw12_SaabasAdds_i11, dendronlaw12_SaabasAdds_o11, lp dendronlaw12_SaabasAdds_s11 K0⟩)]) (by kernel_rfl) ⟨dendronlaw12_SaabasAdds_p11 H, trivial⟩) (by decide) (fun _ => rfl) (fun x r h => (dendronlaw12_SaabasAdds_eq x.1 x.2.1).trans h)
theorem n60 {T : Told} (H : Hands T) : EnvOk T Tryd.prog (envL e60) := envL_ok (l := e60) ⟨ok27 H, trivial⟩
theorem ok60 {T : Told} (H : Hands T) : CtrOk T Tryd.prog 60 c60 :=
 fn_ok H.ty (n60 H) hm (lh := depend_feature_lh) (ct := c60) (dcd := fun y => (y.2.1)) Tryd.func60 (by kernel_rfl) (by rfl) (LHok_of (l := []) (by kernel_rfl) trivial) (by decide) (fun _ => rfl) (fun x r h => (depend_feature_eq x.1 x.2.1).trans h)
theorem n21 {T : Told} (H : Hands T) : EnvOk T Tryd.prog (envL e21) := envL_ok (l := e21) ⟨ok60 H, trivial⟩
theorem depend_Unasked_p8 {T : Told} (H : Hands T) : PieceOk T Tryd.prog 41 (.loop (loopAt 8 (bodyOf Tryd.f21) .skip)) ⟨depend_Unasked_i8, depend_Unasked_o8, lp depend_Unasked_s8 K0⟩ :=
 loop_piece H.ty (n21 H) hm (LHok_of (l := []) (by kernel_rfl) trivial) depend_Unasked_l8 K0
theorem depend_Unasked_p5 {T : Told} (H : Hands T) : PieceOk T Tryd.prog 41 (.loop (loopAt 5 (bodyOf Tryd.f21) .skip)) ⟨depend_Unasked_i5, depend_Unasked_o5, lp depend_Unasked_s5 K0⟩ :=
 loop_piece H.ty (n21 H) hm (LHok_of (l := [(.loop (loopAt 8 (bodyOf Tryd.f21) .skip), ⟨depend_Unasked_i8, depend_Unasked_o8, lp depend_Unasked_s8 K0⟩)]) (by kernel_rfl) ⟨depend_Unasked_p8 H, trivial⟩) depend_Unasked_l5 K0
theorem ok21 {T : Told} (H : Hands T) : CtrOk T Tryd.prog 21 c21 :=
 fn_ok H.ty (n21 H) hm (lh := depend_Unasked_lh) (ct := c21) (dcd := fun y => (y.2.1, y.2.2.1)) Tryd.func21 (by kernel_rfl) (by rfl) (LHok_of (l := [(.loop (loopAt 5 (bodyOf Tryd.f21) .skip), ⟨depend_Unasked_i5, depend_Unasked_o5, lp depend_Unasked_s5 K0⟩)]) (by kernel_rfl) ⟨depend_Unasked_p5 H, trivial⟩) (by decide) (fun _ => rfl) (fun x r h => (depend_Unasked_eq x.1 x.2.1).trans h)
theorem n22 {T : Told} (H : Hands T) : EnvOk T Tryd.prog (envL e22) := envL_ok (l := e22) ⟨ok27 H, trivial⟩
theorem ok22 {T : Told} (H : Hands T) : CtrOk T Tryd.prog 22 c22 :=
 fn_ok H.ty (n22 H) hm (lh := dendronlaw13_why_lh) (ct := c22) (dcd := fun y => (y.2.1)) Tryd.func22 (by kernel_rfl) (by rfl) (LHok_of (l := []) (by kernel_rfl) trivial) (by decide) (fun _ => rfl) (fun x r h => (dendronlaw13_why_eq x.1 x.2.1).trans h)
theorem n61 {T : Told} (H : Hands T) : EnvOk T Tryd.prog (envL e61) := envL_ok (l := e61) ⟨ok56 H, trivial⟩
theorem depend_At_p3 {T : Told} (H : Hands T) : PieceOk T Tryd.prog 22 (.loop (loopAt 3 (bodyOf Tryd.f61) .skip)) ⟨depend_At_i3, depend_At_o3, lp depend_At_s3 K0⟩ :=
 loop_piece H.ty (n61 H) hm (LHok_of (l := []) (by kernel_rfl) trivial) depend_At_l3 K0
theorem ok61 {T : Told} (H : Hands T) : CtrOk T Tryd.prog 61 c61 :=
 fn_ok H.ty (n61 H) hm (lh := depend_At_lh) (ct := c61) (dcd := fun y => (y.2.1)) Tryd.func61 (by kernel_rfl) (by rfl) (LHok_of (l := [(.loop (loopAt 3 (bodyOf Tryd.f61) .skip), ⟨depend_At_i3, depend_At_o3, lp depend_At_s3 K0⟩)]) (by kernel_rfl) ⟨depend_At_p3 H, trivial⟩) (by decide) (fun _ => rfl) (fun x r h => (depend_At_eq x.1 x.2.1).trans h)
theorem n23 {T : Told} (H : Hands T) : EnvOk T Tryd.prog (envL e23) := envL_ok (l := e23) ⟨ok47 H, ok49 H, ok61 H, trivial⟩
theorem dendronlaw13_awake_cF {r} (h : c23.F () = r) : dendronlaw13_awake = r := by
 subst h
 delta c23
 exact (@F_in [] _ _ (fun _ => dendronlaw13_awake) _ _ () _ rfl).symm
theorem dendronlaw13_awake_fx (x) (r : c23.T) (h : c23.F x = some r) : fnF tb (envL e23) Tryd.f23 dendronlaw13_awake_lh c23.ps c23.rs (T := c23.T) (fun y => (y.2.1)) x = some r := by
 cases x
 exact dendronlaw13_awake_eq.trans (dendronlaw13_awake_cF h)
theorem ok23 {T : Told} (H : Hands T) : CtrOk T Tryd.prog 23 c23 :=
 fn_ok H.ty (n23 H) hm (lh := dendronlaw13_awake_lh) (ct := c23) (dcd := fun y => (y.2.1)) Tryd.func23 (by kernel_rfl) (by rfl) (LHok_of (l := []) (by kernel_rfl) trivial) (by decide) (fun _ => rfl) (fun x r h => dendronlaw13_awake_fx x r h)
theorem n24 {T : Told} (H : Hands T) : EnvOk T Tryd.prog (envL e24) := envL_ok (l := e24) ⟨ok53 H, ok60 H, trivial⟩
theorem ok24 {T : Told} (H : Hands T) : CtrOk T Tryd.prog 24 c24 :=
 fn_ok H.ty (n24 H) hm (lh := depend_Cover_lh) (ct := c24) (dcd := fun y => (y.2.1, y.2.2.1)) Tryd.func24 (by kernel_rfl) (by rfl) (LHok_of (l := []) (by kernel_rfl) trivial) (by decide) (fun _ => rfl) (fun x r h => (depend_Cover_eq x.1 x.2.1 x.2.2.1).trans h)
theorem n4 {T : Told} (H : Hands T) : EnvOk T Tryd.prog (envL e4) := envL_ok (l := e4) ⟨ok13 H, ok14 H, ok16 H, ok19 H, ok20 H, ok21 H, ok22 H, ok23 H, ok24 H, trivial⟩
theorem ok4 {T : Told} (H : Hands T) : CtrOk T Tryd.prog 4 c4 :=
 fn_ok H.ty (n4 H) hm (lh := dendronlaw13_DependUnasked_lh) (ct := c4) (dcd := fun y => (y.2.1)) Tryd.func4 (by kernel_rfl) (by rfl) (LHok_of (l := []) (by kernel_rfl) trivial) (by decide) (fun _ => rfl) (fun x r h => (dendronlaw13_DependUnasked_eq x.1 x.2.1 x.2.2.1).trans h)
end Go.Proofs.YtjjgbpeapgmhoaaDoor.X
