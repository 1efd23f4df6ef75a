/- Each function does what is known of it. Printed by a program of our own. -/
import Derived.Test.YtaonkcmflkmncaaDoorLa9
import Derived.Test.YtaonkcmflkmncaaDoorLa12

namespace Go.Proofs.YtaonkcmflkmncaaDoor.X
open Go
set_option linter.unusedSimpArgs false
set_option linter.unusedVariables false
set_option maxRecDepth 100000

theorem F_in {ps : List (Ty × PM)} {rs : List (Ty × Bool)} {T : Type} {F : HL (fsts ps) → Option T} {enc : T → HL (lents ps) × HL (fsts rs)} {wi : Option Wir} (x : HL (fsts ps)) {r : Option T} (h : F x = r) : (Ctr.mk ps rs T F enc wi).F x = r := h
theorem hm : Tryd.prog.follows .mixedOrders = true := by kernel_rfl
/-- What the printed texts do not show. -/
structure Hands (T : Told) : Prop where
  ty : TbOk Tryd.prog tb
  h63 : CtrOk T Tryd.prog 63 c63
  h68 : CtrOk T Tryd.prog 68 c68

theorem n20 {T : Told} (H : Hands T) : EnvOk T Tryd.prog (envL e20) := envL_ok (l := e20) trivial

theorem ok20 {T : Told} (H : Hands T) : CtrOk T Tryd.prog 20 c20 :=
  fn_ok H.ty (n20 H) hm (lh := dendronlaw09_number_lh) (ct := c20) (dcd := fun y => (y.2.1)) Tryd.func20 (by kernel_rfl) (by rfl) (LHok_of (l := []) (by kernel_rfl) trivial) (by decide) (fun _ => rfl) (fun x r h => (dendronlaw09_number_eq x.1).trans h)

theorem n9 {T : Told} (H : Hands T) : EnvOk T Tryd.prog (envL e9) := envL_ok (l := e9) ⟨ok20 H, trivial⟩

theorem dendronlaw09_Few_p3 {T : Told} (H : Hands T) : PieceOk T Tryd.prog 32 (.loop (loopAt 3 (bodyOf Tryd.f9) .skip)) ⟨dendronlaw09_Few_i3, dendronlaw09_Few_o3, lp dendronlaw09_Few_s3 K0⟩ :=
  loop_piece H.ty (n9 H) hm (LHok_of (l := []) (by kernel_rfl) trivial) dendronlaw09_Few_l3 K0

theorem ok9 {T : Told} (H : Hands T) : CtrOk T Tryd.prog 9 c9 :=
  fn_ok H.ty (n9 H) hm (lh := dendronlaw09_Few_lh) (ct := c9) (dcd := fun y => (y.2.1)) Tryd.func9 (by kernel_rfl) (by rfl) (LHok_of (l := [(.loop (loopAt 3 (bodyOf Tryd.f9) .skip), ⟨dendronlaw09_Few_i3, dendronlaw09_Few_o3, lp dendronlaw09_Few_s3 K0⟩)]) (by kernel_rfl) ⟨dendronlaw09_Few_p3 H, trivial⟩) (by decide) (fun _ => rfl) (fun x r h => (dendronlaw09_Few_eq x.1 x.2.1).trans h)

theorem n4 {T : Told} (H : Hands T) : EnvOk T Tryd.prog (envL e4) := envL_ok (l := e4) ⟨ok9 H, trivial⟩

theorem dendronlaw16_leg_p3 {T : Told} (H : Hands T) : PieceOk T Tryd.prog 39 (.loop (loopAt 3 (bodyOf Tryd.f4) .skip)) ⟨dendronlaw16_leg_i3, dendronlaw16_leg_o3, lp dendronlaw16_leg_s3 K0⟩ :=
  loop_piece H.ty (n4 H) hm (LHok_of (l := []) (by kernel_rfl) trivial) dendronlaw16_leg_l3 K0

theorem ok4 {T : Told} (H : Hands T) : CtrOk T Tryd.prog 4 c4 :=
  fn_ok H.ty (n4 H) hm (lh := dendronlaw16_leg_lh) (ct := c4) (dcd := fun y => (y.2.1)) Tryd.func4 (by kernel_rfl) (by rfl) (LHok_of (l := [(.loop (loopAt 3 (bodyOf Tryd.f4) .skip), ⟨dendronlaw16_leg_i3, dendronlaw16_leg_o3, lp dendronlaw16_leg_s3 K0⟩)]) (by kernel_rfl) ⟨dendronlaw16_leg_p3 H, trivial⟩) (by decide) (fun _ => rfl) (fun x r h => (dendronlaw16_leg_eq x.1).trans h)

theorem n44 {T : Told} (H : Hands T) : EnvOk T Tryd.prog (envL e44) := envL_ok (l := e44) trivial

theorem nat_trim_p2 {T : Told} (H : Hands T) : PieceOk T Tryd.prog 23 (.loop (loopAt 2 (bodyOf Tryd.f44) .skip)) ⟨nat_trim_i2, nat_trim_o2, lp nat_trim_s2 K0⟩ :=
  loop_piece H.ty (n44 H) hm (LHok_of (l := []) (by kernel_rfl) trivial) nat_trim_l2 K0

theorem ok44 {T : Told} (H : Hands T) : CtrOk T Tryd.prog 44 c44 :=
  fn_ok H.ty (n44 H) hm (lh := nat_trim_lh) (ct := c44) (dcd := fun y => (y.2.1)) Tryd.func44 (by kernel_rfl) (by rfl) (LHok_of (l := [(.loop (loopAt 2 (bodyOf Tryd.f44) .skip), ⟨nat_trim_i2, nat_trim_o2, lp nat_trim_s2 K0⟩)]) (by kernel_rfl) ⟨nat_trim_p2 H, trivial⟩) (by decide) (fun _ => rfl) (fun x r h => (nat_trim_eq x.1).trans h)

theorem n30 {T : Told} (H : Hands T) : EnvOk T Tryd.prog (envL e30) := envL_ok (l := e30) ⟨ok44 H, trivial⟩

theorem ok30 {T : Told} (H : Hands T) : CtrOk T Tryd.prog 30 c30 :=
  fn_ok H.ty (n30 H) hm (lh := nat_Of_lh) (ct := c30) (dcd := fun y => (y.2.1)) Tryd.func30 (by kernel_rfl) (by rfl) (LHok_of (l := []) (by kernel_rfl) trivial) (by decide) (fun _ => rfl) (fun x r h => (nat_Of_eq x.1).trans h)

theorem n16 {T : Told} (H : Hands T) : EnvOk T Tryd.prog (envL e16) := envL_ok (l := e16) ⟨ok30 H, trivial⟩

theorem ok16 {T : Told} (H : Hands T) : CtrOk T Tryd.prog 16 c16 :=
  fn_ok H.ty (n16 H) hm (lh := ratio_Zero_lh) (ct := c16) (dcd := fun y => (y.2.1)) Tryd.func16 (by kernel_rfl) (by rfl) (LHok_of (l := []) (by kernel_rfl) trivial) (by decide) (fun _ => rfl) (fun x r h => (ratio_Zero_eq ).trans h)

theorem n39 {T : Told} (H : Hands T) : EnvOk T Tryd.prog (envL e39) := envL_ok (l := e39) ⟨ok44 H, trivial⟩

theorem nat_Clean_p3 {T : Told} (H : Hands T) : PieceOk T Tryd.prog 24 (.loop (loopAt 3 (bodyOf Tryd.f39) .skip)) ⟨nat_Clean_i3, nat_Clean_o3, lp nat_Clean_s3 K0⟩ :=
  loop_piece H.ty (n39 H) hm (LHok_of (l := []) (by kernel_rfl) trivial) nat_Clean_l3 K0

theorem ok39 {T : Told} (H : Hands T) : CtrOk T Tryd.prog 39 c39 :=
  fn_ok H.ty (n39 H) hm (lh := nat_Clean_lh) (ct := c39) (dcd := fun y => (y.2.1)) Tryd.func39 (by kernel_rfl) (by rfl) (LHok_of (l := [(.loop (loopAt 3 (bodyOf Tryd.f39) .skip), ⟨nat_Clean_i3, nat_Clean_o3, lp nat_Clean_s3 K0⟩)]) (by kernel_rfl) ⟨nat_Clean_p3 H, trivial⟩) (by decide) (fun _ => rfl) (fun x r h => (nat_Clean_eq x.1).trans h)

theorem n62 {T : Told} (H : Hands T) : EnvOk T Tryd.prog (envL e62) := envL_ok (l := e62) ⟨ok39 H, trivial⟩

theorem ok62 {T : Told} (H : Hands T) : CtrOk T Tryd.prog 62 c62 :=
  fn_ok H.ty (n62 H) hm (lh := nat_To_lh) (ct := c62) (dcd := fun y => (y.2.1, y.2.2.1)) Tryd.func62 (by kernel_rfl) (by rfl) (LHok_of (l := []) (by kernel_rfl) trivial) (by decide) (fun _ => rfl) (fun x r h => (nat_To_eq x.1).trans h)

theorem n51 {T : Told} (H : Hands T) : EnvOk T Tryd.prog (envL e51) := envL_ok (l := e51) ⟨ok30 H, ok62 H, trivial⟩

theorem nat_euclid_p3 {T : Told} (H : Hands T) : PieceOk T Tryd.prog 27 (.loop (loopAt 3 (bodyOf Tryd.f51) .skip)) ⟨nat_euclid_i3, nat_euclid_o3, lp nat_euclid_s3 K0⟩ :=
  loop_piece H.ty (n51 H) hm (LHok_of (l := []) (by kernel_rfl) trivial) nat_euclid_l3 K0

theorem ok51 {T : Told} (H : Hands T) : CtrOk T Tryd.prog 51 c51 :=
  fn_ok H.ty (n51 H) hm (lh := nat_euclid_lh) (ct := c51) (dcd := fun y => (y.2.1)) Tryd.func51 (by kernel_rfl) (by rfl) (LHok_of (l := [(.loop (loopAt 3 (bodyOf Tryd.f51) .skip), ⟨nat_euclid_i3, nat_euclid_o3, lp nat_euclid_s3 K0⟩)]) (by kernel_rfl) ⟨nat_euclid_p3 H, trivial⟩) (by decide) (fun _ => rfl) (fun x r h => (nat_euclid_eq x.1 x.2.1).trans h)

theorem n52 {T : Told} (H : Hands T) : EnvOk T Tryd.prog (envL e52) := envL_ok (l := e52) ⟨H.h63, trivial⟩

theorem nat_zeros_p3 {T : Told} (H : Hands T) : PieceOk T Tryd.prog 24 (.loop (loopAt 3 (bodyOf Tryd.f52) .skip)) ⟨nat_zeros_i3, nat_zeros_o3, lp nat_zeros_s3 K0⟩ :=
  loop_piece H.ty (n52 H) hm (LHok_of (l := []) (by kernel_rfl) trivial) nat_zeros_l3 K0

theorem ok52 {T : Told} (H : Hands T) : CtrOk T Tryd.prog 52 c52 :=
  fn_ok H.ty (n52 H) hm (lh := nat_zeros_lh) (ct := c52) (dcd := fun y => (y.2.1)) Tryd.func52 (by kernel_rfl) (by rfl) (LHok_of (l := [(.loop (loopAt 3 (bodyOf Tryd.f52) .skip), ⟨nat_zeros_i3, nat_zeros_o3, lp nat_zeros_s3 K0⟩)]) (by kernel_rfl) ⟨nat_zeros_p3 H, trivial⟩) (by decide) (fun _ => rfl) (fun x r h => (nat_zeros_eq x.1).trans h)

theorem n60 {T : Told} (H : Hands T) : EnvOk T Tryd.prog (envL e60) := envL_ok (l := e60) trivial

theorem ok60 {T : Told} (H : Hands T) : CtrOk T Tryd.prog 60 c60 :=
  fn_ok H.ty (n60 H) hm (lh := nat_limb_lh) (ct := c60) (dcd := fun y => (y.2.1)) Tryd.func60 (by kernel_rfl) (by rfl) (LHok_of (l := []) (by kernel_rfl) trivial) (by decide) (fun _ => rfl) (fun x r h => (nat_limb_eq x.1 x.2.1).trans h)

theorem n53 {T : Told} (H : Hands T) : EnvOk T Tryd.prog (envL e53) := envL_ok (l := e53) ⟨ok44 H, ok60 H, trivial⟩

theorem nat_shr_p6 {T : Told} (H : Hands T) : PieceOk T Tryd.prog 50 (.loop (loopAt 6 (bodyOf Tryd.f53) .skip)) ⟨nat_shr_i6, nat_shr_o6, lp nat_shr_s6 K0⟩ :=
  loop_piece H.ty (n53 H) hm (LHok_of (l := []) (by kernel_rfl) trivial) nat_shr_l6 K0

theorem ok53 {T : Told} (H : Hands T) : CtrOk T Tryd.prog 53 c53 :=
  fn_ok H.ty (n53 H) hm (lh := nat_shr_lh) (ct := c53) (dcd := fun y => (y.2.1)) Tryd.func53 (by kernel_rfl) (by rfl) (LHok_of (l := [(.loop (loopAt 6 (bodyOf Tryd.f53) .skip), ⟨nat_shr_i6, nat_shr_o6, lp nat_shr_s6 K0⟩)]) (by kernel_rfl) ⟨nat_shr_p6 H, trivial⟩) (by decide) (fun _ => rfl) (fun x r h => (nat_shr_eq x.1 x.2.1).trans h)

theorem n54 {T : Told} (H : Hands T) : EnvOk T Tryd.prog (envL e54) := envL_ok (l := e54) trivial

theorem nat_order_p6 {T : Told} (H : Hands T) : PieceOk T Tryd.prog 45 (.loop (loopAt 6 (bodyOf Tryd.f54) .skip)) ⟨nat_order_i6, nat_order_o6, lp nat_order_s6 K0⟩ :=
  loop_piece H.ty (n54 H) hm (LHok_of (l := []) (by kernel_rfl) trivial) nat_order_l6 K0

theorem ok54 {T : Told} (H : Hands T) : CtrOk T Tryd.prog 54 c54 :=
  fn_ok H.ty (n54 H) hm (lh := nat_order_lh) (ct := c54) (dcd := fun y => (y.2.1)) Tryd.func54 (by kernel_rfl) (by rfl) (LHok_of (l := [(.loop (loopAt 6 (bodyOf Tryd.f54) .skip), ⟨nat_order_i6, nat_order_o6, lp nat_order_s6 K0⟩)]) (by kernel_rfl) ⟨nat_order_p6 H, trivial⟩) (by decide) (fun _ => rfl) (fun x r h => (nat_order_eq x.1 x.2.1).trans h)

theorem n55 {T : Told} (H : Hands T) : EnvOk T Tryd.prog (envL e55) := envL_ok (l := e55) ⟨ok44 H, trivial⟩

theorem nat_shl_p4 {T : Told} (H : Hands T) : PieceOk T Tryd.prog 51 (.loop (loopAt 4 (bodyOf Tryd.f55) .skip)) ⟨nat_shl_i4, nat_shl_o4, lp nat_shl_s4 K0⟩ :=
  loop_piece H.ty (n55 H) hm (LHok_of (l := []) (by kernel_rfl) trivial) nat_shl_l4 K0

theorem ok55 {T : Told} (H : Hands T) : CtrOk T Tryd.prog 55 c55 :=
  fn_ok H.ty (n55 H) hm (lh := nat_shl_lh) (ct := c55) (dcd := fun y => (y.2.1)) Tryd.func55 (by kernel_rfl) (by rfl) (LHok_of (l := [(.loop (loopAt 4 (bodyOf Tryd.f55) .skip), ⟨nat_shl_i4, nat_shl_o4, lp nat_shl_s4 K0⟩)]) (by kernel_rfl) ⟨nat_shl_p4 H, trivial⟩) (by decide) (fun _ => rfl) (fun x r h => (nat_shl_eq x.1 x.2.1).trans h)

theorem n58 {T : Told} (H : Hands T) : EnvOk T Tryd.prog (envL e58) := envL_ok (l := e58) ⟨ok44 H, trivial⟩

theorem nat_small_p4 {T : Told} (H : Hands T) : PieceOk T Tryd.prog 38 (.loop (loopAt 4 (bodyOf Tryd.f58) .skip)) ⟨nat_small_i4, nat_small_o4, lp nat_small_s4 K0⟩ :=
  loop_piece H.ty (n58 H) hm (LHok_of (l := []) (by kernel_rfl) trivial) nat_small_l4 K0

theorem ok58 {T : Told} (H : Hands T) : CtrOk T Tryd.prog 58 c58 :=
  fn_ok H.ty (n58 H) hm (lh := nat_small_lh) (ct := c58) (dcd := fun y => (y.2.1, y.2.2.1)) Tryd.func58 (by kernel_rfl) (by rfl) (LHok_of (l := [(.loop (loopAt 4 (bodyOf Tryd.f58) .skip), ⟨nat_small_i4, nat_small_o4, lp nat_small_s4 K0⟩)]) (by kernel_rfl) ⟨nat_small_p4 H, trivial⟩) (by decide) (fun _ => rfl) (fun x r h => (nat_small_eq x.1 x.2.1).trans h)

theorem n64 {T : Told} (H : Hands T) : EnvOk T Tryd.prog (envL e64) := envL_ok (l := e64) ⟨H.h68, trivial⟩

theorem ok64 {T : Told} (H : Hands T) : CtrOk T Tryd.prog 64 c64 :=
  fn_ok H.ty (n64 H) hm (lh := bits_LeadingZeros32_lh) (ct := c64) (dcd := fun y => (y.2.1)) Tryd.func64 (by kernel_rfl) (by rfl) (LHok_of (l := []) (by kernel_rfl) trivial) (by decide) (fun _ => rfl) (fun x r h => (bits_LeadingZeros32_eq x.1).trans h)

theorem n69 {T : Told} (H : Hands T) : EnvOk T Tryd.prog (envL e69) := envL_ok (l := e69) ⟨ok60 H, trivial⟩

theorem nat_take_p3 {T : Told} (H : Hands T) : PieceOk T Tryd.prog 46 (.loop (loopAt 3 (bodyOf Tryd.f69) .skip)) ⟨nat_take_i3, nat_take_o3, lp nat_take_s3 K0⟩ :=
  loop_piece H.ty (n69 H) hm (LHok_of (l := []) (by kernel_rfl) trivial) nat_take_l3 K0

theorem ok69 {T : Told} (H : Hands T) : CtrOk T Tryd.prog 69 c69 :=
  fn_ok H.ty (n69 H) hm (lh := nat_take_lh) (ct := c69) (dcd := fun y => (y.1.1, y.2.1)) Tryd.func69 (by kernel_rfl) (by rfl) (LHok_of (l := [(.loop (loopAt 3 (bodyOf Tryd.f69) .skip), ⟨nat_take_i3, nat_take_o3, lp nat_take_s3 K0⟩)]) (by kernel_rfl) ⟨nat_take_p3 H, trivial⟩) (by decide) (fun _ => rfl) (fun x r h => (nat_take_eq x.1 x.2.1 x.2.2.1).trans h)

theorem n70 {T : Told} (H : Hands T) : EnvOk T Tryd.prog (envL e70) := envL_ok (l := e70) ⟨ok60 H, trivial⟩

theorem nat_give_p2 {T : Told} (H : Hands T) : PieceOk T Tryd.prog 29 (.loop (loopAt 2 (bodyOf Tryd.f70) .skip)) ⟨nat_give_i2, nat_give_o2, lp nat_give_s2 K0⟩ :=
  loop_piece H.ty (n70 H) hm (LHok_of (l := []) (by kernel_rfl) trivial) nat_give_l2 K0

theorem ok70 {T : Told} (H : Hands T) : CtrOk T Tryd.prog 70 c70 :=
  fn_ok H.ty (n70 H) hm (lh := nat_give_lh) (ct := c70) (dcd := fun y => (y.1.1)) Tryd.func70 (by kernel_rfl) (by rfl) (LHok_of (l := [(.loop (loopAt 2 (bodyOf Tryd.f70) .skip), ⟨nat_give_i2, nat_give_o2, lp nat_give_s2 K0⟩)]) (by kernel_rfl) ⟨nat_give_p2 H, trivial⟩) (by decide) (fun _ => rfl) (fun x r h => (nat_give_eq x.1 x.2.1).trans h)

theorem n65 {T : Told} (H : Hands T) : EnvOk T Tryd.prog (envL e65) := envL_ok (l := e65) ⟨ok69 H, ok70 H, trivial⟩

theorem nat_digit_p4 {T : Told} (H : Hands T) : PieceOk T Tryd.prog 77 (.loop (loopAt 4 (bodyOf Tryd.f65) .skip)) ⟨nat_digit_i4, nat_digit_o4, lp nat_digit_s4 K0⟩ :=
  loop_piece H.ty (n65 H) hm (LHok_of (l := []) (by kernel_rfl) trivial) nat_digit_l4 K0

theorem ok65 {T : Told} (H : Hands T) : CtrOk T Tryd.prog 65 c65 :=
  fn_ok H.ty (n65 H) hm (lh := nat_digit_lh) (ct := c65) (dcd := fun y => (y.1.1, y.2.1)) Tryd.func65 (by kernel_rfl) (by rfl) (LHok_of (l := [(.loop (loopAt 4 (bodyOf Tryd.f65) .skip), ⟨nat_digit_i4, nat_digit_o4, lp nat_digit_s4 K0⟩)]) (by kernel_rfl) ⟨nat_digit_p4 H, trivial⟩) (by decide) (fun _ => rfl) (fun x r h => (nat_digit_eq x.1 x.2.1).trans h)

theorem n59 {T : Told} (H : Hands T) : EnvOk T Tryd.prog (envL e59) := envL_ok (l := e59) ⟨ok44 H, ok53 H, ok55 H, ok64 H, ok65 H, trivial⟩

theorem nat_long_p7 {T : Told} (H : Hands T) : PieceOk T Tryd.prog 64 (.loop (loopAt 7 (bodyOf Tryd.f59) .skip)) ⟨nat_long_i7, nat_long_o7, lp nat_long_s7 K0⟩ :=
  loop_piece H.ty (n59 H) hm (LHok_of (l := []) (by kernel_rfl) trivial) nat_long_l7 K0

theorem ok59 {T : Told} (H : Hands T) : CtrOk T Tryd.prog 59 c59 :=
  fn_ok H.ty (n59 H) hm (lh := nat_long_lh) (ct := c59) (dcd := fun y => (y.2.1, y.2.2.1)) Tryd.func59 (by kernel_rfl) (by rfl) (LHok_of (l := [(.loop (loopAt 7 (bodyOf Tryd.f59) .skip), ⟨nat_long_i7, nat_long_o7, lp nat_long_s7 K0⟩)]) (by kernel_rfl) ⟨nat_long_p7 H, trivial⟩) (by decide) (fun _ => rfl) (fun x r h => (nat_long_eq x.1 x.2.1).trans h)

theorem n42 {T : Told} (H : Hands T) : EnvOk T Tryd.prog (envL e42) := envL_ok (l := e42) ⟨ok30 H, ok39 H, ok54 H, ok58 H, ok59 H, trivial⟩

theorem ok42 {T : Told} (H : Hands T) : CtrOk T Tryd.prog 42 c42 :=
  fn_ok H.ty (n42 H) hm (lh := nat_DivMod_lh) (ct := c42) (dcd := fun y => (y.2.1, y.2.2.1, y.2.2.2.1)) Tryd.func42 (by kernel_rfl) (by rfl) (LHok_of (l := []) (by kernel_rfl) trivial) (by decide) (fun _ => rfl) (fun x r h => (nat_DivMod_eq x.1 x.2.1).trans h)

theorem n56 {T : Told} (H : Hands T) : EnvOk T Tryd.prog (envL e56) := envL_ok (l := e56) ⟨ok42 H, trivial⟩

theorem ok56 {T : Told} (H : Hands T) : CtrOk T Tryd.prog 56 c56 :=
  fn_ok H.ty (n56 H) hm (lh := nat_rest_lh) (ct := c56) (dcd := fun y => (y.2.1, y.2.2.1)) Tryd.func56 (by kernel_rfl) (by rfl) (LHok_of (l := []) (by kernel_rfl) trivial) (by decide) (fun _ => rfl) (fun x r h => (nat_rest_eq x.1 x.2.1).trans h)

theorem n57 {T : Told} (H : Hands T) : EnvOk T Tryd.prog (envL e57) := envL_ok (l := e57) ⟨ok44 H, ok60 H, trivial⟩

theorem nat_minus_p4 {T : Told} (H : Hands T) : PieceOk T Tryd.prog 39 (.loop (loopAt 4 (bodyOf Tryd.f57) .skip)) ⟨nat_minus_i4, nat_minus_o4, lp nat_minus_s4 K0⟩ :=
  loop_piece H.ty (n57 H) hm (LHok_of (l := []) (by kernel_rfl) trivial) nat_minus_l4 K0

theorem ok57 {T : Told} (H : Hands T) : CtrOk T Tryd.prog 57 c57 :=
  fn_ok H.ty (n57 H) hm (lh := nat_minus_lh) (ct := c57) (dcd := fun y => (y.2.1)) Tryd.func57 (by kernel_rfl) (by rfl) (LHok_of (l := [(.loop (loopAt 4 (bodyOf Tryd.f57) .skip), ⟨nat_minus_i4, nat_minus_o4, lp nat_minus_s4 K0⟩)]) (by kernel_rfl) ⟨nat_minus_p4 H, trivial⟩) (by decide) (fun _ => rfl) (fun x r h => (nat_minus_eq x.1 x.2.1).trans h)

theorem n41 {T : Told} (H : Hands T) : EnvOk T Tryd.prog (envL e41) := envL_ok (l := e41) ⟨ok39 H, ok51 H, ok52 H, ok53 H, ok54 H, ok55 H, ok56 H, ok57 H, trivial⟩

theorem nat_Gcd_p10 {T : Told} (H : Hands T) : PieceOk T Tryd.prog 86 (.loop (loopAt 10 (bodyOf Tryd.f41) .skip)) ⟨nat_Gcd_i10, nat_Gcd_o10, lp nat_Gcd_s10 K0⟩ :=
  loop_piece H.ty (n41 H) hm (LHok_of (l := []) (by kernel_rfl) trivial) nat_Gcd_l10 K0

theorem ok41 {T : Told} (H : Hands T) : CtrOk T Tryd.prog 41 c41 :=
  fn_ok H.ty (n41 H) hm (lh := nat_Gcd_lh) (ct := c41) (dcd := fun y => (y.2.1)) Tryd.func41 (by kernel_rfl) (by rfl) (LHok_of (l := [(.loop (loopAt 10 (bodyOf Tryd.f41) .skip), ⟨nat_Gcd_i10, nat_Gcd_o10, lp nat_Gcd_s10 K0⟩)]) (by kernel_rfl) ⟨nat_Gcd_p10 H, trivial⟩) (by decide) (fun _ => rfl) (fun x r h => (nat_Gcd_eq x.1 x.2.1).trans h)

theorem n27 {T : Told} (H : Hands T) : EnvOk T Tryd.prog (envL e27) := envL_ok (l := e27) ⟨ok30 H, ok41 H, ok42 H, trivial⟩

theorem ok27 {T : Told} (H : Hands T) : CtrOk T Tryd.prog 27 c27 :=
  fn_ok H.ty (n27 H) hm (lh := ratio_form_lh) (ct := c27) (dcd := fun y => (y.2.1)) Tryd.func27 (by kernel_rfl) (by rfl) (LHok_of (l := []) (by kernel_rfl) trivial) (by decide) (fun _ => rfl) (fun x r h => (ratio_form_eq x.1 x.2.1).trans h)

theorem n43 {T : Told} (H : Hands T) : EnvOk T Tryd.prog (envL e43) := envL_ok (l := e43) trivial

theorem ok43 {T : Told} (H : Hands T) : CtrOk T Tryd.prog 43 c43 :=
  fn_ok H.ty (n43 H) hm (lh := whole_sign_lh) (ct := c43) (dcd := fun y => (y.2.1)) Tryd.func43 (by kernel_rfl) (by rfl) (LHok_of (l := []) (by kernel_rfl) trivial) (by decide) (fun _ => rfl) (fun x r h => (whole_sign_eq x.1 x.2.1).trans h)

theorem n40 {T : Told} (H : Hands T) : EnvOk T Tryd.prog (envL e40) := envL_ok (l := e40) ⟨ok39 H, ok43 H, trivial⟩

theorem ok40 {T : Told} (H : Hands T) : CtrOk T Tryd.prog 40 c40 :=
  fn_ok H.ty (n40 H) hm (lh := whole_Clean_lh) (ct := c40) (dcd := fun y => (y.2.1)) Tryd.func40 (by kernel_rfl) (by rfl) (LHok_of (l := []) (by kernel_rfl) trivial) (by decide) (fun _ => rfl) (fun x r h => (whole_Clean_eq x.1).trans h)

theorem n26 {T : Told} (H : Hands T) : EnvOk T Tryd.prog (envL e26) := envL_ok (l := e26) ⟨ok16 H, ok27 H, ok39 H, ok40 H, trivial⟩

theorem ok26 {T : Told} (H : Hands T) : CtrOk T Tryd.prog 26 c26 :=
  fn_ok H.ty (n26 H) hm (lh := ratio_Clean_lh) (ct := c26) (dcd := fun y => (y.2.1)) Tryd.func26 (by kernel_rfl) (by rfl) (LHok_of (l := []) (by kernel_rfl) trivial) (by decide) (fun _ => rfl) (fun x r h => (ratio_Clean_eq x.1).trans h)

theorem n29 {T : Told} (H : Hands T) : EnvOk T Tryd.prog (envL e29) := envL_ok (l := e29) ⟨ok39 H, ok44 H, trivial⟩

theorem nat_Mul_p8 {T : Told} (H : Hands T) : PieceOk T Tryd.prog 67 (.loop (loopAt 8 (bodyOf Tryd.f29) .skip)) ⟨nat_Mul_i8, nat_Mul_o8, lp nat_Mul_s8 K0⟩ :=
  loop_piece H.ty (n29 H) hm (LHok_of (l := []) (by kernel_rfl) trivial) nat_Mul_l8 K0

theorem nat_Mul_p4 {T : Told} (H : Hands T) : PieceOk T Tryd.prog 67 (.loop (loopAt 4 (bodyOf Tryd.f29) .skip)) ⟨nat_Mul_i4, nat_Mul_o4, lp nat_Mul_s4 K0⟩ :=
  loop_piece H.ty (n29 H) hm (LHok_of (l := [(.loop (loopAt 8 (bodyOf Tryd.f29) .skip), ⟨nat_Mul_i8, nat_Mul_o8, lp nat_Mul_s8 K0⟩)]) (by kernel_rfl) ⟨nat_Mul_p8 H, trivial⟩) nat_Mul_l4 K0

theorem ok29 {T : Told} (H : Hands T) : CtrOk T Tryd.prog 29 c29 :=
  fn_ok H.ty (n29 H) hm (lh := nat_Mul_lh) (ct := c29) (dcd := fun y => (y.2.1)) Tryd.func29 (by kernel_rfl) (by rfl) (LHok_of (l := [(.loop (loopAt 4 (bodyOf Tryd.f29) .skip), ⟨nat_Mul_i4, nat_Mul_o4, lp nat_Mul_s4 K0⟩)]) (by kernel_rfl) ⟨nat_Mul_p4 H, trivial⟩) (by decide) (fun _ => rfl) (fun x r h => (nat_Mul_eq x.1 x.2.1).trans h)

theorem n28 {T : Told} (H : Hands T) : EnvOk T Tryd.prog (envL e28) := envL_ok (l := e28) ⟨ok29 H, ok40 H, ok43 H, trivial⟩

theorem ok28 {T : Told} (H : Hands T) : CtrOk T Tryd.prog 28 c28 :=
  fn_ok H.ty (n28 H) hm (lh := whole_Mul_lh) (ct := c28) (dcd := fun y => (y.2.1)) Tryd.func28 (by kernel_rfl) (by rfl) (LHok_of (l := []) (by kernel_rfl) trivial) (by decide) (fun _ => rfl) (fun x r h => (whole_Mul_eq x.1 x.2.1).trans h)

theorem n45 {T : Told} (H : Hands T) : EnvOk T Tryd.prog (envL e45) := envL_ok (l := e45) ⟨ok39 H, ok44 H, ok60 H, trivial⟩

theorem nat_Add_p5 {T : Told} (H : Hands T) : PieceOk T Tryd.prog 43 (.loop (loopAt 5 (bodyOf Tryd.f45) .skip)) ⟨nat_Add_i5, nat_Add_o5, lp nat_Add_s5 K0⟩ :=
  loop_piece H.ty (n45 H) hm (LHok_of (l := []) (by kernel_rfl) trivial) nat_Add_l5 K0

theorem ok45 {T : Told} (H : Hands T) : CtrOk T Tryd.prog 45 c45 :=
  fn_ok H.ty (n45 H) hm (lh := nat_Add_lh) (ct := c45) (dcd := fun y => (y.2.1)) Tryd.func45 (by kernel_rfl) (by rfl) (LHok_of (l := [(.loop (loopAt 5 (bodyOf Tryd.f45) .skip), ⟨nat_Add_i5, nat_Add_o5, lp nat_Add_s5 K0⟩)]) (by kernel_rfl) ⟨nat_Add_p5 H, trivial⟩) (by decide) (fun _ => rfl) (fun x r h => (nat_Add_eq x.1 x.2.1).trans h)

theorem n46 {T : Told} (H : Hands T) : EnvOk T Tryd.prog (envL e46) := envL_ok (l := e46) ⟨ok39 H, ok54 H, trivial⟩

theorem ok46 {T : Told} (H : Hands T) : CtrOk T Tryd.prog 46 c46 :=
  fn_ok H.ty (n46 H) hm (lh := nat_Cmp_lh) (ct := c46) (dcd := fun y => (y.2.1)) Tryd.func46 (by kernel_rfl) (by rfl) (LHok_of (l := []) (by kernel_rfl) trivial) (by decide) (fun _ => rfl) (fun x r h => (nat_Cmp_eq x.1 x.2.1).trans h)

theorem n47 {T : Told} (H : Hands T) : EnvOk T Tryd.prog (envL e47) := envL_ok (l := e47) ⟨ok39 H, ok54 H, ok57 H, trivial⟩

theorem ok47 {T : Told} (H : Hands T) : CtrOk T Tryd.prog 47 c47 :=
  fn_ok H.ty (n47 H) hm (lh := nat_Sub_lh) (ct := c47) (dcd := fun y => (y.2.1, y.2.2.1)) Tryd.func47 (by kernel_rfl) (by rfl) (LHok_of (l := []) (by kernel_rfl) trivial) (by decide) (fun _ => rfl) (fun x r h => (nat_Sub_eq x.1 x.2.1).trans h)

theorem n31 {T : Told} (H : Hands T) : EnvOk T Tryd.prog (envL e31) := envL_ok (l := e31) ⟨ok40 H, ok43 H, ok45 H, ok46 H, ok47 H, trivial⟩

theorem ok31 {T : Told} (H : Hands T) : CtrOk T Tryd.prog 31 c31 :=
  fn_ok H.ty (n31 H) hm (lh := whole_Add_lh) (ct := c31) (dcd := fun y => (y.2.1)) Tryd.func31 (by kernel_rfl) (by rfl) (LHok_of (l := []) (by kernel_rfl) trivial) (by decide) (fun _ => rfl) (fun x r h => (whole_Add_eq x.1 x.2.1).trans h)

theorem n32 {T : Told} (H : Hands T) : EnvOk T Tryd.prog (envL e32) := envL_ok (l := e32) trivial

theorem ok32 {T : Told} (H : Hands T) : CtrOk T Tryd.prog 32 c32 :=
  fn_ok H.ty (n32 H) hm (lh := ratio_den_lh) (ct := c32) (dcd := fun y => (y.2.1)) Tryd.func32 (by kernel_rfl) (by rfl) (LHok_of (l := []) (by kernel_rfl) trivial) (by decide) (fun _ => rfl) (fun x r h => (ratio_den_eq x.1).trans h)

theorem n17 {T : Told} (H : Hands T) : EnvOk T Tryd.prog (envL e17) := envL_ok (l := e17) ⟨ok26 H, ok27 H, ok28 H, ok29 H, ok31 H, ok32 H, trivial⟩

theorem ok17 {T : Told} (H : Hands T) : CtrOk T Tryd.prog 17 c17 :=
  fn_ok H.ty (n17 H) hm (lh := ratio_Add_lh) (ct := c17) (dcd := fun y => (y.2.1)) Tryd.func17 (by kernel_rfl) (by rfl) (LHok_of (l := []) (by kernel_rfl) trivial) (by decide) (fun _ => rfl) (fun x r h => (ratio_Add_eq x.1 x.2.1).trans h)

theorem n50 {T : Told} (H : Hands T) : EnvOk T Tryd.prog (envL e50) := envL_ok (l := e50) ⟨ok40 H, trivial⟩

theorem ok50 {T : Told} (H : Hands T) : CtrOk T Tryd.prog 50 c50 :=
  fn_ok H.ty (n50 H) hm (lh := whole_Sign_lh) (ct := c50) (dcd := fun y => (y.2.1)) Tryd.func50 (by kernel_rfl) (by rfl) (LHok_of (l := []) (by kernel_rfl) trivial) (by decide) (fun _ => rfl) (fun x r h => (whole_Sign_eq x.1).trans h)

theorem n38 {T : Told} (H : Hands T) : EnvOk T Tryd.prog (envL e38) := envL_ok (l := e38) ⟨ok26 H, ok50 H, trivial⟩

theorem ok38 {T : Told} (H : Hands T) : CtrOk T Tryd.prog 38 c38 :=
  fn_ok H.ty (n38 H) hm (lh := ratio_Sign_lh) (ct := c38) (dcd := fun y => (y.2.1)) Tryd.func38 (by kernel_rfl) (by rfl) (LHok_of (l := []) (by kernel_rfl) trivial) (by decide) (fun _ => rfl) (fun x r h => (ratio_Sign_eq x.1).trans h)

theorem n25 {T : Told} (H : Hands T) : EnvOk T Tryd.prog (envL e25) := envL_ok (l := e25) ⟨ok38 H, trivial⟩

theorem poly_trim_p2 {T : Told} (H : Hands T) : PieceOk T Tryd.prog 23 (.loop (loopAt 2 (bodyOf Tryd.f25) .skip)) ⟨poly_trim_i2, poly_trim_o2, lp poly_trim_s2 K0⟩ :=
  loop_piece H.ty (n25 H) hm (LHok_of (l := []) (by kernel_rfl) trivial) poly_trim_l2 K0

theorem ok25 {T : Told} (H : Hands T) : CtrOk T Tryd.prog 25 c25 :=
  fn_ok H.ty (n25 H) hm (lh := poly_trim_lh) (ct := c25) (dcd := fun y => (y.2.1)) Tryd.func25 (by kernel_rfl) (by rfl) (LHok_of (l := [(.loop (loopAt 2 (bodyOf Tryd.f25) .skip), ⟨poly_trim_i2, poly_trim_o2, lp poly_trim_s2 K0⟩)]) (by kernel_rfl) ⟨poly_trim_p2 H, trivial⟩) (by decide) (fun _ => rfl) (fun x r h => (poly_trim_eq x.1).trans h)

theorem n36 {T : Told} (H : Hands T) : EnvOk T Tryd.prog (envL e36) := envL_ok (l := e36) ⟨ok16 H, trivial⟩

theorem ok36 {T : Told} (H : Hands T) : CtrOk T Tryd.prog 36 c36 :=
  fn_ok H.ty (n36 H) hm (lh := poly_at_lh) (ct := c36) (dcd := fun y => (y.2.1)) Tryd.func36 (by kernel_rfl) (by rfl) (LHok_of (l := []) (by kernel_rfl) trivial) (by decide) (fun _ => rfl) (fun x r h => (poly_at_eq x.1 x.2.1).trans h)

theorem n21 {T : Told} (H : Hands T) : EnvOk T Tryd.prog (envL e21) := envL_ok (l := e21) ⟨ok17 H, ok25 H, ok36 H, trivial⟩

theorem poly_Add_p3 {T : Told} (H : Hands T) : PieceOk T Tryd.prog 28 (.loop (loopAt 3 (bodyOf Tryd.f21) .skip)) ⟨poly_Add_i3, poly_Add_o3, lp poly_Add_s3 K0⟩ :=
  loop_piece H.ty (n21 H) hm (LHok_of (l := []) (by kernel_rfl) trivial) poly_Add_l3 K0

theorem ok21 {T : Told} (H : Hands T) : CtrOk T Tryd.prog 21 c21 :=
  fn_ok H.ty (n21 H) hm (lh := poly_Add_lh) (ct := c21) (dcd := fun y => (y.2.1)) Tryd.func21 (by kernel_rfl) (by rfl) (LHok_of (l := [(.loop (loopAt 3 (bodyOf Tryd.f21) .skip), ⟨poly_Add_i3, poly_Add_o3, lp poly_Add_s3 K0⟩)]) (by kernel_rfl) ⟨poly_Add_p3 H, trivial⟩) (by decide) (fun _ => rfl) (fun x r h => (poly_Add_eq x.1 x.2.1).trans h)

theorem n15 {T : Told} (H : Hands T) : EnvOk T Tryd.prog (envL e15) := envL_ok (l := e15) ⟨ok26 H, ok27 H, ok28 H, ok29 H, trivial⟩

theorem ok15 {T : Told} (H : Hands T) : CtrOk T Tryd.prog 15 c15 :=
  fn_ok H.ty (n15 H) hm (lh := ratio_Mul_lh) (ct := c15) (dcd := fun y => (y.2.1)) Tryd.func15 (by kernel_rfl) (by rfl) (LHok_of (l := []) (by kernel_rfl) trivial) (by decide) (fun _ => rfl) (fun x r h => (ratio_Mul_eq x.1 x.2.1).trans h)

theorem n22 {T : Told} (H : Hands T) : EnvOk T Tryd.prog (envL e22) := envL_ok (l := e22) ⟨ok15 H, ok25 H, trivial⟩

theorem poly_Scale_p3 {T : Told} (H : Hands T) : PieceOk T Tryd.prog 23 (.loop (loopAt 3 (bodyOf Tryd.f22) .skip)) ⟨poly_Scale_i3, poly_Scale_o3, lp poly_Scale_s3 K0⟩ :=
  loop_piece H.ty (n22 H) hm (LHok_of (l := []) (by kernel_rfl) trivial) poly_Scale_l3 K0

theorem ok22 {T : Told} (H : Hands T) : CtrOk T Tryd.prog 22 c22 :=
  fn_ok H.ty (n22 H) hm (lh := poly_Scale_lh) (ct := c22) (dcd := fun y => (y.2.1)) Tryd.func22 (by kernel_rfl) (by rfl) (LHok_of (l := [(.loop (loopAt 3 (bodyOf Tryd.f22) .skip), ⟨poly_Scale_i3, poly_Scale_o3, lp poly_Scale_s3 K0⟩)]) (by kernel_rfl) ⟨poly_Scale_p3 H, trivial⟩) (by decide) (fun _ => rfl) (fun x r h => (poly_Scale_eq x.1 x.2.1).trans h)

theorem n37 {T : Told} (H : Hands T) : EnvOk T Tryd.prog (envL e37) := envL_ok (l := e37) ⟨ok30 H, ok43 H, trivial⟩

theorem ok37 {T : Told} (H : Hands T) : CtrOk T Tryd.prog 37 c37 :=
  fn_ok H.ty (n37 H) hm (lh := whole_Of_lh) (ct := c37) (dcd := fun y => (y.2.1)) Tryd.func37 (by kernel_rfl) (by rfl) (LHok_of (l := []) (by kernel_rfl) trivial) (by decide) (fun _ => rfl) (fun x r h => (whole_Of_eq x.1).trans h)

theorem n23 {T : Told} (H : Hands T) : EnvOk T Tryd.prog (envL e23) := envL_ok (l := e23) ⟨ok30 H, ok37 H, trivial⟩

theorem ok23 {T : Told} (H : Hands T) : CtrOk T Tryd.prog 23 c23 :=
  fn_ok H.ty (n23 H) hm (lh := ratio_Of_lh) (ct := c23) (dcd := fun y => (y.2.1)) Tryd.func23 (by kernel_rfl) (by rfl) (LHok_of (l := []) (by kernel_rfl) trivial) (by decide) (fun _ => rfl) (fun x r h => (ratio_Of_eq x.1).trans h)

theorem n10 {T : Told} (H : Hands T) : EnvOk T Tryd.prog (envL e10) := envL_ok (l := e10) ⟨ok21 H, ok22 H, ok23 H, trivial⟩

theorem ok10 {T : Told} (H : Hands T) : CtrOk T Tryd.prog 10 c10 :=
  fn_ok H.ty (n10 H) hm (lh := poly_Sub_lh) (ct := c10) (dcd := fun y => (y.2.1)) Tryd.func10 (by kernel_rfl) (by rfl) (LHok_of (l := []) (by kernel_rfl) trivial) (by decide) (fun _ => rfl) (fun x r h => (poly_Sub_eq x.1 x.2.1).trans h)

theorem n5 {T : Told} (H : Hands T) : EnvOk T Tryd.prog (envL e5) := envL_ok (l := e5) ⟨ok10 H, trivial⟩

theorem ok5 {T : Told} (H : Hands T) : CtrOk T Tryd.prog 5 c5 :=
  fn_ok H.ty (n5 H) hm (lh := poly_Same_lh) (ct := c5) (dcd := fun y => (y.2.1)) Tryd.func5 (by kernel_rfl) (by rfl) (LHok_of (l := []) (by kernel_rfl) trivial) (by decide) (fun _ => rfl) (fun x r h => (poly_Same_eq x.1 x.2.1).trans h)

theorem n11 {T : Told} (H : Hands T) : EnvOk T Tryd.prog (envL e11) := envL_ok (l := e11) ⟨ok23 H, trivial⟩

theorem ok11 {T : Told} (H : Hands T) : CtrOk T Tryd.prog 11 c11 :=
  fn_ok H.ty (n11 H) hm (lh := ratio_One_lh) (ct := c11) (dcd := fun y => (y.2.1)) Tryd.func11 (by kernel_rfl) (by rfl) (LHok_of (l := []) (by kernel_rfl) trivial) (by decide) (fun _ => rfl) (fun x r h => (ratio_One_eq ).trans h)

theorem n24 {T : Told} (H : Hands T) : EnvOk T Tryd.prog (envL e24) := envL_ok (l := e24) ⟨ok25 H, ok26 H, trivial⟩

theorem poly_Clean_p3 {T : Told} (H : Hands T) : PieceOk T Tryd.prog 24 (.loop (loopAt 3 (bodyOf Tryd.f24) .skip)) ⟨poly_Clean_i3, poly_Clean_o3, lp poly_Clean_s3 K0⟩ :=
  loop_piece H.ty (n24 H) hm (LHok_of (l := []) (by kernel_rfl) trivial) poly_Clean_l3 K0

theorem ok24 {T : Told} (H : Hands T) : CtrOk T Tryd.prog 24 c24 :=
  fn_ok H.ty (n24 H) hm (lh := poly_Clean_lh) (ct := c24) (dcd := fun y => (y.2.1)) Tryd.func24 (by kernel_rfl) (by rfl) (LHok_of (l := [(.loop (loopAt 3 (bodyOf Tryd.f24) .skip), ⟨poly_Clean_i3, poly_Clean_o3, lp poly_Clean_s3 K0⟩)]) (by kernel_rfl) ⟨poly_Clean_p3 H, trivial⟩) (by decide) (fun _ => rfl) (fun x r h => (poly_Clean_eq x.1).trans h)

theorem n12 {T : Told} (H : Hands T) : EnvOk T Tryd.prog (envL e12) := envL_ok (l := e12) ⟨ok15 H, ok16 H, ok17 H, ok24 H, ok25 H, trivial⟩

theorem poly_Mul_p14 {T : Told} (H : Hands T) : PieceOk T Tryd.prog 73 (.loop (loopAt 14 (bodyOf Tryd.f12) .skip)) ⟨poly_Mul_i14, poly_Mul_o14, lp poly_Mul_s14 K0⟩ :=
  loop_piece H.ty (n12 H) hm (LHok_of (l := []) (by kernel_rfl) trivial) poly_Mul_l14 K0

theorem poly_Mul_p6 {T : Told} (H : Hands T) : PieceOk T Tryd.prog 73 (.loop (loopAt 6 (bodyOf Tryd.f12) .skip)) ⟨poly_Mul_i6, poly_Mul_o6, lp poly_Mul_s6 K0⟩ :=
  loop_piece H.ty (n12 H) hm (LHok_of (l := []) (by kernel_rfl) trivial) poly_Mul_l6 K0

theorem poly_Mul_p11 {T : Told} (H : Hands T) : PieceOk T Tryd.prog 73 (.loop (loopAt 11 (bodyOf Tryd.f12) .skip)) ⟨poly_Mul_i11, poly_Mul_o11, lp poly_Mul_s11 K0⟩ :=
  loop_piece H.ty (n12 H) hm (LHok_of (l := [(.loop (loopAt 14 (bodyOf Tryd.f12) .skip), ⟨poly_Mul_i14, poly_Mul_o14, lp poly_Mul_s14 K0⟩)]) (by kernel_rfl) ⟨poly_Mul_p14 H, trivial⟩) poly_Mul_l11 K0

theorem ok12 {T : Told} (H : Hands T) : CtrOk T Tryd.prog 12 c12 :=
  fn_ok H.ty (n12 H) hm (lh := poly_Mul_lh) (ct := c12) (dcd := fun y => (y.2.1)) Tryd.func12 (by kernel_rfl) (by rfl) (LHok_of (l := [(.loop (loopAt 6 (bodyOf Tryd.f12) .skip), ⟨poly_Mul_i6, poly_Mul_o6, lp poly_Mul_s6 K0⟩), (.loop (loopAt 11 (bodyOf Tryd.f12) .skip), ⟨poly_Mul_i11, poly_Mul_o11, lp poly_Mul_s11 K0⟩)]) (by kernel_rfl) ⟨poly_Mul_p6 H, poly_Mul_p11 H, trivial⟩) (by decide) (fun _ => rfl) (fun x r h => (poly_Mul_eq x.1 x.2.1).trans h)

theorem n13 {T : Told} (H : Hands T) : EnvOk T Tryd.prog (envL e13) := envL_ok (l := e13) ⟨ok11 H, trivial⟩

theorem ok13 {T : Told} (H : Hands T) : CtrOk T Tryd.prog 13 c13 :=
  fn_ok H.ty (n13 H) hm (lh := linear_factor_lh) (ct := c13) (dcd := fun y => (y.2.1)) Tryd.func13 (by kernel_rfl) (by rfl) (LHok_of (l := []) (by kernel_rfl) trivial) (by decide) (fun _ => rfl) (fun x r h => (linear_factor_eq x.1).trans h)

theorem n6 {T : Told} (H : Hands T) : EnvOk T Tryd.prog (envL e6) := envL_ok (l := e6) ⟨ok11 H, ok12 H, ok13 H, trivial⟩

theorem linear_Leaf_p3 {T : Told} (H : Hands T) : PieceOk T Tryd.prog 21 (.loop (loopAt 3 (bodyOf Tryd.f6) .skip)) ⟨linear_Leaf_i3, linear_Leaf_o3, lp linear_Leaf_s3 K0⟩ :=
  loop_piece H.ty (n6 H) hm (LHok_of (l := []) (by kernel_rfl) trivial) linear_Leaf_l3 K0

theorem ok6 {T : Told} (H : Hands T) : CtrOk T Tryd.prog 6 c6 :=
  fn_ok H.ty (n6 H) hm (lh := linear_Leaf_lh) (ct := c6) (dcd := fun y => (y.2.1)) Tryd.func6 (by kernel_rfl) (by rfl) (LHok_of (l := [(.loop (loopAt 3 (bodyOf Tryd.f6) .skip), ⟨linear_Leaf_i3, linear_Leaf_o3, lp linear_Leaf_s3 K0⟩)]) (by kernel_rfl) ⟨linear_Leaf_p3 H, trivial⟩) (by decide) (fun _ => rfl) (fun x r h => (linear_Leaf_eq x.1).trans h)

theorem n14 {T : Told} (H : Hands T) : EnvOk T Tryd.prog (envL e14) := envL_ok (l := e14) trivial

theorem dendronlaw16_in_p2 {T : Told} (H : Hands T) : PieceOk T Tryd.prog 16 (.loop (loopAt 2 (bodyOf Tryd.f14) .skip)) ⟨dendronlaw16_in_i2, dendronlaw16_in_o2, lp dendronlaw16_in_s2 K0⟩ :=
  loop_piece H.ty (n14 H) hm (LHok_of (l := []) (by kernel_rfl) trivial) dendronlaw16_in_l2 K0

theorem ok14 {T : Told} (H : Hands T) : CtrOk T Tryd.prog 14 c14 :=
  fn_ok H.ty (n14 H) hm (lh := dendronlaw16_in_lh) (ct := c14) (dcd := fun y => (y.2.1)) Tryd.func14 (by kernel_rfl) (by rfl) (LHok_of (l := [(.loop (loopAt 2 (bodyOf Tryd.f14) .skip), ⟨dendronlaw16_in_i2, dendronlaw16_in_o2, lp dendronlaw16_in_s2 K0⟩)]) (by kernel_rfl) ⟨dendronlaw16_in_p2 H, trivial⟩) (by decide) (fun _ => rfl) (fun x r h => (dendronlaw16_in_eq x.1 x.2.1).trans h)

theorem n7 {T : Told} (H : Hands T) : EnvOk T Tryd.prog (envL e7) := envL_ok (l := e7) ⟨ok11 H, ok14 H, ok15 H, ok16 H, ok17 H, trivial⟩

theorem dendronlaw16_sums_p14 {T : Told} (H : Hands T) : PieceOk T Tryd.prog 64 (.loop (loopAt 14 (bodyOf Tryd.f7) .skip)) ⟨dendronlaw16_sums_i14, dendronlaw16_sums_o14, lp dendronlaw16_sums_s14 K0⟩ :=
  loop_piece H.ty (n7 H) hm (LHok_of (l := []) (by kernel_rfl) trivial) dendronlaw16_sums_l14 K0

theorem dendronlaw16_sums_p4 {T : Told} (H : Hands T) : PieceOk T Tryd.prog 64 (.loop (loopAt 4 (bodyOf Tryd.f7) .skip)) ⟨dendronlaw16_sums_i4, dendronlaw16_sums_o4, lp dendronlaw16_sums_s4 K0⟩ :=
  loop_piece H.ty (n7 H) hm (LHok_of (l := []) (by kernel_rfl) trivial) dendronlaw16_sums_l4 K0

theorem dendronlaw16_sums_p9 {T : Told} (H : Hands T) : PieceOk T Tryd.prog 64 (.loop (loopAt 9 (bodyOf Tryd.f7) .skip)) ⟨dendronlaw16_sums_i9, dendronlaw16_sums_o9, lp dendronlaw16_sums_s9 K0⟩ :=
  loop_piece H.ty (n7 H) hm (LHok_of (l := [(.loop (loopAt 14 (bodyOf Tryd.f7) .skip), ⟨dendronlaw16_sums_i14, dendronlaw16_sums_o14, lp dendronlaw16_sums_s14 K0⟩)]) (by kernel_rfl) ⟨dendronlaw16_sums_p14 H, trivial⟩) dendronlaw16_sums_l9 K0

theorem ok7 {T : Told} (H : Hands T) : CtrOk T Tryd.prog 7 c7 :=
  fn_ok H.ty (n7 H) hm (lh := dendronlaw16_sums_lh) (ct := c7) (dcd := fun y => (y.2.1)) Tryd.func7 (by kernel_rfl) (by rfl) (LHok_of (l := [(.loop (loopAt 4 (bodyOf Tryd.f7) .skip), ⟨dendronlaw16_sums_i4, dendronlaw16_sums_o4, lp dendronlaw16_sums_s4 K0⟩), (.loop (loopAt 9 (bodyOf Tryd.f7) .skip), ⟨dendronlaw16_sums_i9, dendronlaw16_sums_o9, lp dendronlaw16_sums_s9 K0⟩)]) (by kernel_rfl) ⟨dendronlaw16_sums_p4 H, dendronlaw16_sums_p9 H, trivial⟩) (by decide) (fun _ => rfl) (fun x r h => (dendronlaw16_sums_eq x.1).trans h)

theorem n33 {T : Told} (H : Hands T) : EnvOk T Tryd.prog (envL e33) := envL_ok (l := e33) trivial

theorem ok33 {T : Told} (H : Hands T) : CtrOk T Tryd.prog 33 c33 :=
  fn_okB H.ty (n33 H) hm (lh := weigh_New_lh) (ct := c33) (wi := w33) (dcd := fun y => (y.2.1, y.2.2.1, y.2.2.2.1, y.2.2.2.2.1)) Tryd.func33 (by kernel_rfl) (by rfl) (LHok_of (l := []) (by kernel_rfl) trivial) (fun _ => rfl) rfl (fun x r h => (weigh_New_eq ).trans h)

theorem n71 {T : Told} (H : Hands T) : EnvOk T Tryd.prog (envL e71) := envL_ok (l := e71) ⟨ok40 H, ok43 H, trivial⟩

theorem ok71 {T : Told} (H : Hands T) : CtrOk T Tryd.prog 71 c71 :=
  fn_ok H.ty (n71 H) hm (lh := whole_Neg_lh) (ct := c71) (dcd := fun y => (y.2.1)) Tryd.func71 (by kernel_rfl) (by rfl) (LHok_of (l := []) (by kernel_rfl) trivial) (by decide) (fun _ => rfl) (fun x r h => (whole_Neg_eq x.1).trans h)

theorem n66 {T : Told} (H : Hands T) : EnvOk T Tryd.prog (envL e66) := envL_ok (l := e66) ⟨ok27 H, ok40 H, ok50 H, ok71 H, trivial⟩

theorem ok66 {T : Told} (H : Hands T) : CtrOk T Tryd.prog 66 c66 :=
  fn_ok H.ty (n66 H) hm (lh := ratio_Make_lh) (ct := c66) (dcd := fun y => (y.2.1, y.2.2.1)) Tryd.func66 (by kernel_rfl) (by rfl) (LHok_of (l := []) (by kernel_rfl) trivial) (by decide) (fun _ => rfl) (fun x r h => (ratio_Make_eq x.1 x.2.1).trans h)

theorem n74 {T : Told} (H : Hands T) : EnvOk T Tryd.prog (envL e74) := envL_ok (l := e74) ⟨ok28 H, ok37 H, trivial⟩

theorem weigh_products_p4 {T : Told} (H : Hands T) : PieceOk T Tryd.prog 21 (.loop (loopAt 4 (bodyOf Tryd.f74) .skip)) ⟨weigh_products_i4, weigh_products_o4, lp weigh_products_s4 K0⟩ :=
  loop_piece H.ty (n74 H) hm (LHok_of (l := []) (by kernel_rfl) trivial) weigh_products_l4 K0

theorem ok74 {T : Told} (H : Hands T) : CtrOk T Tryd.prog 74 c74 :=
  fn_ok H.ty (n74 H) hm (lh := weigh_products_lh) (ct := c74) (dcd := fun y => (y.2.1)) Tryd.func74 (by kernel_rfl) (by rfl) (LHok_of (l := [(.loop (loopAt 4 (bodyOf Tryd.f74) .skip), ⟨weigh_products_i4, weigh_products_o4, lp weigh_products_s4 K0⟩)]) (by kernel_rfl) ⟨weigh_products_p4 H, trivial⟩) (by decide) (fun _ => rfl) (fun x r h => (weigh_products_eq ).trans h)

theorem n73 {T : Told} (H : Hands T) : EnvOk T Tryd.prog (envL e73) := envL_ok (l := e73) ⟨ok74 H, trivial⟩

theorem ok73 {T : Told} (H : Hands T) : CtrOk T Tryd.prog 73 c73 :=
  fn_okB H.ty (n73 H) hm (lh := weigh_Table_at_c1_lh) (ct := c73) (wi := w73) (dcd := fun y => (y.2.1, y.2.2.1, y.2.2.2.1, y.2.2.2.2.1)) Tryd.func73 (by kernel_rfl) (by rfl) (LHok_of (l := []) (by kernel_rfl) trivial) (fun _ => rfl) rfl (fun x r h => (weigh_Table_at_c1_eq x.1 x.2.1 x.2.2.1 x.2.2.2.1).trans h)

theorem ok67 {T : Told} (H : Hands T) : CtrOk T Tryd.prog 67 c67 := at_walk (ok73 H)

theorem n61 {T : Told} (H : Hands T) : EnvOk T Tryd.prog (envL e61) := envL_ok (l := e61) ⟨ok28 H, ok66 H, ok67 H, trivial⟩

theorem ok61 {T : Told} (H : Hands T) : CtrOk T Tryd.prog 61 c61 :=
  fn_okB H.ty (n61 H) hm (lh := weigh_Table_quotient_lh) (ct := c61) (wi := w61) (dcd := fun y => (y.2.1, y.2.2.1, y.2.2.2.1, y.2.2.2.2.1, y.2.2.2.2.2.1)) Tryd.func61 (by kernel_rfl) (by rfl) (LHok_of (l := []) (by kernel_rfl) trivial) (fun _ => rfl) rfl (fun x r h => (weigh_Table_quotient_eq x.1 x.2.1 x.2.2.1 x.2.2.2.1 x.2.2.2.2.1 x.2.2.2.2.2.1 x.2.2.2.2.2.2.1).trans h)

theorem n48 {T : Told} (H : Hands T) : EnvOk T Tryd.prog (envL e48) := envL_ok (l := e48) ⟨ok61 H, trivial⟩

theorem ok48 {T : Told} (H : Hands T) : CtrOk T Tryd.prog 48 c48 :=
  fn_okB H.ty (n48 H) hm (lh := weigh_Table_Weight_lh) (ct := c48) (wi := w48) (dcd := fun y => (y.2.1, y.2.2.1, y.2.2.2.1, y.2.2.2.2.1, y.2.2.2.2.2.1, y.2.2.2.2.2.2.1)) Tryd.func48 (by kernel_rfl) (by rfl) (LHok_of (l := []) (by kernel_rfl) trivial) (fun _ => rfl) rfl (fun x r h => (weigh_Table_Weight_eq x.1 x.2.1 x.2.2.1 x.2.2.2.1 x.2.2.2.2.1 x.2.2.2.2.2.1).trans h)

theorem n34 {T : Told} (H : Hands T) : EnvOk T Tryd.prog (envL e34) := envL_ok (l := e34) ⟨ok48 H, trivial⟩

theorem weigh_Table_All_p7 {T : Told} (H : Hands T) : PieceOk T Tryd.prog 35 (.loop (loopAt 7 (bodyOf Tryd.f34) .skip)) ⟨weigh_Table_All_i7, weigh_Table_All_o7, lp weigh_Table_All_s7 K0⟩ :=
  loop_piece H.ty (n34 H) hm (LHok_of (l := []) (by kernel_rfl) trivial) weigh_Table_All_l7 K0

theorem ok34 {T : Told} (H : Hands T) : CtrOk T Tryd.prog 34 c34 :=
  fn_okB H.ty (n34 H) hm (lh := weigh_Table_All_lh) (ct := c34) (wi := w34) (dcd := fun y => (y.2.1, y.2.2.1, y.2.2.2.1, y.2.2.2.2.1, y.2.2.2.2.2.1, y.2.2.2.2.2.2.1)) Tryd.func34 (by kernel_rfl) (by rfl) (LHok_of (l := [(.loop (loopAt 7 (bodyOf Tryd.f34) .skip), ⟨weigh_Table_All_i7, weigh_Table_All_o7, lp weigh_Table_All_s7 K0⟩)]) (by kernel_rfl) ⟨weigh_Table_All_p7 H, trivial⟩) (fun _ => rfl) rfl (fun x r h => (weigh_Table_All_eq x.1 x.2.1 x.2.2.1 x.2.2.2.1 x.2.2.2.2.1).trans h)

theorem n18 {T : Told} (H : Hands T) : EnvOk T Tryd.prog (envL e18) := envL_ok (l := e18) ⟨ok15 H, ok16 H, ok17 H, ok33 H, ok34 H, trivial⟩

theorem linear_Weigh_p8 {T : Told} (H : Hands T) : PieceOk T Tryd.prog 44 (.loop (loopAt 8 (bodyOf Tryd.f18) .skip)) ⟨linear_Weigh_i8, linear_Weigh_o8, lp linear_Weigh_s8 K0⟩ :=
  loop_piece H.ty (n18 H) hm (LHok_of (l := []) (by kernel_rfl) trivial) linear_Weigh_l8 K0

theorem ok18 {T : Told} (H : Hands T) : CtrOk T Tryd.prog 18 c18 :=
  fn_ok H.ty (n18 H) hm (lh := linear_Weigh_lh) (ct := c18) (dcd := fun y => (y.2.1, y.2.2.1)) Tryd.func18 (by kernel_rfl) (by rfl) (LHok_of (l := [(.loop (loopAt 8 (bodyOf Tryd.f18) .skip), ⟨linear_Weigh_i8, linear_Weigh_o8, lp linear_Weigh_s8 K0⟩)]) (by kernel_rfl) ⟨linear_Weigh_p8 H, trivial⟩) (by decide) (fun _ => rfl) (fun x r h => (linear_Weigh_eq x.1 x.2.1).trans h)

theorem n49 {T : Told} (H : Hands T) : EnvOk T Tryd.prog (envL e49) := envL_ok (l := e49) ⟨ok40 H, ok46 H, trivial⟩

theorem ok49 {T : Told} (H : Hands T) : CtrOk T Tryd.prog 49 c49 :=
  fn_ok H.ty (n49 H) hm (lh := whole_Cmp_lh) (ct := c49) (dcd := fun y => (y.2.1)) Tryd.func49 (by kernel_rfl) (by rfl) (LHok_of (l := []) (by kernel_rfl) trivial) (by decide) (fun _ => rfl) (fun x r h => (whole_Cmp_eq x.1 x.2.1).trans h)

theorem n35 {T : Told} (H : Hands T) : EnvOk T Tryd.prog (envL e35) := envL_ok (l := e35) ⟨ok26 H, ok28 H, ok32 H, ok49 H, trivial⟩

theorem ok35 {T : Told} (H : Hands T) : CtrOk T Tryd.prog 35 c35 :=
  fn_ok H.ty (n35 H) hm (lh := ratio_Cmp_lh) (ct := c35) (dcd := fun y => (y.2.1)) Tryd.func35 (by kernel_rfl) (by rfl) (LHok_of (l := []) (by kernel_rfl) trivial) (by decide) (fun _ => rfl) (fun x r h => (ratio_Cmp_eq x.1 x.2.1).trans h)

theorem n19 {T : Told} (H : Hands T) : EnvOk T Tryd.prog (envL e19) := envL_ok (l := e19) ⟨ok35 H, trivial⟩

theorem ok19 {T : Told} (H : Hands T) : CtrOk T Tryd.prog 19 c19 :=
  fn_ok H.ty (n19 H) hm (lh := ratio_Same_lh) (ct := c19) (dcd := fun y => (y.2.1)) Tryd.func19 (by kernel_rfl) (by rfl) (LHok_of (l := []) (by kernel_rfl) trivial) (by decide) (fun _ => rfl) (fun x r h => (ratio_Same_eq x.1 x.2.1).trans h)

theorem n8 {T : Told} (H : Hands T) : EnvOk T Tryd.prog (envL e8) := envL_ok (l := e8) ⟨ok11 H, ok18 H, ok19 H, trivial⟩

theorem dendronlaw16_awake_cF {r} (h : c8.F () = r) : dendronlaw16_awake = r := by
  subst h
  delta c8
  exact (@F_in [] _ _ (fun _ => dendronlaw16_awake) _ _ () _ rfl).symm
theorem dendronlaw16_awake_fx (x) (r : c8.T) (h : c8.F x = some r) : fnF tb (envL e8) Tryd.f8 dendronlaw16_awake_lh c8.ps c8.rs (T := c8.T) (fun y => (y.2.1)) x = some r := by
  cases x
  exact dendronlaw16_awake_eq.trans (dendronlaw16_awake_cF h)

theorem ok8 {T : Told} (H : Hands T) : CtrOk T Tryd.prog 8 c8 :=
  fn_ok H.ty (n8 H) hm (lh := dendronlaw16_awake_lh) (ct := c8) (dcd := fun y => (y.2.1)) Tryd.func8 (by kernel_rfl) (by rfl) (LHok_of (l := []) (by kernel_rfl) trivial) (by decide) (fun _ => rfl) (fun x r h => dendronlaw16_awake_fx x r h)

theorem n3 {T : Told} (H : Hands T) : EnvOk T Tryd.prog (envL e3) := envL_ok (l := e3) ⟨ok4 H, ok5 H, ok6 H, ok7 H, ok8 H, trivial⟩

theorem ok3 {T : Told} (H : Hands T) : CtrOk T Tryd.prog 3 c3 :=
  fn_ok H.ty (n3 H) hm (lh := dendronlaw16_LinearLeaves_lh) (ct := c3) (dcd := fun y => (y.2.1)) Tryd.func3 (by kernel_rfl) (by rfl) (LHok_of (l := []) (by kernel_rfl) trivial) (by decide) (fun _ => rfl) (fun x r h => (dendronlaw16_LinearLeaves_eq x.1).trans h)
end Go.Proofs.YtaonkcmflkmncaaDoor.X

