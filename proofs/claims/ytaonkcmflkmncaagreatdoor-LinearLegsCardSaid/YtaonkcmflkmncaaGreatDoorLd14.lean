/- Own work: part of the proof; the first line of each part says what it tells. -/
import Derived.Test.YtaonkcmflkmncaaGreatDoorLd10
import Derived.Test.YtaonkcmflkmncaaGreatDoorLd13


namespace Go.Proofs.YtaonkcmflkmncaaGreatDoor.X
open Go
set_option linter.unusedVariables false
set_option linter.unusedSimpArgs false
set_option maxRecDepth 100000
theorem F_in {ps : List (Ty × PM)} {rs : List (Ty × Bool)} {T : Type} {F : HL (fsts ps) → Option T} {enc : T → HL (lents ps) × HL (fsts rs)} {wi : Option Wir} (x : HL (fsts ps)) {r : Option T} (h : F x = r) : (Ctr.mk ps rs T F enc wi).F x = r := h
theorem hm : Tryz.prog.follows .mixedOrders = true := by kernel_rfl
structure Hands (T : Told) : Prop where
 ty : TbOk Tryz.prog tb
 h167 : CtrOk T Tryz.prog 167 c167
 h174 : CtrOk T Tryz.prog 174 c174
theorem n81 {T : Told} (H : Hands T) : EnvOk T Tryz.prog (envL e81) := envL_ok (l := e81) trivial
theorem ok81 {T : Told} (H : Hands T) : CtrOk T Tryz.prog 81 c81 :=
 fn_ok H.ty (n81 H) hm (lh := dendronlaw09_number_lh) (ct := c81) (dcd := fun y => (y.2.1)) Tryz.func81 (by kernel_rfl) (by rfl) (LHok_of (l := []) (by kernel_rfl) trivial) (by decide) (fun _ => rfl) (fun x r h => (dendronlaw09_number_eq x.1).trans h)
theorem n31 {T : Told} (H : Hands T) : EnvOk T Tryz.prog (envL e31) := envL_ok (l := e31) ⟨ok81 H, trivial⟩
theorem dendronlaw09_Few_p3 {T : Told} (H : Hands T) : PieceOk T Tryz.prog 32 (.loop (loopAt 3 (bodyOf Tryz.f31) .skip)) ⟨dendronlaw09_Few_i3, dendronlaw09_Few_o3, lp dendronlaw09_Few_s3 K0⟩ :=
 loop_piece H.ty (n31 H) hm (LHok_of (l := []) (by kernel_rfl) trivial) dendronlaw09_Few_l3 K0
theorem ok31 {T : Told} (H : Hands T) : CtrOk T Tryz.prog 31 c31 :=
 fn_ok H.ty (n31 H) hm (lh := dendronlaw09_Few_lh) (ct := c31) (dcd := fun y => (y.2.1)) Tryz.func31 (by kernel_rfl) (by rfl) (LHok_of (l := [(.loop (loopAt 3 (bodyOf Tryz.f31) .skip), ⟨dendronlaw09_Few_i3, dendronlaw09_Few_o3, lp dendronlaw09_Few_s3 K0⟩)]) (by kernel_rfl) ⟨dendronlaw09_Few_p3 H, trivial⟩) (by decide) (fun _ => rfl) (fun x r h => (dendronlaw09_Few_eq x.1 x.2.1).trans h)
theorem n12 {T : Told} (H : Hands T) : EnvOk T Tryz.prog (envL e12) := envL_ok (l := e12) ⟨ok31 H, trivial⟩
theorem dendronlaw16_leg_p3 {T : Told} (H : Hands T) : PieceOk T Tryz.prog 39 (.loop (loopAt 3 (bodyOf Tryz.f12) .skip)) ⟨dendronlaw16_leg_i3, dendronlaw16_leg_o3, lp dendronlaw16_leg_s3 K0⟩ :=
 loop_piece H.ty (n12 H) hm (LHok_of (l := []) (by kernel_rfl) trivial) dendronlaw16_leg_l3 K0
theorem ok12 {T : Told} (H : Hands T) : CtrOk T Tryz.prog 12 c12 :=
 fn_ok H.ty (n12 H) hm (lh := dendronlaw16_leg_lh) (ct := c12) (dcd := fun y => (y.2.1)) Tryz.func12 (by kernel_rfl) (by rfl) (LHok_of (l := [(.loop (loopAt 3 (bodyOf Tryz.f12) .skip), ⟨dendronlaw16_leg_i3, dendronlaw16_leg_o3, lp dendronlaw16_leg_s3 K0⟩)]) (by kernel_rfl) ⟨dendronlaw16_leg_p3 H, trivial⟩) (by decide) (fun _ => rfl) (fun x r h => (dendronlaw16_leg_eq x.1).trans h)
theorem n114 {T : Told} (H : Hands T) : EnvOk T Tryz.prog (envL e114) := envL_ok (l := e114) trivial
theorem nat_trim_p2 {T : Told} (H : Hands T) : PieceOk T Tryz.prog 23 (.loop (loopAt 2 (bodyOf Tryz.f114) .skip)) ⟨nat_trim_i2, nat_trim_o2, lp nat_trim_s2 K0⟩ :=
 loop_piece H.ty (n114 H) hm (LHok_of (l := []) (by kernel_rfl) trivial) nat_trim_l2 K0
theorem ok114 {T : Told} (H : Hands T) : CtrOk T Tryz.prog 114 c114 :=
 fn_ok H.ty (n114 H) hm (lh := nat_trim_lh) (ct := c114) (dcd := fun y => (y.2.1)) Tryz.func114 (by kernel_rfl) (by rfl) (LHok_of (l := [(.loop (loopAt 2 (bodyOf Tryz.f114) .skip), ⟨nat_trim_i2, nat_trim_o2, lp nat_trim_s2 K0⟩)]) (by kernel_rfl) ⟨nat_trim_p2 H, trivial⟩) (by decide) (fun _ => rfl) (fun x r h => (nat_trim_eq x.1).trans h)
theorem n70 {T : Told} (H : Hands T) : EnvOk T Tryz.prog (envL e70) := envL_ok (l := e70) ⟨ok114 H, trivial⟩
theorem ok70 {T : Told} (H : Hands T) : CtrOk T Tryz.prog 70 c70 :=
 fn_ok H.ty (n70 H) hm (lh := nat_Of_lh) (ct := c70) (dcd := fun y => (y.2.1)) Tryz.func70 (by kernel_rfl) (by rfl) (LHok_of (l := []) (by kernel_rfl) trivial) (by decide) (fun _ => rfl) (fun x r h => (nat_Of_eq x.1).trans h)
theorem n117 {T : Told} (H : Hands T) : EnvOk T Tryz.prog (envL e117) := envL_ok (l := e117) trivial
theorem ok117 {T : Told} (H : Hands T) : CtrOk T Tryz.prog 117 c117 :=
 fn_ok H.ty (n117 H) hm (lh := whole_sign_lh) (ct := c117) (dcd := fun y => (y.2.1)) Tryz.func117 (by kernel_rfl) (by rfl) (LHok_of (l := []) (by kernel_rfl) trivial) (by decide) (fun _ => rfl) (fun x r h => (whole_sign_eq x.1 x.2.1).trans h)
theorem n87 {T : Told} (H : Hands T) : EnvOk T Tryz.prog (envL e87) := envL_ok (l := e87) ⟨ok70 H, ok117 H, trivial⟩
theorem ok87 {T : Told} (H : Hands T) : CtrOk T Tryz.prog 87 c87 :=
 fn_ok H.ty (n87 H) hm (lh := whole_Of_lh) (ct := c87) (dcd := fun y => (y.2.1)) Tryz.func87 (by kernel_rfl) (by rfl) (LHok_of (l := []) (by kernel_rfl) trivial) (by decide) (fun _ => rfl) (fun x r h => (whole_Of_eq x.1).trans h)
theorem n58 {T : Told} (H : Hands T) : EnvOk T Tryz.prog (envL e58) := envL_ok (l := e58) ⟨ok70 H, ok87 H, trivial⟩
theorem ok58 {T : Told} (H : Hands T) : CtrOk T Tryz.prog 58 c58 :=
 fn_ok H.ty (n58 H) hm (lh := ratio_Of_lh) (ct := c58) (dcd := fun y => (y.2.1)) Tryz.func58 (by kernel_rfl) (by rfl) (LHok_of (l := []) (by kernel_rfl) trivial) (by decide) (fun _ => rfl) (fun x r h => (ratio_Of_eq x.1).trans h)
theorem n53 {T : Told} (H : Hands T) : EnvOk T Tryz.prog (envL e53) := envL_ok (l := e53) ⟨ok58 H, trivial⟩
theorem ok53 {T : Told} (H : Hands T) : CtrOk T Tryz.prog 53 c53 :=
 fn_ok H.ty (n53 H) hm (lh := ratio_One_lh) (ct := c53) (dcd := fun y => (y.2.1)) Tryz.func53 (by kernel_rfl) (by rfl) (LHok_of (l := []) (by kernel_rfl) trivial) (by decide) (fun _ => rfl) (fun x r h => (ratio_One_eq ).trans h)
theorem n52 {T : Told} (H : Hands T) : EnvOk T Tryz.prog (envL e52) := envL_ok (l := e52) ⟨ok53 H, trivial⟩
theorem ok52 {T : Told} (H : Hands T) : CtrOk T Tryz.prog 52 c52 :=
 fn_ok H.ty (n52 H) hm (lh := linear_factor_lh) (ct := c52) (dcd := fun y => (y.2.1)) Tryz.func52 (by kernel_rfl) (by rfl) (LHok_of (l := []) (by kernel_rfl) trivial) (by decide) (fun _ => rfl) (fun x r h => (linear_factor_eq x.1).trans h)
theorem n24 {T : Told} (H : Hands T) : EnvOk T Tryz.prog (envL e24) := envL_ok (l := e24) ⟨ok70 H, trivial⟩
theorem ok24 {T : Told} (H : Hands T) : CtrOk T Tryz.prog 24 c24 :=
 fn_ok H.ty (n24 H) hm (lh := ratio_Zero_lh) (ct := c24) (dcd := fun y => (y.2.1)) Tryz.func24 (by kernel_rfl) (by rfl) (LHok_of (l := []) (by kernel_rfl) trivial) (by decide) (fun _ => rfl) (fun x r h => (ratio_Zero_eq ).trans h)
theorem n101 {T : Told} (H : Hands T) : EnvOk T Tryz.prog (envL e101) := envL_ok (l := e101) ⟨ok114 H, trivial⟩
theorem nat_Clean_p3 {T : Told} (H : Hands T) : PieceOk T Tryz.prog 24 (.loop (loopAt 3 (bodyOf Tryz.f101) .skip)) ⟨nat_Clean_i3, nat_Clean_o3, lp nat_Clean_s3 K0⟩ :=
 loop_piece H.ty (n101 H) hm (LHok_of (l := []) (by kernel_rfl) trivial) nat_Clean_l3 K0
theorem ok101 {T : Told} (H : Hands T) : CtrOk T Tryz.prog 101 c101 :=
 fn_ok H.ty (n101 H) hm (lh := nat_Clean_lh) (ct := c101) (dcd := fun y => (y.2.1)) Tryz.func101 (by kernel_rfl) (by rfl) (LHok_of (l := [(.loop (loopAt 3 (bodyOf Tryz.f101) .skip), ⟨nat_Clean_i3, nat_Clean_o3, lp nat_Clean_s3 K0⟩)]) (by kernel_rfl) ⟨nat_Clean_p3 H, trivial⟩) (by decide) (fun _ => rfl) (fun x r h => (nat_Clean_eq x.1).trans h)
theorem n166 {T : Told} (H : Hands T) : EnvOk T Tryz.prog (envL e166) := envL_ok (l := e166) ⟨ok101 H, trivial⟩
theorem ok166 {T : Told} (H : Hands T) : CtrOk T Tryz.prog 166 c166 :=
 fn_ok H.ty (n166 H) hm (lh := nat_To_lh) (ct := c166) (dcd := fun y => (y.2.1, y.2.2.1)) Tryz.func166 (by kernel_rfl) (by rfl) (LHok_of (l := []) (by kernel_rfl) trivial) (by decide) (fun _ => rfl) (fun x r h => (nat_To_eq x.1).trans h)
theorem n144 {T : Told} (H : Hands T) : EnvOk T Tryz.prog (envL e144) := envL_ok (l := e144) ⟨ok70 H, ok166 H, trivial⟩
theorem nat_euclid_p3 {T : Told} (H : Hands T) : PieceOk T Tryz.prog 27 (.loop (loopAt 3 (bodyOf Tryz.f144) .skip)) ⟨nat_euclid_i3, nat_euclid_o3, lp nat_euclid_s3 K0⟩ :=
 loop_piece H.ty (n144 H) hm (LHok_of (l := []) (by kernel_rfl) trivial) nat_euclid_l3 K0
theorem ok144 {T : Told} (H : Hands T) : CtrOk T Tryz.prog 144 c144 :=
 fn_ok H.ty (n144 H) hm (lh := nat_euclid_lh) (ct := c144) (dcd := fun y => (y.2.1)) Tryz.func144 (by kernel_rfl) (by rfl) (LHok_of (l := [(.loop (loopAt 3 (bodyOf Tryz.f144) .skip), ⟨nat_euclid_i3, nat_euclid_o3, lp nat_euclid_s3 K0⟩)]) (by kernel_rfl) ⟨nat_euclid_p3 H, trivial⟩) (by decide) (fun _ => rfl) (fun x r h => (nat_euclid_eq x.1 x.2.1).trans h)
theorem n145 {T : Told} (H : Hands T) : EnvOk T Tryz.prog (envL e145) := envL_ok (l := e145) ⟨H.h167, trivial⟩
theorem nat_zeros_p3 {T : Told} (H : Hands T) : PieceOk T Tryz.prog 24 (.loop (loopAt 3 (bodyOf Tryz.f145) .skip)) ⟨nat_zeros_i3, nat_zeros_o3, lp nat_zeros_s3 K0⟩ :=
 loop_piece H.ty (n145 H) hm (LHok_of (l := []) (by kernel_rfl) trivial) nat_zeros_l3 K0
theorem ok145 {T : Told} (H : Hands T) : CtrOk T Tryz.prog 145 c145 :=
 fn_ok H.ty (n145 H) hm (lh := nat_zeros_lh) (ct := c145) (dcd := fun y => (y.2.1)) Tryz.func145 (by kernel_rfl) (by rfl) (LHok_of (l := [(.loop (loopAt 3 (bodyOf Tryz.f145) .skip), ⟨nat_zeros_i3, nat_zeros_o3, lp nat_zeros_s3 K0⟩)]) (by kernel_rfl) ⟨nat_zeros_p3 H, trivial⟩) (by decide) (fun _ => rfl) (fun x r h => (nat_zeros_eq x.1).trans h)
theorem n153 {T : Told} (H : Hands T) : EnvOk T Tryz.prog (envL e153) := envL_ok (l := e153) trivial
theorem ok153 {T : Told} (H : Hands T) : CtrOk T Tryz.prog 153 c153 :=
 fn_ok H.ty (n153 H) hm (lh := nat_limb_lh) (ct := c153) (dcd := fun y => (y.2.1)) Tryz.func153 (by kernel_rfl) (by rfl) (LHok_of (l := []) (by kernel_rfl) trivial) (by decide) (fun _ => rfl) (fun x r h => (nat_limb_eq x.1 x.2.1).trans h)
theorem n146 {T : Told} (H : Hands T) : EnvOk T Tryz.prog (envL e146) := envL_ok (l := e146) ⟨ok114 H, ok153 H, trivial⟩
theorem nat_shr_p6 {T : Told} (H : Hands T) : PieceOk T Tryz.prog 50 (.loop (loopAt 6 (bodyOf Tryz.f146) .skip)) ⟨nat_shr_i6, nat_shr_o6, lp nat_shr_s6 K0⟩ :=
 loop_piece H.ty (n146 H) hm (LHok_of (l := []) (by kernel_rfl) trivial) nat_shr_l6 K0
theorem ok146 {T : Told} (H : Hands T) : CtrOk T Tryz.prog 146 c146 :=
 fn_ok H.ty (n146 H) hm (lh := nat_shr_lh) (ct := c146) (dcd := fun y => (y.2.1)) Tryz.func146 (by kernel_rfl) (by rfl) (LHok_of (l := [(.loop (loopAt 6 (bodyOf Tryz.f146) .skip), ⟨nat_shr_i6, nat_shr_o6, lp nat_shr_s6 K0⟩)]) (by kernel_rfl) ⟨nat_shr_p6 H, trivial⟩) (by decide) (fun _ => rfl) (fun x r h => (nat_shr_eq x.1 x.2.1).trans h)
theorem n147 {T : Told} (H : Hands T) : EnvOk T Tryz.prog (envL e147) := envL_ok (l := e147) trivial
theorem nat_order_p6 {T : Told} (H : Hands T) : PieceOk T Tryz.prog 45 (.loop (loopAt 6 (bodyOf Tryz.f147) .skip)) ⟨nat_order_i6, nat_order_o6, lp nat_order_s6 K0⟩ :=
 loop_piece H.ty (n147 H) hm (LHok_of (l := []) (by kernel_rfl) trivial) nat_order_l6 K0
theorem ok147 {T : Told} (H : Hands T) : CtrOk T Tryz.prog 147 c147 :=
 fn_ok H.ty (n147 H) hm (lh := nat_order_lh) (ct := c147) (dcd := fun y => (y.2.1)) Tryz.func147 (by kernel_rfl) (by rfl) (LHok_of (l := [(.loop (loopAt 6 (bodyOf Tryz.f147) .skip), ⟨nat_order_i6, nat_order_o6, lp nat_order_s6 K0⟩)]) (by kernel_rfl) ⟨nat_order_p6 H, trivial⟩) (by decide) (fun _ => rfl) (fun x r h => (nat_order_eq x.1 x.2.1).trans h)
theorem n148 {T : Told} (H : Hands T) : EnvOk T Tryz.prog (envL e148) := envL_ok (l := e148) ⟨ok114 H, trivial⟩
theorem nat_shl_p4 {T : Told} (H : Hands T) : PieceOk T Tryz.prog 51 (.loop (loopAt 4 (bodyOf Tryz.f148) .skip)) ⟨nat_shl_i4, nat_shl_o4, lp nat_shl_s4 K0⟩ :=
 loop_piece H.ty (n148 H) hm (LHok_of (l := []) (by kernel_rfl) trivial) nat_shl_l4 K0
theorem ok148 {T : Told} (H : Hands T) : CtrOk T Tryz.prog 148 c148 :=
 fn_ok H.ty (n148 H) hm (lh := nat_shl_lh) (ct := c148) (dcd := fun y => (y.2.1)) Tryz.func148 (by kernel_rfl) (by rfl) (LHok_of (l := [(.loop (loopAt 4 (bodyOf Tryz.f148) .skip), ⟨nat_shl_i4, nat_shl_o4, lp nat_shl_s4 K0⟩)]) (by kernel_rfl) ⟨nat_shl_p4 H, trivial⟩) (by decide) (fun _ => rfl) (fun x r h => (nat_shl_eq x.1 x.2.1).trans h)
theorem n151 {T : Told} (H : Hands T) : EnvOk T Tryz.prog (envL e151) := envL_ok (l := e151) ⟨ok114 H, trivial⟩
theorem nat_small_p4 {T : Told} (H : Hands T) : PieceOk T Tryz.prog 38 (.loop (loopAt 4 (bodyOf Tryz.f151) .skip)) ⟨nat_small_i4, nat_small_o4, lp nat_small_s4 K0⟩ :=
 loop_piece H.ty (n151 H) hm (LHok_of (l := []) (by kernel_rfl) trivial) nat_small_l4 K0
theorem ok151 {T : Told} (H : Hands T) : CtrOk T Tryz.prog 151 c151 :=
 fn_ok H.ty (n151 H) hm (lh := nat_small_lh) (ct := c151) (dcd := fun y => (y.2.1, y.2.2.1)) Tryz.func151 (by kernel_rfl) (by rfl) (LHok_of (l := [(.loop (loopAt 4 (bodyOf Tryz.f151) .skip), ⟨nat_small_i4, nat_small_o4, lp nat_small_s4 K0⟩)]) (by kernel_rfl) ⟨nat_small_p4 H, trivial⟩) (by decide) (fun _ => rfl) (fun x r h => (nat_small_eq x.1 x.2.1).trans h)
theorem n168 {T : Told} (H : Hands T) : EnvOk T Tryz.prog (envL e168) := envL_ok (l := e168) ⟨H.h174, trivial⟩
theorem ok168 {T : Told} (H : Hands T) : CtrOk T Tryz.prog 168 c168 :=
 fn_ok H.ty (n168 H) hm (lh := bits_LeadingZeros32_lh) (ct := c168) (dcd := fun y => (y.2.1)) Tryz.func168 (by kernel_rfl) (by rfl) (LHok_of (l := []) (by kernel_rfl) trivial) (by decide) (fun _ => rfl) (fun x r h => (bits_LeadingZeros32_eq x.1).trans h)
theorem n175 {T : Told} (H : Hands T) : EnvOk T Tryz.prog (envL e175) := envL_ok (l := e175) ⟨ok153 H, trivial⟩
theorem nat_take_p3 {T : Told} (H : Hands T) : PieceOk T Tryz.prog 46 (.loop (loopAt 3 (bodyOf Tryz.f175) .skip)) ⟨nat_take_i3, nat_take_o3, lp nat_take_s3 K0⟩ :=
 loop_piece H.ty (n175 H) hm (LHok_of (l := []) (by kernel_rfl) trivial) nat_take_l3 K0
theorem ok175 {T : Told} (H : Hands T) : CtrOk T Tryz.prog 175 c175 :=
 fn_ok H.ty (n175 H) hm (lh := nat_take_lh) (ct := c175) (dcd := fun y => (y.1.1, y.2.1)) Tryz.func175 (by kernel_rfl) (by rfl) (LHok_of (l := [(.loop (loopAt 3 (bodyOf Tryz.f175) .skip), ⟨nat_take_i3, nat_take_o3, lp nat_take_s3 K0⟩)]) (by kernel_rfl) ⟨nat_take_p3 H, trivial⟩) (by decide) (fun _ => rfl) (fun x r h => (nat_take_eq x.1 x.2.1 x.2.2.1).trans h)
theorem n176 {T : Told} (H : Hands T) : EnvOk T Tryz.prog (envL e176) := envL_ok (l := e176) ⟨ok153 H, trivial⟩
theorem nat_give_p2 {T : Told} (H : Hands T) : PieceOk T Tryz.prog 29 (.loop (loopAt 2 (bodyOf Tryz.f176) .skip)) ⟨nat_give_i2, nat_give_o2, lp nat_give_s2 K0⟩ :=
 loop_piece H.ty (n176 H) hm (LHok_of (l := []) (by kernel_rfl) trivial) nat_give_l2 K0
theorem ok176 {T : Told} (H : Hands T) : CtrOk T Tryz.prog 176 c176 :=
 fn_ok H.ty (n176 H) hm (lh := nat_give_lh) (ct := c176) (dcd := fun y => (y.1.1)) Tryz.func176 (by kernel_rfl) (by rfl) (LHok_of (l := [(.loop (loopAt 2 (bodyOf Tryz.f176) .skip), ⟨nat_give_i2, nat_give_o2, lp nat_give_s2 K0⟩)]) (by kernel_rfl) ⟨nat_give_p2 H, trivial⟩) (by decide) (fun _ => rfl) (fun x r h => (nat_give_eq x.1 x.2.1).trans h)
theorem n169 {T : Told} (H : Hands T) : EnvOk T Tryz.prog (envL e169) := envL_ok (l := e169) ⟨ok175 H, ok176 H, trivial⟩
theorem nat_digit_p4 {T : Told} (H : Hands T) : PieceOk T Tryz.prog 77 (.loop (loopAt 4 (bodyOf Tryz.f169) .skip)) ⟨nat_digit_i4, nat_digit_o4, lp nat_digit_s4 K0⟩ :=
 loop_piece H.ty (n169 H) hm (LHok_of (l := []) (by kernel_rfl) trivial) nat_digit_l4 K0
theorem ok169 {T : Told} (H : Hands T) : CtrOk T Tryz.prog 169 c169 :=
 fn_ok H.ty (n169 H) hm (lh := nat_digit_lh) (ct := c169) (dcd := fun y => (y.1.1, y.2.1)) Tryz.func169 (by kernel_rfl) (by rfl) (LHok_of (l := [(.loop (loopAt 4 (bodyOf Tryz.f169) .skip), ⟨nat_digit_i4, nat_digit_o4, lp nat_digit_s4 K0⟩)]) (by kernel_rfl) ⟨nat_digit_p4 H, trivial⟩) (by decide) (fun _ => rfl) (fun x r h => (nat_digit_eq x.1 x.2.1).trans h)
theorem n152 {T : Told} (H : Hands T) : EnvOk T Tryz.prog (envL e152) := envL_ok (l := e152) ⟨ok114 H, ok146 H, ok148 H, ok168 H, ok169 H, trivial⟩
theorem nat_long_p7 {T : Told} (H : Hands T) : PieceOk T Tryz.prog 64 (.loop (loopAt 7 (bodyOf Tryz.f152) .skip)) ⟨nat_long_i7, nat_long_o7, lp nat_long_s7 K0⟩ :=
 loop_piece H.ty (n152 H) hm (LHok_of (l := []) (by kernel_rfl) trivial) nat_long_l7 K0
theorem ok152 {T : Told} (H : Hands T) : CtrOk T Tryz.prog 152 c152 :=
 fn_ok H.ty (n152 H) hm (lh := nat_long_lh) (ct := c152) (dcd := fun y => (y.2.1, y.2.2.1)) Tryz.func152 (by kernel_rfl) (by rfl) (LHok_of (l := [(.loop (loopAt 7 (bodyOf Tryz.f152) .skip), ⟨nat_long_i7, nat_long_o7, lp nat_long_s7 K0⟩)]) (by kernel_rfl) ⟨nat_long_p7 H, trivial⟩) (by decide) (fun _ => rfl) (fun x r h => (nat_long_eq x.1 x.2.1).trans h)
theorem n116 {T : Told} (H : Hands T) : EnvOk T Tryz.prog (envL e116) := envL_ok (l := e116) ⟨ok70 H, ok101 H, ok147 H, ok151 H, ok152 H, trivial⟩
theorem ok116 {T : Told} (H : Hands T) : CtrOk T Tryz.prog 116 c116 :=
 fn_ok H.ty (n116 H) hm (lh := nat_DivMod_lh) (ct := c116) (dcd := fun y => (y.2.1, y.2.2.1, y.2.2.2.1)) Tryz.func116 (by kernel_rfl) (by rfl) (LHok_of (l := []) (by kernel_rfl) trivial) (by decide) (fun _ => rfl) (fun x r h => (nat_DivMod_eq x.1 x.2.1).trans h)
theorem n149 {T : Told} (H : Hands T) : EnvOk T Tryz.prog (envL e149) := envL_ok (l := e149) ⟨ok116 H, trivial⟩
theorem ok149 {T : Told} (H : Hands T) : CtrOk T Tryz.prog 149 c149 :=
 fn_ok H.ty (n149 H) hm (lh := nat_rest_lh) (ct := c149) (dcd := fun y => (y.2.1, y.2.2.1)) Tryz.func149 (by kernel_rfl) (by rfl) (LHok_of (l := []) (by kernel_rfl) trivial) (by decide) (fun _ => rfl) (fun x r h => (nat_rest_eq x.1 x.2.1).trans h)
theorem n150 {T : Told} (H : Hands T) : EnvOk T Tryz.prog (envL e150) := envL_ok (l := e150) ⟨ok114 H, ok153 H, trivial⟩
theorem nat_minus_p4 {T : Told} (H : Hands T) : PieceOk T Tryz.prog 39 (.loop (loopAt 4 (bodyOf Tryz.f150) .skip)) ⟨nat_minus_i4, nat_minus_o4, lp nat_minus_s4 K0⟩ :=
 loop_piece H.ty (n150 H) hm (LHok_of (l := []) (by kernel_rfl) trivial) nat_minus_l4 K0
theorem ok150 {T : Told} (H : Hands T) : CtrOk T Tryz.prog 150 c150 :=
 fn_ok H.ty (n150 H) hm (lh := nat_minus_lh) (ct := c150) (dcd := fun y => (y.2.1)) Tryz.func150 (by kernel_rfl) (by rfl) (LHok_of (l := [(.loop (loopAt 4 (bodyOf Tryz.f150) .skip), ⟨nat_minus_i4, nat_minus_o4, lp nat_minus_s4 K0⟩)]) (by kernel_rfl) ⟨nat_minus_p4 H, trivial⟩) (by decide) (fun _ => rfl) (fun x r h => (nat_minus_eq x.1 x.2.1).trans h)
theorem n115 {T : Told} (H : Hands T) : EnvOk T Tryz.prog (envL e115) := envL_ok (l := e115) ⟨ok101 H, ok144 H, ok145 H, ok146 H, ok147 H, ok148 H, ok149 H, ok150 H, trivial⟩
theorem nat_Gcd_p10 {T : Told} (H : Hands T) : PieceOk T Tryz.prog 86 (.loop (loopAt 10 (bodyOf Tryz.f115) .skip)) ⟨nat_Gcd_i10, nat_Gcd_o10, lp nat_Gcd_s10 K0⟩ :=
 loop_piece H.ty (n115 H) hm (LHok_of (l := []) (by kernel_rfl) trivial) nat_Gcd_l10 K0
theorem ok115 {T : Told} (H : Hands T) : CtrOk T Tryz.prog 115 c115 :=
 fn_ok H.ty (n115 H) hm (lh := nat_Gcd_lh) (ct := c115) (dcd := fun y => (y.2.1)) Tryz.func115 (by kernel_rfl) (by rfl) (LHok_of (l := [(.loop (loopAt 10 (bodyOf Tryz.f115) .skip), ⟨nat_Gcd_i10, nat_Gcd_o10, lp nat_Gcd_s10 K0⟩)]) (by kernel_rfl) ⟨nat_Gcd_p10 H, trivial⟩) (by decide) (fun _ => rfl) (fun x r h => (nat_Gcd_eq x.1 x.2.1).trans h)
theorem n72 {T : Told} (H : Hands T) : EnvOk T Tryz.prog (envL e72) := envL_ok (l := e72) ⟨ok70 H, ok115 H, ok116 H, trivial⟩
theorem ok72 {T : Told} (H : Hands T) : CtrOk T Tryz.prog 72 c72 :=
 fn_ok H.ty (n72 H) hm (lh := ratio_form_lh) (ct := c72) (dcd := fun y => (y.2.1)) Tryz.func72 (by kernel_rfl) (by rfl) (LHok_of (l := []) (by kernel_rfl) trivial) (by decide) (fun _ => rfl) (fun x r h => (ratio_form_eq x.1 x.2.1).trans h)
theorem n100 {T : Told} (H : Hands T) : EnvOk T Tryz.prog (envL e100) := envL_ok (l := e100) ⟨ok101 H, ok117 H, trivial⟩
theorem ok100 {T : Told} (H : Hands T) : CtrOk T Tryz.prog 100 c100 :=
 fn_ok H.ty (n100 H) hm (lh := whole_Clean_lh) (ct := c100) (dcd := fun y => (y.2.1)) Tryz.func100 (by kernel_rfl) (by rfl) (LHok_of (l := []) (by kernel_rfl) trivial) (by decide) (fun _ => rfl) (fun x r h => (whole_Clean_eq x.1).trans h)
theorem n55 {T : Told} (H : Hands T) : EnvOk T Tryz.prog (envL e55) := envL_ok (l := e55) ⟨ok24 H, ok72 H, ok100 H, ok101 H, trivial⟩
theorem ok55 {T : Told} (H : Hands T) : CtrOk T Tryz.prog 55 c55 :=
 fn_ok H.ty (n55 H) hm (lh := ratio_Clean_lh) (ct := c55) (dcd := fun y => (y.2.1)) Tryz.func55 (by kernel_rfl) (by rfl) (LHok_of (l := []) (by kernel_rfl) trivial) (by decide) (fun _ => rfl) (fun x r h => (ratio_Clean_eq x.1).trans h)
theorem n118 {T : Told} (H : Hands T) : EnvOk T Tryz.prog (envL e118) := envL_ok (l := e118) ⟨ok101 H, ok114 H, ok153 H, trivial⟩
theorem nat_Add_p5 {T : Told} (H : Hands T) : PieceOk T Tryz.prog 43 (.loop (loopAt 5 (bodyOf Tryz.f118) .skip)) ⟨nat_Add_i5, nat_Add_o5, lp nat_Add_s5 K0⟩ :=
 loop_piece H.ty (n118 H) hm (LHok_of (l := []) (by kernel_rfl) trivial) nat_Add_l5 K0
theorem ok118 {T : Told} (H : Hands T) : CtrOk T Tryz.prog 118 c118 :=
 fn_ok H.ty (n118 H) hm (lh := nat_Add_lh) (ct := c118) (dcd := fun y => (y.2.1)) Tryz.func118 (by kernel_rfl) (by rfl) (LHok_of (l := [(.loop (loopAt 5 (bodyOf Tryz.f118) .skip), ⟨nat_Add_i5, nat_Add_o5, lp nat_Add_s5 K0⟩)]) (by kernel_rfl) ⟨nat_Add_p5 H, trivial⟩) (by decide) (fun _ => rfl) (fun x r h => (nat_Add_eq x.1 x.2.1).trans h)
theorem n119 {T : Told} (H : Hands T) : EnvOk T Tryz.prog (envL e119) := envL_ok (l := e119) ⟨ok101 H, ok147 H, trivial⟩
theorem ok119 {T : Told} (H : Hands T) : CtrOk T Tryz.prog 119 c119 :=
 fn_ok H.ty (n119 H) hm (lh := nat_Cmp_lh) (ct := c119) (dcd := fun y => (y.2.1)) Tryz.func119 (by kernel_rfl) (by rfl) (LHok_of (l := []) (by kernel_rfl) trivial) (by decide) (fun _ => rfl) (fun x r h => (nat_Cmp_eq x.1 x.2.1).trans h)
theorem n120 {T : Told} (H : Hands T) : EnvOk T Tryz.prog (envL e120) := envL_ok (l := e120) ⟨ok101 H, ok147 H, ok150 H, trivial⟩
theorem ok120 {T : Told} (H : Hands T) : CtrOk T Tryz.prog 120 c120 :=
 fn_ok H.ty (n120 H) hm (lh := nat_Sub_lh) (ct := c120) (dcd := fun y => (y.2.1, y.2.2.1)) Tryz.func120 (by kernel_rfl) (by rfl) (LHok_of (l := []) (by kernel_rfl) trivial) (by decide) (fun _ => rfl) (fun x r h => (nat_Sub_eq x.1 x.2.1).trans h)
theorem n73 {T : Told} (H : Hands T) : EnvOk T Tryz.prog (envL e73) := envL_ok (l := e73) ⟨ok100 H, ok117 H, ok118 H, ok119 H, ok120 H, trivial⟩
theorem ok73 {T : Told} (H : Hands T) : CtrOk T Tryz.prog 73 c73 :=
 fn_ok H.ty (n73 H) hm (lh := whole_Add_lh) (ct := c73) (dcd := fun y => (y.2.1)) Tryz.func73 (by kernel_rfl) (by rfl) (LHok_of (l := []) (by kernel_rfl) trivial) (by decide) (fun _ => rfl) (fun x r h => (whole_Add_eq x.1 x.2.1).trans h)
theorem n76 {T : Told} (H : Hands T) : EnvOk T Tryz.prog (envL e76) := envL_ok (l := e76) ⟨ok101 H, ok114 H, trivial⟩
theorem nat_Mul_p8 {T : Told} (H : Hands T) : PieceOk T Tryz.prog 67 (.loop (loopAt 8 (bodyOf Tryz.f76) .skip)) ⟨nat_Mul_i8, nat_Mul_o8, lp nat_Mul_s8 K0⟩ :=
 loop_piece H.ty (n76 H) hm (LHok_of (l := []) (by kernel_rfl) trivial) nat_Mul_l8 K0
theorem nat_Mul_p4 {T : Told} (H : Hands T) : PieceOk T Tryz.prog 67 (.loop (loopAt 4 (bodyOf Tryz.f76) .skip)) ⟨nat_Mul_i4, nat_Mul_o4, lp nat_Mul_s4 K0⟩ :=
 loop_piece H.ty (n76 H) hm (LHok_of (l := [(.loop (loopAt 8 (bodyOf Tryz.f76) .skip), ⟨nat_Mul_i8, nat_Mul_o8, lp nat_Mul_s8 K0⟩)]) (by kernel_rfl) ⟨nat_Mul_p8 H, trivial⟩) nat_Mul_l4 K0
theorem ok76 {T : Told} (H : Hands T) : CtrOk T Tryz.prog 76 c76 :=
 fn_ok H.ty (n76 H) hm (lh := nat_Mul_lh) (ct := c76) (dcd := fun y => (y.2.1)) Tryz.func76 (by kernel_rfl) (by rfl) (LHok_of (l := [(.loop (loopAt 4 (bodyOf Tryz.f76) .skip), ⟨nat_Mul_i4, nat_Mul_o4, lp nat_Mul_s4 K0⟩)]) (by kernel_rfl) ⟨nat_Mul_p4 H, trivial⟩) (by decide) (fun _ => rfl) (fun x r h => (nat_Mul_eq x.1 x.2.1).trans h)
theorem n74 {T : Told} (H : Hands T) : EnvOk T Tryz.prog (envL e74) := envL_ok (l := e74) ⟨ok76 H, ok100 H, ok117 H, trivial⟩
theorem ok74 {T : Told} (H : Hands T) : CtrOk T Tryz.prog 74 c74 :=
 fn_ok H.ty (n74 H) hm (lh := whole_Mul_lh) (ct := c74) (dcd := fun y => (y.2.1)) Tryz.func74 (by kernel_rfl) (by rfl) (LHok_of (l := []) (by kernel_rfl) trivial) (by decide) (fun _ => rfl) (fun x r h => (whole_Mul_eq x.1 x.2.1).trans h)
theorem n75 {T : Told} (H : Hands T) : EnvOk T Tryz.prog (envL e75) := envL_ok (l := e75) trivial
theorem ok75 {T : Told} (H : Hands T) : CtrOk T Tryz.prog 75 c75 :=
 fn_ok H.ty (n75 H) hm (lh := ratio_den_lh) (ct := c75) (dcd := fun y => (y.2.1)) Tryz.func75 (by kernel_rfl) (by rfl) (LHok_of (l := []) (by kernel_rfl) trivial) (by decide) (fun _ => rfl) (fun x r h => (ratio_den_eq x.1).trans h)
theorem n26 {T : Told} (H : Hands T) : EnvOk T Tryz.prog (envL e26) := envL_ok (l := e26) ⟨ok55 H, ok72 H, ok73 H, ok74 H, ok75 H, ok76 H, trivial⟩
theorem ok26 {T : Told} (H : Hands T) : CtrOk T Tryz.prog 26 c26 :=
 fn_ok H.ty (n26 H) hm (lh := ratio_Add_lh) (ct := c26) (dcd := fun y => (y.2.1)) Tryz.func26 (by kernel_rfl) (by rfl) (LHok_of (l := []) (by kernel_rfl) trivial) (by decide) (fun _ => rfl) (fun x r h => (ratio_Add_eq x.1 x.2.1).trans h)
theorem n27 {T : Told} (H : Hands T) : EnvOk T Tryz.prog (envL e27) := envL_ok (l := e27) ⟨ok55 H, ok72 H, ok74 H, ok76 H, trivial⟩
theorem ok27 {T : Told} (H : Hands T) : CtrOk T Tryz.prog 27 c27 :=
 fn_ok H.ty (n27 H) hm (lh := ratio_Mul_lh) (ct := c27) (dcd := fun y => (y.2.1)) Tryz.func27 (by kernel_rfl) (by rfl) (LHok_of (l := []) (by kernel_rfl) trivial) (by decide) (fun _ => rfl) (fun x r h => (ratio_Mul_eq x.1 x.2.1).trans h)
theorem n54 {T : Told} (H : Hands T) : EnvOk T Tryz.prog (envL e54) := envL_ok (l := e54) ⟨ok100 H, trivial⟩
theorem ok54 {T : Told} (H : Hands T) : CtrOk T Tryz.prog 54 c54 :=
 fn_ok H.ty (n54 H) hm (lh := whole_Sign_lh) (ct := c54) (dcd := fun y => (y.2.1)) Tryz.func54 (by kernel_rfl) (by rfl) (LHok_of (l := []) (by kernel_rfl) trivial) (by decide) (fun _ => rfl) (fun x r h => (whole_Sign_eq x.1).trans h)
theorem n15 {T : Told} (H : Hands T) : EnvOk T Tryz.prog (envL e15) := envL_ok (l := e15) ⟨ok54 H, ok55 H, trivial⟩
theorem ok15 {T : Told} (H : Hands T) : CtrOk T Tryz.prog 15 c15 :=
 fn_ok H.ty (n15 H) hm (lh := ratio_Sign_lh) (ct := c15) (dcd := fun y => (y.2.1)) Tryz.func15 (by kernel_rfl) (by rfl) (LHok_of (l := []) (by kernel_rfl) trivial) (by decide) (fun _ => rfl) (fun x r h => (ratio_Sign_eq x.1).trans h)
theorem n99 {T : Told} (H : Hands T) : EnvOk T Tryz.prog (envL e99) := envL_ok (l := e99) ⟨ok15 H, trivial⟩
theorem poly_trim_p2 {T : Told} (H : Hands T) : PieceOk T Tryz.prog 23 (.loop (loopAt 2 (bodyOf Tryz.f99) .skip)) ⟨poly_trim_i2, poly_trim_o2, lp poly_trim_s2 K0⟩ :=
 loop_piece H.ty (n99 H) hm (LHok_of (l := []) (by kernel_rfl) trivial) poly_trim_l2 K0
theorem ok99 {T : Told} (H : Hands T) : CtrOk T Tryz.prog 99 c99 :=
 fn_ok H.ty (n99 H) hm (lh := poly_trim_lh) (ct := c99) (dcd := fun y => (y.2.1)) Tryz.func99 (by kernel_rfl) (by rfl) (LHok_of (l := [(.loop (loopAt 2 (bodyOf Tryz.f99) .skip), ⟨poly_trim_i2, poly_trim_o2, lp poly_trim_s2 K0⟩)]) (by kernel_rfl) ⟨poly_trim_p2 H, trivial⟩) (by decide) (fun _ => rfl) (fun x r h => (poly_trim_eq x.1).trans h)
theorem n97 {T : Told} (H : Hands T) : EnvOk T Tryz.prog (envL e97) := envL_ok (l := e97) ⟨ok55 H, ok99 H, trivial⟩
theorem poly_Clean_p3 {T : Told} (H : Hands T) : PieceOk T Tryz.prog 24 (.loop (loopAt 3 (bodyOf Tryz.f97) .skip)) ⟨poly_Clean_i3, poly_Clean_o3, lp poly_Clean_s3 K0⟩ :=
 loop_piece H.ty (n97 H) hm (LHok_of (l := []) (by kernel_rfl) trivial) poly_Clean_l3 K0
theorem ok97 {T : Told} (H : Hands T) : CtrOk T Tryz.prog 97 c97 :=
 fn_ok H.ty (n97 H) hm (lh := poly_Clean_lh) (ct := c97) (dcd := fun y => (y.2.1)) Tryz.func97 (by kernel_rfl) (by rfl) (LHok_of (l := [(.loop (loopAt 3 (bodyOf Tryz.f97) .skip), ⟨poly_Clean_i3, poly_Clean_o3, lp poly_Clean_s3 K0⟩)]) (by kernel_rfl) ⟨poly_Clean_p3 H, trivial⟩) (by decide) (fun _ => rfl) (fun x r h => (poly_Clean_eq x.1).trans h)
theorem n71 {T : Told} (H : Hands T) : EnvOk T Tryz.prog (envL e71) := envL_ok (l := e71) ⟨ok24 H, ok26 H, ok27 H, ok97 H, ok99 H, trivial⟩
theorem poly_Mul_p14 {T : Told} (H : Hands T) : PieceOk T Tryz.prog 73 (.loop (loopAt 14 (bodyOf Tryz.f71) .skip)) ⟨poly_Mul_i14, poly_Mul_o14, lp poly_Mul_s14 K0⟩ :=
 loop_piece H.ty (n71 H) hm (LHok_of (l := []) (by kernel_rfl) trivial) poly_Mul_l14 K0
theorem poly_Mul_p6 {T : Told} (H : Hands T) : PieceOk T Tryz.prog 73 (.loop (loopAt 6 (bodyOf Tryz.f71) .skip)) ⟨poly_Mul_i6, poly_Mul_o6, lp poly_Mul_s6 K0⟩ :=
 loop_piece H.ty (n71 H) hm (LHok_of (l := []) (by kernel_rfl) trivial) poly_Mul_l6 K0
theorem poly_Mul_p11 {T : Told} (H : Hands T) : PieceOk T Tryz.prog 73 (.loop (loopAt 11 (bodyOf Tryz.f71) .skip)) ⟨poly_Mul_i11, poly_Mul_o11, lp poly_Mul_s11 K0⟩ :=
 loop_piece H.ty (n71 H) hm (LHok_of (l := [(.loop (loopAt 14 (bodyOf Tryz.f71) .skip), ⟨poly_Mul_i14, poly_Mul_o14, lp poly_Mul_s14 K0⟩)]) (by kernel_rfl) ⟨poly_Mul_p14 H, trivial⟩) poly_Mul_l11 K0
theorem ok71 {T : Told} (H : Hands T) : CtrOk T Tryz.prog 71 c71 :=
 fn_ok H.ty (n71 H) hm (lh := poly_Mul_lh) (ct := c71) (dcd := fun y => (y.2.1)) Tryz.func71 (by kernel_rfl) (by rfl) (LHok_of (l := [(.loop (loopAt 6 (bodyOf Tryz.f71) .skip), ⟨poly_Mul_i6, poly_Mul_o6, lp poly_Mul_s6 K0⟩), (.loop (loopAt 11 (bodyOf Tryz.f71) .skip), ⟨poly_Mul_i11, poly_Mul_o11, lp poly_Mul_s11 K0⟩)]) (by kernel_rfl) ⟨poly_Mul_p6 H, poly_Mul_p11 H, trivial⟩) (by decide) (fun _ => rfl) (fun x r h => (poly_Mul_eq x.1 x.2.1).trans h)
theorem n25 {T : Told} (H : Hands T) : EnvOk T Tryz.prog (envL e25) := envL_ok (l := e25) ⟨ok52 H, ok53 H, ok71 H, trivial⟩
theorem linear_Leaf_p3 {T : Told} (H : Hands T) : PieceOk T Tryz.prog 21 (.loop (loopAt 3 (bodyOf Tryz.f25) .skip)) ⟨linear_Leaf_i3, linear_Leaf_o3, lp linear_Leaf_s3 K0⟩ :=
 loop_piece H.ty (n25 H) hm (LHok_of (l := []) (by kernel_rfl) trivial) linear_Leaf_l3 K0
theorem ok25 {T : Told} (H : Hands T) : CtrOk T Tryz.prog 25 c25 :=
 fn_ok H.ty (n25 H) hm (lh := linear_Leaf_lh) (ct := c25) (dcd := fun y => (y.2.1)) Tryz.func25 (by kernel_rfl) (by rfl) (LHok_of (l := [(.loop (loopAt 3 (bodyOf Tryz.f25) .skip), ⟨linear_Leaf_i3, linear_Leaf_o3, lp linear_Leaf_s3 K0⟩)]) (by kernel_rfl) ⟨linear_Leaf_p3 H, trivial⟩) (by decide) (fun _ => rfl) (fun x r h => (linear_Leaf_eq x.1).trans h)
theorem n84 {T : Told} (H : Hands T) : EnvOk T Tryz.prog (envL e84) := envL_ok (l := e84) ⟨ok100 H, ok117 H, trivial⟩
theorem ok84 {T : Told} (H : Hands T) : CtrOk T Tryz.prog 84 c84 :=
 fn_ok H.ty (n84 H) hm (lh := whole_Neg_lh) (ct := c84) (dcd := fun y => (y.2.1)) Tryz.func84 (by kernel_rfl) (by rfl) (LHok_of (l := []) (by kernel_rfl) trivial) (by decide) (fun _ => rfl) (fun x r h => (whole_Neg_eq x.1).trans h)
theorem n35 {T : Told} (H : Hands T) : EnvOk T Tryz.prog (envL e35) := envL_ok (l := e35) ⟨ok55 H, ok84 H, trivial⟩
theorem ok35 {T : Told} (H : Hands T) : CtrOk T Tryz.prog 35 c35 :=
 fn_ok H.ty (n35 H) hm (lh := ratio_Neg_lh) (ct := c35) (dcd := fun y => (y.2.1)) Tryz.func35 (by kernel_rfl) (by rfl) (LHok_of (l := []) (by kernel_rfl) trivial) (by decide) (fun _ => rfl) (fun x r h => (ratio_Neg_eq x.1).trans h)
theorem n50 {T : Told} (H : Hands T) : EnvOk T Tryz.prog (envL e50) := envL_ok (l := e50) ⟨ok26 H, ok35 H, trivial⟩
theorem ok50 {T : Told} (H : Hands T) : CtrOk T Tryz.prog 50 c50 :=
 fn_ok H.ty (n50 H) hm (lh := ratio_Sub_lh) (ct := c50) (dcd := fun y => (y.2.1)) Tryz.func50 (by kernel_rfl) (by rfl) (LHok_of (l := []) (by kernel_rfl) trivial) (by decide) (fun _ => rfl) (fun x r h => (ratio_Sub_eq x.1 x.2.1).trans h)
theorem n86 {T : Told} (H : Hands T) : EnvOk T Tryz.prog (envL e86) := envL_ok (l := e86) ⟨ok54 H, ok72 H, ok84 H, ok100 H, trivial⟩
theorem ok86 {T : Told} (H : Hands T) : CtrOk T Tryz.prog 86 c86 :=
 fn_ok H.ty (n86 H) hm (lh := ratio_Make_lh) (ct := c86) (dcd := fun y => (y.2.1, y.2.2.1)) Tryz.func86 (by kernel_rfl) (by rfl) (LHok_of (l := []) (by kernel_rfl) trivial) (by decide) (fun _ => rfl) (fun x r h => (ratio_Make_eq x.1 x.2.1).trans h)
theorem n98 {T : Told} (H : Hands T) : EnvOk T Tryz.prog (envL e98) := envL_ok (l := e98) ⟨ok55 H, ok75 H, ok86 H, trivial⟩
theorem ok98 {T : Told} (H : Hands T) : CtrOk T Tryz.prog 98 c98 :=
 fn_ok H.ty (n98 H) hm (lh := ratio_Inv_lh) (ct := c98) (dcd := fun y => (y.2.1, y.2.2.1)) Tryz.func98 (by kernel_rfl) (by rfl) (LHok_of (l := []) (by kernel_rfl) trivial) (by decide) (fun _ => rfl) (fun x r h => (ratio_Inv_eq x.1).trans h)
theorem n51 {T : Told} (H : Hands T) : EnvOk T Tryz.prog (envL e51) := envL_ok (l := e51) ⟨ok27 H, ok50 H, ok97 H, ok98 H, ok99 H, trivial⟩
theorem poly_DivMod_p13 {T : Told} (H : Hands T) : PieceOk T Tryz.prog 93 (.loop (loopAt 13 (bodyOf Tryz.f51) .skip)) ⟨poly_DivMod_i13, poly_DivMod_o13, lp poly_DivMod_s13 K0⟩ :=
 loop_piece H.ty (n51 H) hm (LHok_of (l := []) (by kernel_rfl) trivial) poly_DivMod_l13 K0
theorem poly_DivMod_p9 {T : Told} (H : Hands T) : PieceOk T Tryz.prog 93 (.loop (loopAt 9 (bodyOf Tryz.f51) .skip)) ⟨poly_DivMod_i9, poly_DivMod_o9, lp poly_DivMod_s9 K0⟩ :=
 loop_piece H.ty (n51 H) hm (LHok_of (l := [(.loop (loopAt 13 (bodyOf Tryz.f51) .skip), ⟨poly_DivMod_i13, poly_DivMod_o13, lp poly_DivMod_s13 K0⟩)]) (by kernel_rfl) ⟨poly_DivMod_p13 H, trivial⟩) poly_DivMod_l9 K0
theorem ok51 {T : Told} (H : Hands T) : CtrOk T Tryz.prog 51 c51 :=
 fn_ok H.ty (n51 H) hm (lh := poly_DivMod_lh) (ct := c51) (dcd := fun y => (y.2.1, y.2.2.1, y.2.2.2.1)) Tryz.func51 (by kernel_rfl) (by rfl) (LHok_of (l := [(.loop (loopAt 9 (bodyOf Tryz.f51) .skip), ⟨poly_DivMod_i9, poly_DivMod_o9, lp poly_DivMod_s9 K0⟩)]) (by kernel_rfl) ⟨poly_DivMod_p9 H, trivial⟩) (by decide) (fun _ => rfl) (fun x r h => (poly_DivMod_eq x.1 x.2.1).trans h)
theorem n13 {T : Told} (H : Hands T) : EnvOk T Tryz.prog (envL e13) := envL_ok (l := e13) ⟨ok25 H, ok51 H, ok52 H, trivial⟩
theorem ok13 {T : Told} (H : Hands T) : CtrOk T Tryz.prog 13 c13 :=
 fn_ok H.ty (n13 H) hm (lh := linear_Without_lh) (ct := c13) (dcd := fun y => (y.2.1, y.2.2.1)) Tryz.func13 (by kernel_rfl) (by rfl) (LHok_of (l := []) (by kernel_rfl) trivial) (by decide) (fun _ => rfl) (fun x r h => (linear_Without_eq x.1 x.2.1).trans h)
theorem n63 {T : Told} (H : Hands T) : EnvOk T Tryz.prog (envL e63) := envL_ok (l := e63) trivial
theorem ok63 {T : Told} (H : Hands T) : CtrOk T Tryz.prog 63 c63 :=
 fn_okB H.ty (n63 H) hm (lh := weigh_New_lh) (ct := c63) (wi := w63) (dcd := fun y => (y.2.1, y.2.2.1, y.2.2.2.1, y.2.2.2.2.1)) Tryz.func63 (by kernel_rfl) (by rfl) (LHok_of (l := []) (by kernel_rfl) trivial) (fun _ => rfl) rfl (fun x r h => (weigh_New_eq ).trans h)
theorem n172 {T : Told} (H : Hands T) : EnvOk T Tryz.prog (envL e172) := envL_ok (l := e172) ⟨ok74 H, ok87 H, trivial⟩
theorem weigh_products_p4 {T : Told} (H : Hands T) : PieceOk T Tryz.prog 21 (.loop (loopAt 4 (bodyOf Tryz.f172) .skip)) ⟨weigh_products_i4, weigh_products_o4, lp weigh_products_s4 K0⟩ :=
 loop_piece H.ty (n172 H) hm (LHok_of (l := []) (by kernel_rfl) trivial) weigh_products_l4 K0
theorem ok172 {T : Told} (H : Hands T) : CtrOk T Tryz.prog 172 c172 :=
 fn_ok H.ty (n172 H) hm (lh := weigh_products_lh) (ct := c172) (dcd := fun y => (y.2.1)) Tryz.func172 (by kernel_rfl) (by rfl) (LHok_of (l := [(.loop (loopAt 4 (bodyOf Tryz.f172) .skip), ⟨weigh_products_i4, weigh_products_o4, lp weigh_products_s4 K0⟩)]) (by kernel_rfl) ⟨weigh_products_p4 H, trivial⟩) (by decide) (fun _ => rfl) (fun x r h => (weigh_products_eq ).trans h)
theorem n171 {T : Told} (H : Hands T) : EnvOk T Tryz.prog (envL e171) := envL_ok (l := e171) ⟨ok172 H, trivial⟩
theorem ok171 {T : Told} (H : Hands T) : CtrOk T Tryz.prog 171 c171 :=
 fn_okB H.ty (n171 H) hm (lh := weigh_Table_at_c1_lh) (ct := c171) (wi := w171) (dcd := fun y => (y.2.1, y.2.2.1, y.2.2.2.1, y.2.2.2.2.1)) Tryz.func171 (by kernel_rfl) (by rfl) (LHok_of (l := []) (by kernel_rfl) trivial) (fun _ => rfl) rfl (fun x r h => (weigh_Table_at_c1_eq x.1 x.2.1 x.2.2.1 x.2.2.2.1).trans h)
theorem ok161 {T : Told} (H : Hands T) : CtrOk T Tryz.prog 161 c161 := at_walk (ok171 H)
theorem n127 {T : Told} (H : Hands T) : EnvOk T Tryz.prog (envL e127) := envL_ok (l := e127) ⟨ok74 H, ok86 H, ok161 H, trivial⟩
theorem ok127 {T : Told} (H : Hands T) : CtrOk T Tryz.prog 127 c127 :=
 fn_okB H.ty (n127 H) hm (lh := weigh_Table_quotient_lh) (ct := c127) (wi := w127) (dcd := fun y => (y.2.1, y.2.2.1, y.2.2.2.1, y.2.2.2.2.1, y.2.2.2.2.2.1)) Tryz.func127 (by kernel_rfl) (by rfl) (LHok_of (l := []) (by kernel_rfl) trivial) (fun _ => rfl) rfl (fun x r h => (weigh_Table_quotient_eq x.1 x.2.1 x.2.2.1 x.2.2.2.1 x.2.2.2.2.1 x.2.2.2.2.2.1 x.2.2.2.2.2.2.1).trans h)
theorem n91 {T : Told} (H : Hands T) : EnvOk T Tryz.prog (envL e91) := envL_ok (l := e91) ⟨ok127 H, trivial⟩
theorem ok91 {T : Told} (H : Hands T) : CtrOk T Tryz.prog 91 c91 :=
 fn_okB H.ty (n91 H) hm (lh := weigh_Table_Weight_lh) (ct := c91) (wi := w91) (dcd := fun y => (y.2.1, y.2.2.1, y.2.2.2.1, y.2.2.2.2.1, y.2.2.2.2.2.1, y.2.2.2.2.2.2.1)) Tryz.func91 (by kernel_rfl) (by rfl) (LHok_of (l := []) (by kernel_rfl) trivial) (fun _ => rfl) rfl (fun x r h => (weigh_Table_Weight_eq x.1 x.2.1 x.2.2.1 x.2.2.2.1 x.2.2.2.2.1 x.2.2.2.2.2.1).trans h)
theorem n64 {T : Told} (H : Hands T) : EnvOk T Tryz.prog (envL e64) := envL_ok (l := e64) ⟨ok91 H, trivial⟩
theorem weigh_Table_All_p7 {T : Told} (H : Hands T) : PieceOk T Tryz.prog 35 (.loop (loopAt 7 (bodyOf Tryz.f64) .skip)) ⟨weigh_Table_All_i7, weigh_Table_All_o7, lp weigh_Table_All_s7 K0⟩ :=
 loop_piece H.ty (n64 H) hm (LHok_of (l := []) (by kernel_rfl) trivial) weigh_Table_All_l7 K0
theorem ok64 {T : Told} (H : Hands T) : CtrOk T Tryz.prog 64 c64 :=
 fn_okB H.ty (n64 H) hm (lh := weigh_Table_All_lh) (ct := c64) (wi := w64) (dcd := fun y => (y.2.1, y.2.2.1, y.2.2.2.1, y.2.2.2.2.1, y.2.2.2.2.2.1, y.2.2.2.2.2.2.1)) Tryz.func64 (by kernel_rfl) (by rfl) (LHok_of (l := [(.loop (loopAt 7 (bodyOf Tryz.f64) .skip), ⟨weigh_Table_All_i7, weigh_Table_All_o7, lp weigh_Table_All_s7 K0⟩)]) (by kernel_rfl) ⟨weigh_Table_All_p7 H, trivial⟩) (fun _ => rfl) rfl (fun x r h => (weigh_Table_All_eq x.1 x.2.1 x.2.2.1 x.2.2.2.1 x.2.2.2.2.1).trans h)
theorem n20 {T : Told} (H : Hands T) : EnvOk T Tryz.prog (envL e20) := envL_ok (l := e20) ⟨ok24 H, ok26 H, ok27 H, ok63 H, ok64 H, trivial⟩
theorem linear_Weigh_p8 {T : Told} (H : Hands T) : PieceOk T Tryz.prog 44 (.loop (loopAt 8 (bodyOf Tryz.f20) .skip)) ⟨linear_Weigh_i8, linear_Weigh_o8, lp linear_Weigh_s8 K0⟩ :=
 loop_piece H.ty (n20 H) hm (LHok_of (l := []) (by kernel_rfl) trivial) linear_Weigh_l8 K0
theorem ok20 {T : Told} (H : Hands T) : CtrOk T Tryz.prog 20 c20 :=
 fn_ok H.ty (n20 H) hm (lh := linear_Weigh_lh) (ct := c20) (dcd := fun y => (y.2.1, y.2.2.1)) Tryz.func20 (by kernel_rfl) (by rfl) (LHok_of (l := [(.loop (loopAt 8 (bodyOf Tryz.f20) .skip), ⟨linear_Weigh_i8, linear_Weigh_o8, lp linear_Weigh_s8 K0⟩)]) (by kernel_rfl) ⟨linear_Weigh_p8 H, trivial⟩) (by decide) (fun _ => rfl) (fun x r h => (linear_Weigh_eq x.1 x.2.1).trans h)
theorem n124 {T : Told} (H : Hands T) : EnvOk T Tryz.prog (envL e124) := envL_ok (l := e124) ⟨ok100 H, ok119 H, trivial⟩
theorem ok124 {T : Told} (H : Hands T) : CtrOk T Tryz.prog 124 c124 :=
 fn_ok H.ty (n124 H) hm (lh := whole_Cmp_lh) (ct := c124) (dcd := fun y => (y.2.1)) Tryz.func124 (by kernel_rfl) (by rfl) (LHok_of (l := []) (by kernel_rfl) trivial) (by decide) (fun _ => rfl) (fun x r h => (whole_Cmp_eq x.1 x.2.1).trans h)
theorem n80 {T : Told} (H : Hands T) : EnvOk T Tryz.prog (envL e80) := envL_ok (l := e80) ⟨ok55 H, ok74 H, ok75 H, ok124 H, trivial⟩
theorem ok80 {T : Told} (H : Hands T) : CtrOk T Tryz.prog 80 c80 :=
 fn_ok H.ty (n80 H) hm (lh := ratio_Cmp_lh) (ct := c80) (dcd := fun y => (y.2.1)) Tryz.func80 (by kernel_rfl) (by rfl) (LHok_of (l := []) (by kernel_rfl) trivial) (by decide) (fun _ => rfl) (fun x r h => (ratio_Cmp_eq x.1 x.2.1).trans h)
theorem n30 {T : Told} (H : Hands T) : EnvOk T Tryz.prog (envL e30) := envL_ok (l := e30) ⟨ok80 H, trivial⟩
theorem ok30 {T : Told} (H : Hands T) : CtrOk T Tryz.prog 30 c30 :=
 fn_ok H.ty (n30 H) hm (lh := ratio_Same_lh) (ct := c30) (dcd := fun y => (y.2.1)) Tryz.func30 (by kernel_rfl) (by rfl) (LHok_of (l := []) (by kernel_rfl) trivial) (by decide) (fun _ => rfl) (fun x r h => (ratio_Same_eq x.1 x.2.1).trans h)
theorem n14 {T : Told} (H : Hands T) : EnvOk T Tryz.prog (envL e14) := envL_ok (l := e14) ⟨ok20 H, ok30 H, ok53 H, trivial⟩
theorem dendronlaw16_awake_cF {r} (h : c14.F () = r) : dendronlaw16_awake = r := by
 subst h
 delta c14
 exact (@F_in [] _ _ (fun _ => dendronlaw16_awake) _ _ () _ rfl).symm
theorem dendronlaw16_awake_fx (x) (r : c14.T) (h : c14.F x = some r) : fnF tb (envL e14) Tryz.f14 dendronlaw16_awake_lh c14.ps c14.rs (T := c14.T) (fun y => (y.2.1)) x = some r := by
 cases x
 exact dendronlaw16_awake_eq.trans (dendronlaw16_awake_cF h)
theorem ok14 {T : Told} (H : Hands T) : CtrOk T Tryz.prog 14 c14 :=
 fn_ok H.ty (n14 H) hm (lh := dendronlaw16_awake_lh) (ct := c14) (dcd := fun y => (y.2.1)) Tryz.func14 (by kernel_rfl) (by rfl) (LHok_of (l := []) (by kernel_rfl) trivial) (by decide) (fun _ => rfl) (fun x r h => dendronlaw16_awake_fx x r h)
theorem n102 {T : Told} (H : Hands T) : EnvOk T Tryz.prog (envL e102) := envL_ok (l := e102) ⟨ok24 H, trivial⟩
theorem ok102 {T : Told} (H : Hands T) : CtrOk T Tryz.prog 102 c102 :=
 fn_ok H.ty (n102 H) hm (lh := poly_at_lh) (ct := c102) (dcd := fun y => (y.2.1)) Tryz.func102 (by kernel_rfl) (by rfl) (LHok_of (l := []) (by kernel_rfl) trivial) (by decide) (fun _ => rfl) (fun x r h => (poly_at_eq x.1 x.2.1).trans h)
theorem n60 {T : Told} (H : Hands T) : EnvOk T Tryz.prog (envL e60) := envL_ok (l := e60) ⟨ok26 H, ok99 H, ok102 H, trivial⟩
theorem poly_Add_p3 {T : Told} (H : Hands T) : PieceOk T Tryz.prog 28 (.loop (loopAt 3 (bodyOf Tryz.f60) .skip)) ⟨poly_Add_i3, poly_Add_o3, lp poly_Add_s3 K0⟩ :=
 loop_piece H.ty (n60 H) hm (LHok_of (l := []) (by kernel_rfl) trivial) poly_Add_l3 K0
theorem ok60 {T : Told} (H : Hands T) : CtrOk T Tryz.prog 60 c60 :=
 fn_ok H.ty (n60 H) hm (lh := poly_Add_lh) (ct := c60) (dcd := fun y => (y.2.1)) Tryz.func60 (by kernel_rfl) (by rfl) (LHok_of (l := [(.loop (loopAt 3 (bodyOf Tryz.f60) .skip), ⟨poly_Add_i3, poly_Add_o3, lp poly_Add_s3 K0⟩)]) (by kernel_rfl) ⟨poly_Add_p3 H, trivial⟩) (by decide) (fun _ => rfl) (fun x r h => (poly_Add_eq x.1 x.2.1).trans h)
theorem n61 {T : Told} (H : Hands T) : EnvOk T Tryz.prog (envL e61) := envL_ok (l := e61) ⟨ok27 H, ok99 H, trivial⟩
theorem poly_Scale_p3 {T : Told} (H : Hands T) : PieceOk T Tryz.prog 23 (.loop (loopAt 3 (bodyOf Tryz.f61) .skip)) ⟨poly_Scale_i3, poly_Scale_o3, lp poly_Scale_s3 K0⟩ :=
 loop_piece H.ty (n61 H) hm (LHok_of (l := []) (by kernel_rfl) trivial) poly_Scale_l3 K0
theorem ok61 {T : Told} (H : Hands T) : CtrOk T Tryz.prog 61 c61 :=
 fn_ok H.ty (n61 H) hm (lh := poly_Scale_lh) (ct := c61) (dcd := fun y => (y.2.1)) Tryz.func61 (by kernel_rfl) (by rfl) (LHok_of (l := [(.loop (loopAt 3 (bodyOf Tryz.f61) .skip), ⟨poly_Scale_i3, poly_Scale_o3, lp poly_Scale_s3 K0⟩)]) (by kernel_rfl) ⟨poly_Scale_p3 H, trivial⟩) (by decide) (fun _ => rfl) (fun x r h => (poly_Scale_eq x.1 x.2.1).trans h)
theorem n56 {T : Told} (H : Hands T) : EnvOk T Tryz.prog (envL e56) := envL_ok (l := e56) ⟨ok58 H, ok60 H, ok61 H, trivial⟩
theorem ok56 {T : Told} (H : Hands T) : CtrOk T Tryz.prog 56 c56 :=
 fn_ok H.ty (n56 H) hm (lh := poly_Sub_lh) (ct := c56) (dcd := fun y => (y.2.1)) Tryz.func56 (by kernel_rfl) (by rfl) (LHok_of (l := []) (by kernel_rfl) trivial) (by decide) (fun _ => rfl) (fun x r h => (poly_Sub_eq x.1 x.2.1).trans h)
theorem n16 {T : Told} (H : Hands T) : EnvOk T Tryz.prog (envL e16) := envL_ok (l := e16) ⟨ok56 H, trivial⟩
theorem ok16 {T : Told} (H : Hands T) : CtrOk T Tryz.prog 16 c16 :=
 fn_ok H.ty (n16 H) hm (lh := poly_Same_lh) (ct := c16) (dcd := fun y => (y.2.1)) Tryz.func16 (by kernel_rfl) (by rfl) (LHok_of (l := []) (by kernel_rfl) trivial) (by decide) (fun _ => rfl) (fun x r h => (poly_Same_eq x.1 x.2.1).trans h)
theorem n57 {T : Told} (H : Hands T) : EnvOk T Tryz.prog (envL e57) := envL_ok (l := e57) trivial
theorem dendronlaw16_in_p2 {T : Told} (H : Hands T) : PieceOk T Tryz.prog 16 (.loop (loopAt 2 (bodyOf Tryz.f57) .skip)) ⟨dendronlaw16_in_i2, dendronlaw16_in_o2, lp dendronlaw16_in_s2 K0⟩ :=
 loop_piece H.ty (n57 H) hm (LHok_of (l := []) (by kernel_rfl) trivial) dendronlaw16_in_l2 K0
theorem ok57 {T : Told} (H : Hands T) : CtrOk T Tryz.prog 57 c57 :=
 fn_ok H.ty (n57 H) hm (lh := dendronlaw16_in_lh) (ct := c57) (dcd := fun y => (y.2.1)) Tryz.func57 (by kernel_rfl) (by rfl) (LHok_of (l := [(.loop (loopAt 2 (bodyOf Tryz.f57) .skip), ⟨dendronlaw16_in_i2, dendronlaw16_in_o2, lp dendronlaw16_in_s2 K0⟩)]) (by kernel_rfl) ⟨dendronlaw16_in_p2 H, trivial⟩) (by decide) (fun _ => rfl) (fun x r h => (dendronlaw16_in_eq x.1 x.2.1).trans h)
theorem n17 {T : Told} (H : Hands T) : EnvOk T Tryz.prog (envL e17) := envL_ok (l := e17) ⟨ok24 H, ok26 H, ok27 H, ok53 H, ok57 H, trivial⟩
theorem dendronlaw16_sums_p14 {T : Told} (H : Hands T) : PieceOk T Tryz.prog 64 (.loop (loopAt 14 (bodyOf Tryz.f17) .skip)) ⟨dendronlaw16_sums_i14, dendronlaw16_sums_o14, lp dendronlaw16_sums_s14 K0⟩ :=
 loop_piece H.ty (n17 H) hm (LHok_of (l := []) (by kernel_rfl) trivial) dendronlaw16_sums_l14 K0
theorem dendronlaw16_sums_p4 {T : Told} (H : Hands T) : PieceOk T Tryz.prog 64 (.loop (loopAt 4 (bodyOf Tryz.f17) .skip)) ⟨dendronlaw16_sums_i4, dendronlaw16_sums_o4, lp dendronlaw16_sums_s4 K0⟩ :=
 loop_piece H.ty (n17 H) hm (LHok_of (l := []) (by kernel_rfl) trivial) dendronlaw16_sums_l4 K0
theorem dendronlaw16_sums_p9 {T : Told} (H : Hands T) : PieceOk T Tryz.prog 64 (.loop (loopAt 9 (bodyOf Tryz.f17) .skip)) ⟨dendronlaw16_sums_i9, dendronlaw16_sums_o9, lp dendronlaw16_sums_s9 K0⟩ :=
 loop_piece H.ty (n17 H) hm (LHok_of (l := [(.loop (loopAt 14 (bodyOf Tryz.f17) .skip), ⟨dendronlaw16_sums_i14, dendronlaw16_sums_o14, lp dendronlaw16_sums_s14 K0⟩)]) (by kernel_rfl) ⟨dendronlaw16_sums_p14 H, trivial⟩) dendronlaw16_sums_l9 K0
theorem ok17 {T : Told} (H : Hands T) : CtrOk T Tryz.prog 17 c17 :=
 fn_ok H.ty (n17 H) hm (lh := dendronlaw16_sums_lh) (ct := c17) (dcd := fun y => (y.2.1)) Tryz.func17 (by kernel_rfl) (by rfl) (LHok_of (l := [(.loop (loopAt 4 (bodyOf Tryz.f17) .skip), ⟨dendronlaw16_sums_i4, dendronlaw16_sums_o4, lp dendronlaw16_sums_s4 K0⟩), (.loop (loopAt 9 (bodyOf Tryz.f17) .skip), ⟨dendronlaw16_sums_i9, dendronlaw16_sums_o9, lp dendronlaw16_sums_s9 K0⟩)]) (by kernel_rfl) ⟨dendronlaw16_sums_p4 H, dendronlaw16_sums_p9 H, trivial⟩) (by decide) (fun _ => rfl) (fun x r h => (dendronlaw16_sums_eq x.1).trans h)
theorem n3 {T : Told} (H : Hands T) : EnvOk T Tryz.prog (envL e3) := envL_ok (l := e3) ⟨ok12 H, ok13 H, ok14 H, ok15 H, ok16 H, ok17 H, trivial⟩
theorem ok3 {T : Told} (H : Hands T) : CtrOk T Tryz.prog 3 c3 :=
 fn_ok H.ty (n3 H) hm (lh := dendronlaw16_LinearWithouts_lh) (ct := c3) (dcd := fun y => (y.2.1)) Tryz.func3 (by kernel_rfl) (by rfl) (LHok_of (l := []) (by kernel_rfl) trivial) (by decide) (fun _ => rfl) (fun x r h => (dendronlaw16_LinearWithouts_eq x.1 x.2.1).trans h)
theorem n110 {T : Told} (H : Hands T) : EnvOk T Tryz.prog (envL e110) := envL_ok (l := e110) trivial
theorem ok110 {T : Told} (H : Hands T) : CtrOk T Tryz.prog 110 c110 :=
 fn_ok H.ty (n110 H) hm (lh := dendronlaw07_number_lh) (ct := c110) (dcd := fun y => (y.2.1)) Tryz.func110 (by kernel_rfl) (by rfl) (LHok_of (l := []) (by kernel_rfl) trivial) (by decide) (fun _ => rfl) (fun x r h => (dendronlaw07_number_eq x.1).trans h)
theorem n67 {T : Told} (H : Hands T) : EnvOk T Tryz.prog (envL e67) := envL_ok (l := e67) ⟨ok110 H, trivial⟩
theorem dendronlaw07_Few_p7 {T : Told} (H : Hands T) : PieceOk T Tryz.prog 67 (.loop (loopAt 7 (bodyOf Tryz.f67) .skip)) ⟨dendronlaw07_Few_i7, dendronlaw07_Few_o7, lp dendronlaw07_Few_s7 K0⟩ :=
 loop_piece H.ty (n67 H) hm (LHok_of (l := []) (by kernel_rfl) trivial) dendronlaw07_Few_l7 K0
theorem dendronlaw07_Few_p3 {T : Told} (H : Hands T) : PieceOk T Tryz.prog 67 (.loop (loopAt 3 (bodyOf Tryz.f67) .skip)) ⟨dendronlaw07_Few_i3, dendronlaw07_Few_o3, lp dendronlaw07_Few_s3 K0⟩ :=
 loop_piece H.ty (n67 H) hm (LHok_of (l := [(.loop (loopAt 7 (bodyOf Tryz.f67) .skip), ⟨dendronlaw07_Few_i7, dendronlaw07_Few_o7, lp dendronlaw07_Few_s7 K0⟩)]) (by kernel_rfl) ⟨dendronlaw07_Few_p7 H, trivial⟩) dendronlaw07_Few_l3 K0
theorem ok67 {T : Told} (H : Hands T) : CtrOk T Tryz.prog 67 c67 :=
 fn_ok H.ty (n67 H) hm (lh := dendronlaw07_Few_lh) (ct := c67) (dcd := fun y => (y.2.1)) Tryz.func67 (by kernel_rfl) (by rfl) (LHok_of (l := [(.loop (loopAt 3 (bodyOf Tryz.f67) .skip), ⟨dendronlaw07_Few_i3, dendronlaw07_Few_o3, lp dendronlaw07_Few_s3 K0⟩)]) (by kernel_rfl) ⟨dendronlaw07_Few_p3 H, trivial⟩) (by decide) (fun _ => rfl) (fun x r h => (dendronlaw07_Few_eq x.1).trans h)
theorem n22 {T : Told} (H : Hands T) : EnvOk T Tryz.prog (envL e22) := envL_ok (l := e22) ⟨ok31 H, ok67 H, trivial⟩
theorem ok22 {T : Told} (H : Hands T) : CtrOk T Tryz.prog 22 c22 :=
 fn_ok H.ty (n22 H) hm (lh := dendronlaw11_Small_lh) (ct := c22) (dcd := fun y => (y.2.1, y.2.2.1)) Tryz.func22 (by kernel_rfl) (by rfl) (LHok_of (l := []) (by kernel_rfl) trivial) (by decide) (fun _ => rfl) (fun x r h => (dendronlaw11_Small_eq x.1 x.2.1).trans h)
theorem n154 {T : Told} (H : Hands T) : EnvOk T Tryz.prog (envL e154) := envL_ok (l := e154) trivial
theorem model_Fits_p9 {T : Told} (H : Hands T) : PieceOk T Tryz.prog 72 (.loop (loopAt 9 (bodyOf Tryz.f154) .skip)) ⟨model_Fits_i9, model_Fits_o9, lp model_Fits_s9 K0⟩ :=
 loop_piece H.ty (n154 H) hm (LHok_of (l := []) (by kernel_rfl) trivial) model_Fits_l9 K0
theorem model_Fits_p4 {T : Told} (H : Hands T) : PieceOk T Tryz.prog 72 (.loop (loopAt 4 (bodyOf Tryz.f154) .skip)) ⟨model_Fits_i4, model_Fits_o4, lp model_Fits_s4 K0⟩ :=
 loop_piece H.ty (n154 H) hm (LHok_of (l := [(.loop (loopAt 9 (bodyOf Tryz.f154) .skip), ⟨model_Fits_i9, model_Fits_o9, lp model_Fits_s9 K0⟩)]) (by kernel_rfl) ⟨model_Fits_p9 H, trivial⟩) model_Fits_l4 K0
theorem ok154 {T : Told} (H : Hands T) : CtrOk T Tryz.prog 154 c154 :=
 fn_ok H.ty (n154 H) hm (lh := model_Fits_lh) (ct := c154) (dcd := fun y => (y.2.1)) Tryz.func154 (by kernel_rfl) (by rfl) (LHok_of (l := [(.loop (loopAt 4 (bodyOf Tryz.f154) .skip), ⟨model_Fits_i4, model_Fits_o4, lp model_Fits_s4 K0⟩)]) (by kernel_rfl) ⟨model_Fits_p4 H, trivial⟩) (by decide) (fun _ => rfl) (fun x r h => (model_Fits_eq x.1).trans h)
theorem n155 {T : Told} (H : Hands T) : EnvOk T Tryz.prog (envL e155) := envL_ok (l := e155) trivial
theorem valid_ranges_p2 {T : Told} (H : Hands T) : PieceOk T Tryz.prog 52 (.loop (loopAt 2 (bodyOf Tryz.f155) .skip)) ⟨valid_ranges_i2, valid_ranges_o2, lp valid_ranges_s2 K0⟩ :=
 loop_piece H.ty (n155 H) hm (LHok_of (l := []) (by kernel_rfl) trivial) valid_ranges_l2 K0
theorem ok155 {T : Told} (H : Hands T) : CtrOk T Tryz.prog 155 c155 :=
 fn_ok H.ty (n155 H) hm (lh := valid_ranges_lh) (ct := c155) (dcd := fun y => (y.2.1, y.2.2.1)) Tryz.func155 (by kernel_rfl) (by rfl) (LHok_of (l := [(.loop (loopAt 2 (bodyOf Tryz.f155) .skip), ⟨valid_ranges_i2, valid_ranges_o2, lp valid_ranges_s2 K0⟩)]) (by kernel_rfl) ⟨valid_ranges_p2 H, trivial⟩) (by decide) (fun _ => rfl) (fun x r h => (valid_ranges_eq x.1 x.2.1).trans h)
theorem n156 {T : Told} (H : Hands T) : EnvOk T Tryz.prog (envL e156) := envL_ok (l := e156) trivial
theorem valid_shape_p3 {T : Told} (H : Hands T) : PieceOk T Tryz.prog 103 (.loop (loopAt 3 (bodyOf Tryz.f156) .skip)) ⟨valid_shape_i3, valid_shape_o3, lp valid_shape_s3 K0⟩ :=
 loop_piece H.ty (n156 H) hm (LHok_of (l := []) (by kernel_rfl) trivial) valid_shape_l3 K0
theorem valid_shape_p10 {T : Told} (H : Hands T) : PieceOk T Tryz.prog 103 (.loop (loopAt 10 (bodyOf Tryz.f156) .skip)) ⟨valid_shape_i10, valid_shape_o10, lp valid_shape_s10 K0⟩ :=
 loop_piece H.ty (n156 H) hm (LHok_of (l := []) (by kernel_rfl) trivial) valid_shape_l10 K0
theorem valid_shape_p17 {T : Told} (H : Hands T) : PieceOk T Tryz.prog 103 (.loop (loopAt 17 (bodyOf Tryz.f156) .skip)) ⟨valid_shape_i17, valid_shape_o17, lp valid_shape_s17 K0⟩ :=
 loop_piece H.ty (n156 H) hm (LHok_of (l := []) (by kernel_rfl) trivial) valid_shape_l17 K0
theorem valid_shape_p25 {T : Told} (H : Hands T) : PieceOk T Tryz.prog 103 (.loop (loopAt 25 (bodyOf Tryz.f156) .skip)) ⟨valid_shape_i25, valid_shape_o25, lp valid_shape_s25 K0⟩ :=
 loop_piece H.ty (n156 H) hm (LHok_of (l := []) (by kernel_rfl) trivial) valid_shape_l25 K0
theorem ok156 {T : Told} (H : Hands T) : CtrOk T Tryz.prog 156 c156 :=
 fn_ok H.ty (n156 H) hm (lh := valid_shape_lh) (ct := c156) (dcd := fun y => (y.2.1, y.2.2.1)) Tryz.func156 (by kernel_rfl) (by rfl) (LHok_of (l := [(.loop (loopAt 3 (bodyOf Tryz.f156) .skip), ⟨valid_shape_i3, valid_shape_o3, lp valid_shape_s3 K0⟩), (.loop (loopAt 10 (bodyOf Tryz.f156) .skip), ⟨valid_shape_i10, valid_shape_o10, lp valid_shape_s10 K0⟩), (.loop (loopAt 17 (bodyOf Tryz.f156) .skip), ⟨valid_shape_i17, valid_shape_o17, lp valid_shape_s17 K0⟩), (.loop (loopAt 25 (bodyOf Tryz.f156) .skip), ⟨valid_shape_i25, valid_shape_o25, lp valid_shape_s25 K0⟩)]) (by kernel_rfl) ⟨valid_shape_p3 H, valid_shape_p10 H, valid_shape_p17 H, valid_shape_p25 H, trivial⟩) (by decide) (fun _ => rfl) (fun x r h => (valid_shape_eq x.1).trans h)
theorem n157 {T : Told} (H : Hands T) : EnvOk T Tryz.prog (envL e157) := envL_ok (l := e157) ⟨ok15 H, trivial⟩
theorem valid_covers_p2 {T : Told} (H : Hands T) : PieceOk T Tryz.prog 19 (.loop (loopAt 2 (bodyOf Tryz.f157) .skip)) ⟨valid_covers_i2, valid_covers_o2, lp valid_covers_s2 K0⟩ :=
 loop_piece H.ty (n157 H) hm (LHok_of (l := []) (by kernel_rfl) trivial) valid_covers_l2 K0
theorem ok157 {T : Told} (H : Hands T) : CtrOk T Tryz.prog 157 c157 :=
 fn_ok H.ty (n157 H) hm (lh := valid_covers_lh) (ct := c157) (dcd := fun y => (y.2.1, y.2.2.1)) Tryz.func157 (by kernel_rfl) (by rfl) (LHok_of (l := [(.loop (loopAt 2 (bodyOf Tryz.f157) .skip), ⟨valid_covers_i2, valid_covers_o2, lp valid_covers_s2 K0⟩)]) (by kernel_rfl) ⟨valid_covers_p2 H, trivial⟩) (by decide) (fun _ => rfl) (fun x r h => (valid_covers_eq x.1).trans h)
theorem n158 {T : Told} (H : Hands T) : EnvOk T Tryz.prog (envL e158) := envL_ok (l := e158) ⟨ok26 H, ok30 H, trivial⟩
theorem valid_sums_p2 {T : Told} (H : Hands T) : PieceOk T Tryz.prog 37 (.loop (loopAt 2 (bodyOf Tryz.f158) .skip)) ⟨valid_sums_i2, valid_sums_o2, lp valid_sums_s2 K0⟩ :=
 loop_piece H.ty (n158 H) hm (LHok_of (l := []) (by kernel_rfl) trivial) valid_sums_l2 K0
theorem ok158 {T : Told} (H : Hands T) : CtrOk T Tryz.prog 158 c158 :=
 fn_ok H.ty (n158 H) hm (lh := valid_sums_lh) (ct := c158) (dcd := fun y => (y.2.1, y.2.2.1)) Tryz.func158 (by kernel_rfl) (by rfl) (LHok_of (l := [(.loop (loopAt 2 (bodyOf Tryz.f158) .skip), ⟨valid_sums_i2, valid_sums_o2, lp valid_sums_s2 K0⟩)]) (by kernel_rfl) ⟨valid_sums_p2 H, trivial⟩) (by decide) (fun _ => rfl) (fun x r h => (valid_sums_eq x.1).trans h)
theorem n159 {T : Told} (H : Hands T) : EnvOk T Tryz.prog (envL e159) := envL_ok (l := e159) trivial
theorem ok159 {T : Told} (H : Hands T) : CtrOk T Tryz.prog 159 c159 :=
 fn_ok H.ty (n159 H) hm (lh := valid_fault_lh) (ct := c159) (dcd := fun y => (y.2.1)) Tryz.func159 (by kernel_rfl) (by rfl) (LHok_of (l := []) (by kernel_rfl) trivial) (by decide) (fun _ => rfl) (fun x r h => (valid_fault_eq x.1 x.2.1 x.2.2.1).trans h)
theorem n121 {T : Told} (H : Hands T) : EnvOk T Tryz.prog (envL e121) := envL_ok (l := e121) ⟨ok154 H, ok155 H, ok156 H, ok157 H, ok158 H, ok159 H, trivial⟩
theorem valid_Check_p7 {T : Told} (H : Hands T) : PieceOk T Tryz.prog 63 (.loop (loopAt 7 (bodyOf Tryz.f121) .skip)) ⟨valid_Check_i7, valid_Check_o7, lp valid_Check_s7 K0⟩ :=
 loop_piece H.ty (n121 H) hm (LHok_of (l := []) (by kernel_rfl) trivial) valid_Check_l7 K0
theorem valid_Check_p4 {T : Told} (H : Hands T) : PieceOk T Tryz.prog 63 (.loop (loopAt 4 (bodyOf Tryz.f121) .skip)) ⟨valid_Check_i4, valid_Check_o4, lp valid_Check_s4 K0⟩ :=
 loop_piece H.ty (n121 H) hm (LHok_of (l := [(.loop (loopAt 7 (bodyOf Tryz.f121) .skip), ⟨valid_Check_i7, valid_Check_o7, lp valid_Check_s7 K0⟩)]) (by kernel_rfl) ⟨valid_Check_p7 H, trivial⟩) valid_Check_l4 K0
theorem ok121 {T : Told} (H : Hands T) : CtrOk T Tryz.prog 121 c121 :=
 fn_ok H.ty (n121 H) hm (lh := valid_Check_lh) (ct := c121) (dcd := fun y => (y.2.1)) Tryz.func121 (by kernel_rfl) (by rfl) (LHok_of (l := [(.loop (loopAt 4 (bodyOf Tryz.f121) .skip), ⟨valid_Check_i4, valid_Check_o4, lp valid_Check_s4 K0⟩)]) (by kernel_rfl) ⟨valid_Check_p4 H, trivial⟩) (by decide) (fun _ => rfl) (fun x r h => (valid_Check_eq x.1).trans h)
theorem n77 {T : Told} (H : Hands T) : EnvOk T Tryz.prog (envL e77) := envL_ok (l := e77) ⟨ok121 H, trivial⟩
theorem ok77 {T : Told} (H : Hands T) : CtrOk T Tryz.prog 77 c77 :=
 fn_ok H.ty (n77 H) hm (lh := valid_Ok_lh) (ct := c77) (dcd := fun y => (y.2.1)) Tryz.func77 (by kernel_rfl) (by rfl) (LHok_of (l := []) (by kernel_rfl) trivial) (by decide) (fun _ => rfl) (fun x r h => (valid_Ok_eq x.1).trans h)
theorem n68 {T : Told} (H : Hands T) : EnvOk T Tryz.prog (envL e68) := envL_ok (l := e68) ⟨ok77 H, trivial⟩
theorem ok68 {T : Told} (H : Hands T) : CtrOk T Tryz.prog 68 c68 :=
 fn_ok H.ty (n68 H) hm (lh := valid_Tree_lh) (ct := c68) (dcd := fun y => (y.2.1)) Tryz.func68 (by kernel_rfl) (by rfl) (LHok_of (l := []) (by kernel_rfl) trivial) (by decide) (fun _ => rfl) (fun x r h => (valid_Tree_eq x.1 x.2.1).trans h)
theorem n142 {T : Told} (H : Hands T) : EnvOk T Tryz.prog (envL e142) := envL_ok (l := e142) ⟨ok80 H, trivial⟩
theorem ok142 {T : Told} (H : Hands T) : CtrOk T Tryz.prog 142 c142 :=
 fn_ok H.ty (n142 H) hm (lh := route_goes_lh) (ct := c142) (dcd := fun y => (y.2.1)) Tryz.func142 (by kernel_rfl) (by rfl) (LHok_of (l := []) (by kernel_rfl) trivial) (by decide) (fun _ => rfl) (fun x r h => (route_goes_eq x.1 x.2.1).trans h)
theorem n111 {T : Told} (H : Hands T) : EnvOk T Tryz.prog (envL e111) := envL_ok (l := e111) ⟨ok142 H, trivial⟩
theorem ok111 {T : Told} (H : Hands T) : CtrOk T Tryz.prog 111 c111 :=
 fn_ok H.ty (n111 H) hm (lh := route_Left_lh) (ct := c111) (dcd := fun y => (y.2.1)) Tryz.func111 (by kernel_rfl) (by rfl) (LHok_of (l := []) (by kernel_rfl) trivial) (by decide) (fun _ => rfl) (fun x r h => (route_Left_eq x.1 x.2.1).trans h)
theorem n112 {T : Told} (H : Hands T) : EnvOk T Tryz.prog (envL e112) := envL_ok (l := e112) ⟨ok27 H, trivial⟩
theorem expect_along_p3 {T : Told} (H : Hands T) : PieceOk T Tryz.prog 86 (.loop (loopAt 3 (bodyOf Tryz.f112) .skip)) ⟨expect_along_i3, expect_along_o3, lp expect_along_s3 K0⟩ :=
 loop_piece H.ty (n112 H) hm (LHok_of (l := []) (by kernel_rfl) trivial) expect_along_l3 K0
theorem ok112 {T : Told} (H : Hands T) : CtrOk T Tryz.prog 112 c112 :=
 fn_ok H.ty (n112 H) hm (lh := expect_along_lh) (ct := c112) (dcd := fun y => (y.2.1)) Tryz.func112 (by kernel_rfl) (by rfl) (LHok_of (l := [(.loop (loopAt 3 (bodyOf Tryz.f112) .skip), ⟨expect_along_i3, expect_along_o3, lp expect_along_s3 K0⟩)]) (by kernel_rfl) ⟨expect_along_p3 H, trivial⟩) (by decide) (fun _ => rfl) (fun x r h => (expect_along_eq x.1 x.2.1 x.2.2.1 x.2.2.2.1).trans h)
theorem n143 {T : Told} (H : Hands T) : EnvOk T Tryz.prog (envL e143) := envL_ok (l := e143) ⟨ok27 H, ok98 H, trivial⟩
theorem ok143 {T : Told} (H : Hands T) : CtrOk T Tryz.prog 143 c143 :=
 fn_ok H.ty (n143 H) hm (lh := ratio_Div_lh) (ct := c143) (dcd := fun y => (y.2.1, y.2.2.1)) Tryz.func143 (by kernel_rfl) (by rfl) (LHok_of (l := []) (by kernel_rfl) trivial) (by decide) (fun _ => rfl) (fun x r h => (ratio_Div_eq x.1 x.2.1).trans h)
theorem n113 {T : Told} (H : Hands T) : EnvOk T Tryz.prog (envL e113) := envL_ok (l := e113) ⟨ok143 H, trivial⟩
theorem ok113 {T : Told} (H : Hands T) : CtrOk T Tryz.prog 113 c113 :=
 fn_ok H.ty (n113 H) hm (lh := expect_over_lh) (ct := c113) (dcd := fun y => (y.2.1)) Tryz.func113 (by kernel_rfl) (by rfl) (LHok_of (l := []) (by kernel_rfl) trivial) (by decide) (fun _ => rfl) (fun x r h => (expect_over_eq x.1 x.2.1).trans h)
theorem n69 {T : Told} (H : Hands T) (n : Nat) (hr : CtrOk T Tryz.prog 69 (c69 n)) : EnvOk T Tryz.prog (envL (e69 n)) := envL_ok (l := (e69 n)) ⟨ok55 H, hr, ok111 H, ok112 H, ok113 H, trivial⟩
theorem ok69 {T : Told} (H : Hands T) : ∀ n, CtrOk T Tryz.prog 69 (c69 n)
 | 0 => CtrOk.never Tryz.func69 (by kernel_rfl) (by rfl) (fun _ => rfl)
 | n + 1 => fn_ok H.ty (n69 H n (ok69 H n)) hm (lh := expect_legs_lh n) (ct := c69 (n + 1)) (dcd := fun y => (y.2.1)) Tryz.func69 (by kernel_rfl) (by rfl) (LHok_of (l := []) (by kernel_rfl) trivial) (Nat.le_of_ble_eq_true rfl) (fun _ => rfl) (fun x r h => (expect_legs_eq n x.1 x.2.1 x.2.2.1 x.2.2.2.1).trans h)
theorem n23 {T : Told} (H : Hands T) : EnvOk T Tryz.prog (envL e23) := envL_ok (l := e23) ⟨ok68 H, ok69 H R0, trivial⟩
theorem ok23 {T : Told} (H : Hands T) : CtrOk T Tryz.prog 23 c23 :=
 fn_ok H.ty (n23 H) hm (lh := expect_Legs_lh) (ct := c23) (dcd := fun y => (y.2.1, y.2.2.1)) Tryz.func23 (by kernel_rfl) (by rfl) (LHok_of (l := []) (by kernel_rfl) trivial) (by decide) (fun _ => rfl) (fun x r h => (expect_Legs_eq x.1 x.2.1).trans h)
theorem n95 {T : Told} (H : Hands T) : EnvOk T Tryz.prog (envL e95) := envL_ok (l := e95) ⟨ok77 H, trivial⟩
theorem ok95 {T : Told} (H : Hands T) : CtrOk T Tryz.prog 95 c95 :=
 fn_ok H.ty (n95 H) hm (lh := route_fits_lh) (ct := c95) (dcd := fun y => (y.2.1)) Tryz.func95 (by kernel_rfl) (by rfl) (LHok_of (l := []) (by kernel_rfl) trivial) (by decide) (fun _ => rfl) (fun x r h => (route_fits_eq x.1 x.2.1).trans h)
theorem n78 {T : Told} (H : Hands T) : EnvOk T Tryz.prog (envL e78) := envL_ok (l := e78) ⟨ok95 H, trivial⟩
theorem ok78 {T : Told} (H : Hands T) : CtrOk T Tryz.prog 78 c78 :=
 fn_ok H.ty (n78 H) hm (lh := route_Fits_lh) (ct := c78) (dcd := fun y => (y.2.1)) Tryz.func78 (by kernel_rfl) (by rfl) (LHok_of (l := []) (by kernel_rfl) trivial) (by decide) (fun _ => rfl) (fun x r h => (route_Fits_eq x.1 x.2.1).trans h)
theorem n122 {T : Told} (H : Hands T) : EnvOk T Tryz.prog (envL e122) := envL_ok (l := e122) trivial
theorem ok122 {T : Told} (H : Hands T) : CtrOk T Tryz.prog 122 c122 :=
 fn_ok H.ty (n122 H) hm (lh := expect_known_lh) (ct := c122) (dcd := fun y => (y.2.1)) Tryz.func122 (by kernel_rfl) (by rfl) (LHok_of (l := []) (by kernel_rfl) trivial) (by decide) (fun _ => rfl) (fun x r h => (expect_known_eq x.1 x.2.1).trans h)
theorem n123 {T : Told} (H : Hands T) : EnvOk T Tryz.prog (envL e123) := envL_ok (l := e123) ⟨ok26 H, ok27 H, ok113 H, trivial⟩
theorem ok123 {T : Told} (H : Hands T) : CtrOk T Tryz.prog 123 c123 :=
 fn_ok H.ty (n123 H) hm (lh := expect_mean_lh) (ct := c123) (dcd := fun y => (y.2.1)) Tryz.func123 (by kernel_rfl) (by rfl) (LHok_of (l := []) (by kernel_rfl) trivial) (by decide) (fun _ => rfl) (fun x r h => (expect_mean_eq x.1 x.2.1 x.2.2.1 x.2.2.2.1).trans h)
theorem n79 {T : Told} (H : Hands T) (n : Nat) (hr : CtrOk T Tryz.prog 79 (c79 n)) : EnvOk T Tryz.prog (envL (e79 n)) := envL_ok (l := (e79 n)) ⟨ok55 H, hr, ok111 H, ok122 H, ok123 H, trivial⟩
theorem ok79 {T : Told} (H : Hands T) : ∀ n, CtrOk T Tryz.prog 79 (c79 n)
 | 0 => CtrOk.never Tryz.func79 (by kernel_rfl) (by rfl) (fun _ => rfl)
 | n + 1 => fn_ok H.ty (n79 H n (ok79 H n)) hm (lh := expect_value_lh n) (ct := c79 (n + 1)) (dcd := fun y => (y.2.1)) Tryz.func79 (by kernel_rfl) (by rfl) (LHok_of (l := []) (by kernel_rfl) trivial) (Nat.le_of_ble_eq_true rfl) (fun _ => rfl) (fun x r h => (expect_value_eq n x.1 x.2.1 x.2.2.1 x.2.2.2.1).trans h)
theorem n29 {T : Told} (H : Hands T) : EnvOk T Tryz.prog (envL e29) := envL_ok (l := e29) ⟨ok24 H, ok26 H, ok78 H, ok79 H R0, trivial⟩
theorem expect_Value_p6 {T : Told} (H : Hands T) : PieceOk T Tryz.prog 35 (.loop (loopAt 6 (bodyOf Tryz.f29) .skip)) ⟨expect_Value_i6, expect_Value_o6, lp expect_Value_s6 K0⟩ :=
 loop_piece H.ty (n29 H) hm (LHok_of (l := []) (by kernel_rfl) trivial) expect_Value_l6 K0
theorem ok29 {T : Told} (H : Hands T) : CtrOk T Tryz.prog 29 c29 :=
 fn_ok H.ty (n29 H) hm (lh := expect_Value_lh) (ct := c29) (dcd := fun y => (y.2.1, y.2.2.1)) Tryz.func29 (by kernel_rfl) (by rfl) (LHok_of (l := [(.loop (loopAt 6 (bodyOf Tryz.f29) .skip), ⟨expect_Value_i6, expect_Value_o6, lp expect_Value_s6 K0⟩)]) (by kernel_rfl) ⟨expect_Value_p6 H, trivial⟩) (by decide) (fun _ => rfl) (fun x r h => (expect_Value_eq x.1 x.2.1 x.2.2.1).trans h)
theorem n28 {T : Told} (H : Hands T) : EnvOk T Tryz.prog (envL e28) := envL_ok (l := e28) ⟨ok29 H, ok77 H, trivial⟩
theorem ok28 {T : Told} (H : Hands T) : CtrOk T Tryz.prog 28 c28 :=
 fn_ok H.ty (n28 H) hm (lh := expect_Base_lh) (ct := c28) (dcd := fun y => (y.2.1, y.2.2.1)) Tryz.func28 (by kernel_rfl) (by rfl) (LHok_of (l := []) (by kernel_rfl) trivial) (by decide) (fun _ => rfl) (fun x r h => (expect_Base_eq x.1).trans h)
theorem n5 {T : Told} (H : Hands T) : EnvOk T Tryz.prog (envL e5) := envL_ok (l := e5) ⟨ok14 H, ok22 H, ok23 H, ok24 H, ok25 H, ok26 H, ok27 H, ok28 H, ok29 H, ok30 H, trivial⟩
theorem dendronlaw16_LinearLegs_p8 {T : Told} (H : Hands T) : PieceOk T Tryz.prog 129 (.loop (loopAt 8 (bodyOf Tryz.f5) .skip)) ⟨dendronlaw16_LinearLegs_i8, dendronlaw16_LinearLegs_o8, lp dendronlaw16_LinearLegs_s8 K0⟩ :=
 loop_piece H.ty (n5 H) hm (LHok_of (l := []) (by kernel_rfl) trivial) dendronlaw16_LinearLegs_l8 K0
theorem ok5 {T : Told} (H : Hands T) : CtrOk T Tryz.prog 5 c5 :=
 fn_ok H.ty (n5 H) hm (lh := dendronlaw16_LinearLegs_lh) (ct := c5) (dcd := fun y => (y.2.1)) Tryz.func5 (by kernel_rfl) (by rfl) (LHok_of (l := [(.loop (loopAt 8 (bodyOf Tryz.f5) .skip), ⟨dendronlaw16_LinearLegs_i8, dendronlaw16_LinearLegs_o8, lp dendronlaw16_LinearLegs_s8 K0⟩)]) (by kernel_rfl) ⟨dendronlaw16_LinearLegs_p8 H, trivial⟩) (by decide) (fun _ => rfl) (fun x r h => (dendronlaw16_LinearLegs_eq x.1 x.2.1).trans h)
end Go.Proofs.YtaonkcmflkmncaaGreatDoor.X
