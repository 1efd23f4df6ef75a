/- Own work: part of the proof; the first line of each part says what it tells. -/
import Derived.Test.YtaonkcmflkmncaaGreatDoorLf9
import Derived.Test.YtaonkcmflkmncaaGreatDoorLf13
import Derived.Test.YtaonkcmflkmncaaGreatDoorLf14


namespace Go.Proofs.YtaonkcmflkmncaaGreatDoor.X
open Go
set_option linter.unusedVariables false
set_option linter.unusedSimpArgs false
set_option maxRecDepth 100000
theorem F_in {ps : List (Ty × PM)} {rs : List (Ty × Bool)} {T : Type} {F : HL (fsts ps) → Option T} {enc : T → HL (lents ps) × HL (fsts rs)} {wi : Option Wir} (x : HL (fsts ps)) {r : Option T} (h : F x = r) : (Ctr.mk ps rs T F enc wi).F x = r := h
theorem hm : Tryz.prog.follows .mixedOrders = true := by kernel_rfl
structure Hands (T : Told) : Prop where
 ty : TbOk Tryz.prog tb
 h167 : CtrOk T Tryz.prog 167 c167
 h174 : CtrOk T Tryz.prog 174 c174
theorem n114 {T : Told} (H : Hands T) : EnvOk T Tryz.prog (envL e114) := envL_ok (l := e114) trivial
theorem nat_trim_p2 {T : Told} (H : Hands T) : PieceOk T Tryz.prog 23 (.loop (loopAt 2 (bodyOf Tryz.f114) .skip)) ⟨nat_trim_i2, nat_trim_o2, lp nat_trim_s2 K0⟩ :=
 loop_piece H.ty (n114 H) hm (LHok_of (l := []) (by kernel_rfl) trivial) nat_trim_l2 K0
theorem ok114 {T : Told} (H : Hands T) : CtrOk T Tryz.prog 114 c114 :=
 fn_ok H.ty (n114 H) hm (lh := nat_trim_lh) (ct := c114) (dcd := fun y => (y.2.1)) Tryz.func114 (by kernel_rfl) (by rfl) (LHok_of (l := [(.loop (loopAt 2 (bodyOf Tryz.f114) .skip), ⟨nat_trim_i2, nat_trim_o2, lp nat_trim_s2 K0⟩)]) (by kernel_rfl) ⟨nat_trim_p2 H, trivial⟩) (by decide) (fun _ => rfl) (fun x r h => (nat_trim_eq x.1).trans h)
theorem n101 {T : Told} (H : Hands T) : EnvOk T Tryz.prog (envL e101) := envL_ok (l := e101) ⟨ok114 H, trivial⟩
theorem nat_Clean_p3 {T : Told} (H : Hands T) : PieceOk T Tryz.prog 24 (.loop (loopAt 3 (bodyOf Tryz.f101) .skip)) ⟨nat_Clean_i3, nat_Clean_o3, lp nat_Clean_s3 K0⟩ :=
 loop_piece H.ty (n101 H) hm (LHok_of (l := []) (by kernel_rfl) trivial) nat_Clean_l3 K0
theorem ok101 {T : Told} (H : Hands T) : CtrOk T Tryz.prog 101 c101 :=
 fn_ok H.ty (n101 H) hm (lh := nat_Clean_lh) (ct := c101) (dcd := fun y => (y.2.1)) Tryz.func101 (by kernel_rfl) (by rfl) (LHok_of (l := [(.loop (loopAt 3 (bodyOf Tryz.f101) .skip), ⟨nat_Clean_i3, nat_Clean_o3, lp nat_Clean_s3 K0⟩)]) (by kernel_rfl) ⟨nat_Clean_p3 H, trivial⟩) (by decide) (fun _ => rfl) (fun x r h => (nat_Clean_eq x.1).trans h)
theorem n117 {T : Told} (H : Hands T) : EnvOk T Tryz.prog (envL e117) := envL_ok (l := e117) trivial
theorem ok117 {T : Told} (H : Hands T) : CtrOk T Tryz.prog 117 c117 :=
 fn_ok H.ty (n117 H) hm (lh := whole_sign_lh) (ct := c117) (dcd := fun y => (y.2.1)) Tryz.func117 (by kernel_rfl) (by rfl) (LHok_of (l := []) (by kernel_rfl) trivial) (by decide) (fun _ => rfl) (fun x r h => (whole_sign_eq x.1 x.2.1).trans h)
theorem n100 {T : Told} (H : Hands T) : EnvOk T Tryz.prog (envL e100) := envL_ok (l := e100) ⟨ok101 H, ok117 H, trivial⟩
theorem ok100 {T : Told} (H : Hands T) : CtrOk T Tryz.prog 100 c100 :=
 fn_ok H.ty (n100 H) hm (lh := whole_Clean_lh) (ct := c100) (dcd := fun y => (y.2.1)) Tryz.func100 (by kernel_rfl) (by rfl) (LHok_of (l := []) (by kernel_rfl) trivial) (by decide) (fun _ => rfl) (fun x r h => (whole_Clean_eq x.1).trans h)
theorem n54 {T : Told} (H : Hands T) : EnvOk T Tryz.prog (envL e54) := envL_ok (l := e54) ⟨ok100 H, trivial⟩
theorem ok54 {T : Told} (H : Hands T) : CtrOk T Tryz.prog 54 c54 :=
 fn_ok H.ty (n54 H) hm (lh := whole_Sign_lh) (ct := c54) (dcd := fun y => (y.2.1)) Tryz.func54 (by kernel_rfl) (by rfl) (LHok_of (l := []) (by kernel_rfl) trivial) (by decide) (fun _ => rfl) (fun x r h => (whole_Sign_eq x.1).trans h)
theorem n70 {T : Told} (H : Hands T) : EnvOk T Tryz.prog (envL e70) := envL_ok (l := e70) ⟨ok114 H, trivial⟩
theorem ok70 {T : Told} (H : Hands T) : CtrOk T Tryz.prog 70 c70 :=
 fn_ok H.ty (n70 H) hm (lh := nat_Of_lh) (ct := c70) (dcd := fun y => (y.2.1)) Tryz.func70 (by kernel_rfl) (by rfl) (LHok_of (l := []) (by kernel_rfl) trivial) (by decide) (fun _ => rfl) (fun x r h => (nat_Of_eq x.1).trans h)
theorem n24 {T : Told} (H : Hands T) : EnvOk T Tryz.prog (envL e24) := envL_ok (l := e24) ⟨ok70 H, trivial⟩
theorem ok24 {T : Told} (H : Hands T) : CtrOk T Tryz.prog 24 c24 :=
 fn_ok H.ty (n24 H) hm (lh := ratio_Zero_lh) (ct := c24) (dcd := fun y => (y.2.1)) Tryz.func24 (by kernel_rfl) (by rfl) (LHok_of (l := []) (by kernel_rfl) trivial) (by decide) (fun _ => rfl) (fun x r h => (ratio_Zero_eq ).trans h)
theorem n166 {T : Told} (H : Hands T) : EnvOk T Tryz.prog (envL e166) := envL_ok (l := e166) ⟨ok101 H, trivial⟩
theorem ok166 {T : Told} (H : Hands T) : CtrOk T Tryz.prog 166 c166 :=
 fn_ok H.ty (n166 H) hm (lh := nat_To_lh) (ct := c166) (dcd := fun y => (y.2.1, y.2.2.1)) Tryz.func166 (by kernel_rfl) (by rfl) (LHok_of (l := []) (by kernel_rfl) trivial) (by decide) (fun _ => rfl) (fun x r h => (nat_To_eq x.1).trans h)
theorem n144 {T : Told} (H : Hands T) : EnvOk T Tryz.prog (envL e144) := envL_ok (l := e144) ⟨ok70 H, ok166 H, trivial⟩
theorem nat_euclid_p3 {T : Told} (H : Hands T) : PieceOk T Tryz.prog 27 (.loop (loopAt 3 (bodyOf Tryz.f144) .skip)) ⟨nat_euclid_i3, nat_euclid_o3, lp nat_euclid_s3 K0⟩ :=
 loop_piece H.ty (n144 H) hm (LHok_of (l := []) (by kernel_rfl) trivial) nat_euclid_l3 K0
theorem ok144 {T : Told} (H : Hands T) : CtrOk T Tryz.prog 144 c144 :=
 fn_ok H.ty (n144 H) hm (lh := nat_euclid_lh) (ct := c144) (dcd := fun y => (y.2.1)) Tryz.func144 (by kernel_rfl) (by rfl) (LHok_of (l := [(.loop (loopAt 3 (bodyOf Tryz.f144) .skip), ⟨nat_euclid_i3, nat_euclid_o3, lp nat_euclid_s3 K0⟩)]) (by kernel_rfl) ⟨nat_euclid_p3 H, trivial⟩) (by decide) (fun _ => rfl) (fun x r h => (nat_euclid_eq x.1 x.2.1).trans h)
theorem n145 {T : Told} (H : Hands T) : EnvOk T Tryz.prog (envL e145) := envL_ok (l := e145) ⟨H.h167, trivial⟩
theorem nat_zeros_p3 {T : Told} (H : Hands T) : PieceOk T Tryz.prog 24 (.loop (loopAt 3 (bodyOf Tryz.f145) .skip)) ⟨nat_zeros_i3, nat_zeros_o3, lp nat_zeros_s3 K0⟩ :=
 loop_piece H.ty (n145 H) hm (LHok_of (l := []) (by kernel_rfl) trivial) nat_zeros_l3 K0
theorem ok145 {T : Told} (H : Hands T) : CtrOk T Tryz.prog 145 c145 :=
 fn_ok H.ty (n145 H) hm (lh := nat_zeros_lh) (ct := c145) (dcd := fun y => (y.2.1)) Tryz.func145 (by kernel_rfl) (by rfl) (LHok_of (l := [(.loop (loopAt 3 (bodyOf Tryz.f145) .skip), ⟨nat_zeros_i3, nat_zeros_o3, lp nat_zeros_s3 K0⟩)]) (by kernel_rfl) ⟨nat_zeros_p3 H, trivial⟩) (by decide) (fun _ => rfl) (fun x r h => (nat_zeros_eq x.1).trans h)
theorem n153 {T : Told} (H : Hands T) : EnvOk T Tryz.prog (envL e153) := envL_ok (l := e153) trivial
theorem ok153 {T : Told} (H : Hands T) : CtrOk T Tryz.prog 153 c153 :=
 fn_ok H.ty (n153 H) hm (lh := nat_limb_lh) (ct := c153) (dcd := fun y => (y.2.1)) Tryz.func153 (by kernel_rfl) (by rfl) (LHok_of (l := []) (by kernel_rfl) trivial) (by decide) (fun _ => rfl) (fun x r h => (nat_limb_eq x.1 x.2.1).trans h)
theorem n146 {T : Told} (H : Hands T) : EnvOk T Tryz.prog (envL e146) := envL_ok (l := e146) ⟨ok114 H, ok153 H, trivial⟩
theorem nat_shr_p6 {T : Told} (H : Hands T) : PieceOk T Tryz.prog 50 (.loop (loopAt 6 (bodyOf Tryz.f146) .skip)) ⟨nat_shr_i6, nat_shr_o6, lp nat_shr_s6 K0⟩ :=
 loop_piece H.ty (n146 H) hm (LHok_of (l := []) (by kernel_rfl) trivial) nat_shr_l6 K0
theorem ok146 {T : Told} (H : Hands T) : CtrOk T Tryz.prog 146 c146 :=
 fn_ok H.ty (n146 H) hm (lh := nat_shr_lh) (ct := c146) (dcd := fun y => (y.2.1)) Tryz.func146 (by kernel_rfl) (by rfl) (LHok_of (l := [(.loop (loopAt 6 (bodyOf Tryz.f146) .skip), ⟨nat_shr_i6, nat_shr_o6, lp nat_shr_s6 K0⟩)]) (by kernel_rfl) ⟨nat_shr_p6 H, trivial⟩) (by decide) (fun _ => rfl) (fun x r h => (nat_shr_eq x.1 x.2.1).trans h)
theorem n147 {T : Told} (H : Hands T) : EnvOk T Tryz.prog (envL e147) := envL_ok (l := e147) trivial
theorem nat_order_p6 {T : Told} (H : Hands T) : PieceOk T Tryz.prog 45 (.loop (loopAt 6 (bodyOf Tryz.f147) .skip)) ⟨nat_order_i6, nat_order_o6, lp nat_order_s6 K0⟩ :=
 loop_piece H.ty (n147 H) hm (LHok_of (l := []) (by kernel_rfl) trivial) nat_order_l6 K0
theorem ok147 {T : Told} (H : Hands T) : CtrOk T Tryz.prog 147 c147 :=
 fn_ok H.ty (n147 H) hm (lh := nat_order_lh) (ct := c147) (dcd := fun y => (y.2.1)) Tryz.func147 (by kernel_rfl) (by rfl) (LHok_of (l := [(.loop (loopAt 6 (bodyOf Tryz.f147) .skip), ⟨nat_order_i6, nat_order_o6, lp nat_order_s6 K0⟩)]) (by kernel_rfl) ⟨nat_order_p6 H, trivial⟩) (by decide) (fun _ => rfl) (fun x r h => (nat_order_eq x.1 x.2.1).trans h)
theorem n148 {T : Told} (H : Hands T) : EnvOk T Tryz.prog (envL e148) := envL_ok (l := e148) ⟨ok114 H, trivial⟩
theorem nat_shl_p4 {T : Told} (H : Hands T) : PieceOk T Tryz.prog 51 (.loop (loopAt 4 (bodyOf Tryz.f148) .skip)) ⟨nat_shl_i4, nat_shl_o4, lp nat_shl_s4 K0⟩ :=
 loop_piece H.ty (n148 H) hm (LHok_of (l := []) (by kernel_rfl) trivial) nat_shl_l4 K0
theorem ok148 {T : Told} (H : Hands T) : CtrOk T Tryz.prog 148 c148 :=
 fn_ok H.ty (n148 H) hm (lh := nat_shl_lh) (ct := c148) (dcd := fun y => (y.2.1)) Tryz.func148 (by kernel_rfl) (by rfl) (LHok_of (l := [(.loop (loopAt 4 (bodyOf Tryz.f148) .skip), ⟨nat_shl_i4, nat_shl_o4, lp nat_shl_s4 K0⟩)]) (by kernel_rfl) ⟨nat_shl_p4 H, trivial⟩) (by decide) (fun _ => rfl) (fun x r h => (nat_shl_eq x.1 x.2.1).trans h)
theorem n151 {T : Told} (H : Hands T) : EnvOk T Tryz.prog (envL e151) := envL_ok (l := e151) ⟨ok114 H, trivial⟩
theorem nat_small_p4 {T : Told} (H : Hands T) : PieceOk T Tryz.prog 38 (.loop (loopAt 4 (bodyOf Tryz.f151) .skip)) ⟨nat_small_i4, nat_small_o4, lp nat_small_s4 K0⟩ :=
 loop_piece H.ty (n151 H) hm (LHok_of (l := []) (by kernel_rfl) trivial) nat_small_l4 K0
theorem ok151 {T : Told} (H : Hands T) : CtrOk T Tryz.prog 151 c151 :=
 fn_ok H.ty (n151 H) hm (lh := nat_small_lh) (ct := c151) (dcd := fun y => (y.2.1, y.2.2.1)) Tryz.func151 (by kernel_rfl) (by rfl) (LHok_of (l := [(.loop (loopAt 4 (bodyOf Tryz.f151) .skip), ⟨nat_small_i4, nat_small_o4, lp nat_small_s4 K0⟩)]) (by kernel_rfl) ⟨nat_small_p4 H, trivial⟩) (by decide) (fun _ => rfl) (fun x r h => (nat_small_eq x.1 x.2.1).trans h)
theorem n168 {T : Told} (H : Hands T) : EnvOk T Tryz.prog (envL e168) := envL_ok (l := e168) ⟨H.h174, trivial⟩
theorem ok168 {T : Told} (H : Hands T) : CtrOk T Tryz.prog 168 c168 :=
 fn_ok H.ty (n168 H) hm (lh := bits_LeadingZeros32_lh) (ct := c168) (dcd := fun y => (y.2.1)) Tryz.func168 (by kernel_rfl) (by rfl) (LHok_of (l := []) (by kernel_rfl) trivial) (by decide) (fun _ => rfl) (fun x r h => (bits_LeadingZeros32_eq x.1).trans h)
theorem n175 {T : Told} (H : Hands T) : EnvOk T Tryz.prog (envL e175) := envL_ok (l := e175) ⟨ok153 H, trivial⟩
theorem nat_take_p3 {T : Told} (H : Hands T) : PieceOk T Tryz.prog 46 (.loop (loopAt 3 (bodyOf Tryz.f175) .skip)) ⟨nat_take_i3, nat_take_o3, lp nat_take_s3 K0⟩ :=
 loop_piece H.ty (n175 H) hm (LHok_of (l := []) (by kernel_rfl) trivial) nat_take_l3 K0
theorem ok175 {T : Told} (H : Hands T) : CtrOk T Tryz.prog 175 c175 :=
 fn_ok H.ty (n175 H) hm (lh := nat_take_lh) (ct := c175) (dcd := fun y => (y.1.1, y.2.1)) Tryz.func175 (by kernel_rfl) (by rfl) (LHok_of (l := [(.loop (loopAt 3 (bodyOf Tryz.f175) .skip), ⟨nat_take_i3, nat_take_o3, lp nat_take_s3 K0⟩)]) (by kernel_rfl) ⟨nat_take_p3 H, trivial⟩) (by decide) (fun _ => rfl) (fun x r h => (nat_take_eq x.1 x.2.1 x.2.2.1).trans h)
theorem n176 {T : Told} (H : Hands T) : EnvOk T Tryz.prog (envL e176) := envL_ok (l := e176) ⟨ok153 H, trivial⟩
theorem nat_give_p2 {T : Told} (H : Hands T) : PieceOk T Tryz.prog 29 (.loop (loopAt 2 (bodyOf Tryz.f176) .skip)) ⟨nat_give_i2, nat_give_o2, lp nat_give_s2 K0⟩ :=
 loop_piece H.ty (n176 H) hm (LHok_of (l := []) (by kernel_rfl) trivial) nat_give_l2 K0
theorem ok176 {T : Told} (H : Hands T) : CtrOk T Tryz.prog 176 c176 :=
 fn_ok H.ty (n176 H) hm (lh := nat_give_lh) (ct := c176) (dcd := fun y => (y.1.1)) Tryz.func176 (by kernel_rfl) (by rfl) (LHok_of (l := [(.loop (loopAt 2 (bodyOf Tryz.f176) .skip), ⟨nat_give_i2, nat_give_o2, lp nat_give_s2 K0⟩)]) (by kernel_rfl) ⟨nat_give_p2 H, trivial⟩) (by decide) (fun _ => rfl) (fun x r h => (nat_give_eq x.1 x.2.1).trans h)
theorem n169 {T : Told} (H : Hands T) : EnvOk T Tryz.prog (envL e169) := envL_ok (l := e169) ⟨ok175 H, ok176 H, trivial⟩
theorem nat_digit_p4 {T : Told} (H : Hands T) : PieceOk T Tryz.prog 77 (.loop (loopAt 4 (bodyOf Tryz.f169) .skip)) ⟨nat_digit_i4, nat_digit_o4, lp nat_digit_s4 K0⟩ :=
 loop_piece H.ty (n169 H) hm (LHok_of (l := []) (by kernel_rfl) trivial) nat_digit_l4 K0
theorem ok169 {T : Told} (H : Hands T) : CtrOk T Tryz.prog 169 c169 :=
 fn_ok H.ty (n169 H) hm (lh := nat_digit_lh) (ct := c169) (dcd := fun y => (y.1.1, y.2.1)) Tryz.func169 (by kernel_rfl) (by rfl) (LHok_of (l := [(.loop (loopAt 4 (bodyOf Tryz.f169) .skip), ⟨nat_digit_i4, nat_digit_o4, lp nat_digit_s4 K0⟩)]) (by kernel_rfl) ⟨nat_digit_p4 H, trivial⟩) (by decide) (fun _ => rfl) (fun x r h => (nat_digit_eq x.1 x.2.1).trans h)
theorem n152 {T : Told} (H : Hands T) : EnvOk T Tryz.prog (envL e152) := envL_ok (l := e152) ⟨ok114 H, ok146 H, ok148 H, ok168 H, ok169 H, trivial⟩
theorem nat_long_p7 {T : Told} (H : Hands T) : PieceOk T Tryz.prog 64 (.loop (loopAt 7 (bodyOf Tryz.f152) .skip)) ⟨nat_long_i7, nat_long_o7, lp nat_long_s7 K0⟩ :=
 loop_piece H.ty (n152 H) hm (LHok_of (l := []) (by kernel_rfl) trivial) nat_long_l7 K0
theorem ok152 {T : Told} (H : Hands T) : CtrOk T Tryz.prog 152 c152 :=
 fn_ok H.ty (n152 H) hm (lh := nat_long_lh) (ct := c152) (dcd := fun y => (y.2.1, y.2.2.1)) Tryz.func152 (by kernel_rfl) (by rfl) (LHok_of (l := [(.loop (loopAt 7 (bodyOf Tryz.f152) .skip), ⟨nat_long_i7, nat_long_o7, lp nat_long_s7 K0⟩)]) (by kernel_rfl) ⟨nat_long_p7 H, trivial⟩) (by decide) (fun _ => rfl) (fun x r h => (nat_long_eq x.1 x.2.1).trans h)
theorem n116 {T : Told} (H : Hands T) : EnvOk T Tryz.prog (envL e116) := envL_ok (l := e116) ⟨ok70 H, ok101 H, ok147 H, ok151 H, ok152 H, trivial⟩
theorem ok116 {T : Told} (H : Hands T) : CtrOk T Tryz.prog 116 c116 :=
 fn_ok H.ty (n116 H) hm (lh := nat_DivMod_lh) (ct := c116) (dcd := fun y => (y.2.1, y.2.2.1, y.2.2.2.1)) Tryz.func116 (by kernel_rfl) (by rfl) (LHok_of (l := []) (by kernel_rfl) trivial) (by decide) (fun _ => rfl) (fun x r h => (nat_DivMod_eq x.1 x.2.1).trans h)
theorem n149 {T : Told} (H : Hands T) : EnvOk T Tryz.prog (envL e149) := envL_ok (l := e149) ⟨ok116 H, trivial⟩
theorem ok149 {T : Told} (H : Hands T) : CtrOk T Tryz.prog 149 c149 :=
 fn_ok H.ty (n149 H) hm (lh := nat_rest_lh) (ct := c149) (dcd := fun y => (y.2.1, y.2.2.1)) Tryz.func149 (by kernel_rfl) (by rfl) (LHok_of (l := []) (by kernel_rfl) trivial) (by decide) (fun _ => rfl) (fun x r h => (nat_rest_eq x.1 x.2.1).trans h)
theorem n150 {T : Told} (H : Hands T) : EnvOk T Tryz.prog (envL e150) := envL_ok (l := e150) ⟨ok114 H, ok153 H, trivial⟩
theorem nat_minus_p4 {T : Told} (H : Hands T) : PieceOk T Tryz.prog 39 (.loop (loopAt 4 (bodyOf Tryz.f150) .skip)) ⟨nat_minus_i4, nat_minus_o4, lp nat_minus_s4 K0⟩ :=
 loop_piece H.ty (n150 H) hm (LHok_of (l := []) (by kernel_rfl) trivial) nat_minus_l4 K0
theorem ok150 {T : Told} (H : Hands T) : CtrOk T Tryz.prog 150 c150 :=
 fn_ok H.ty (n150 H) hm (lh := nat_minus_lh) (ct := c150) (dcd := fun y => (y.2.1)) Tryz.func150 (by kernel_rfl) (by rfl) (LHok_of (l := [(.loop (loopAt 4 (bodyOf Tryz.f150) .skip), ⟨nat_minus_i4, nat_minus_o4, lp nat_minus_s4 K0⟩)]) (by kernel_rfl) ⟨nat_minus_p4 H, trivial⟩) (by decide) (fun _ => rfl) (fun x r h => (nat_minus_eq x.1 x.2.1).trans h)
theorem n115 {T : Told} (H : Hands T) : EnvOk T Tryz.prog (envL e115) := envL_ok (l := e115) ⟨ok101 H, ok144 H, ok145 H, ok146 H, ok147 H, ok148 H, ok149 H, ok150 H, trivial⟩
theorem nat_Gcd_p10 {T : Told} (H : Hands T) : PieceOk T Tryz.prog 86 (.loop (loopAt 10 (bodyOf Tryz.f115) .skip)) ⟨nat_Gcd_i10, nat_Gcd_o10, lp nat_Gcd_s10 K0⟩ :=
 loop_piece H.ty (n115 H) hm (LHok_of (l := []) (by kernel_rfl) trivial) nat_Gcd_l10 K0
theorem ok115 {T : Told} (H : Hands T) : CtrOk T Tryz.prog 115 c115 :=
 fn_ok H.ty (n115 H) hm (lh := nat_Gcd_lh) (ct := c115) (dcd := fun y => (y.2.1)) Tryz.func115 (by kernel_rfl) (by rfl) (LHok_of (l := [(.loop (loopAt 10 (bodyOf Tryz.f115) .skip), ⟨nat_Gcd_i10, nat_Gcd_o10, lp nat_Gcd_s10 K0⟩)]) (by kernel_rfl) ⟨nat_Gcd_p10 H, trivial⟩) (by decide) (fun _ => rfl) (fun x r h => (nat_Gcd_eq x.1 x.2.1).trans h)
theorem n72 {T : Told} (H : Hands T) : EnvOk T Tryz.prog (envL e72) := envL_ok (l := e72) ⟨ok70 H, ok115 H, ok116 H, trivial⟩
theorem ok72 {T : Told} (H : Hands T) : CtrOk T Tryz.prog 72 c72 :=
 fn_ok H.ty (n72 H) hm (lh := ratio_form_lh) (ct := c72) (dcd := fun y => (y.2.1)) Tryz.func72 (by kernel_rfl) (by rfl) (LHok_of (l := []) (by kernel_rfl) trivial) (by decide) (fun _ => rfl) (fun x r h => (ratio_form_eq x.1 x.2.1).trans h)
theorem n55 {T : Told} (H : Hands T) : EnvOk T Tryz.prog (envL e55) := envL_ok (l := e55) ⟨ok24 H, ok72 H, ok100 H, ok101 H, trivial⟩
theorem ok55 {T : Told} (H : Hands T) : CtrOk T Tryz.prog 55 c55 :=
 fn_ok H.ty (n55 H) hm (lh := ratio_Clean_lh) (ct := c55) (dcd := fun y => (y.2.1)) Tryz.func55 (by kernel_rfl) (by rfl) (LHok_of (l := []) (by kernel_rfl) trivial) (by decide) (fun _ => rfl) (fun x r h => (ratio_Clean_eq x.1).trans h)
theorem n15 {T : Told} (H : Hands T) : EnvOk T Tryz.prog (envL e15) := envL_ok (l := e15) ⟨ok54 H, ok55 H, trivial⟩
theorem ok15 {T : Told} (H : Hands T) : CtrOk T Tryz.prog 15 c15 :=
 fn_ok H.ty (n15 H) hm (lh := ratio_Sign_lh) (ct := c15) (dcd := fun y => (y.2.1)) Tryz.func15 (by kernel_rfl) (by rfl) (LHok_of (l := []) (by kernel_rfl) trivial) (by decide) (fun _ => rfl) (fun x r h => (ratio_Sign_eq x.1).trans h)
theorem n81 {T : Told} (H : Hands T) : EnvOk T Tryz.prog (envL e81) := envL_ok (l := e81) trivial
theorem ok81 {T : Told} (H : Hands T) : CtrOk T Tryz.prog 81 c81 :=
 fn_ok H.ty (n81 H) hm (lh := dendronlaw09_number_lh) (ct := c81) (dcd := fun y => (y.2.1)) Tryz.func81 (by kernel_rfl) (by rfl) (LHok_of (l := []) (by kernel_rfl) trivial) (by decide) (fun _ => rfl) (fun x r h => (dendronlaw09_number_eq x.1).trans h)
theorem n31 {T : Told} (H : Hands T) : EnvOk T Tryz.prog (envL e31) := envL_ok (l := e31) ⟨ok81 H, trivial⟩
theorem dendronlaw09_Few_p3 {T : Told} (H : Hands T) : PieceOk T Tryz.prog 32 (.loop (loopAt 3 (bodyOf Tryz.f31) .skip)) ⟨dendronlaw09_Few_i3, dendronlaw09_Few_o3, lp dendronlaw09_Few_s3 K0⟩ :=
 loop_piece H.ty (n31 H) hm (LHok_of (l := []) (by kernel_rfl) trivial) dendronlaw09_Few_l3 K0
theorem ok31 {T : Told} (H : Hands T) : CtrOk T Tryz.prog 31 c31 :=
 fn_ok H.ty (n31 H) hm (lh := dendronlaw09_Few_lh) (ct := c31) (dcd := fun y => (y.2.1)) Tryz.func31 (by kernel_rfl) (by rfl) (LHok_of (l := [(.loop (loopAt 3 (bodyOf Tryz.f31) .skip), ⟨dendronlaw09_Few_i3, dendronlaw09_Few_o3, lp dendronlaw09_Few_s3 K0⟩)]) (by kernel_rfl) ⟨dendronlaw09_Few_p3 H, trivial⟩) (by decide) (fun _ => rfl) (fun x r h => (dendronlaw09_Few_eq x.1 x.2.1).trans h)
theorem n110 {T : Told} (H : Hands T) : EnvOk T Tryz.prog (envL e110) := envL_ok (l := e110) trivial
theorem ok110 {T : Told} (H : Hands T) : CtrOk T Tryz.prog 110 c110 :=
 fn_ok H.ty (n110 H) hm (lh := dendronlaw07_number_lh) (ct := c110) (dcd := fun y => (y.2.1)) Tryz.func110 (by kernel_rfl) (by rfl) (LHok_of (l := []) (by kernel_rfl) trivial) (by decide) (fun _ => rfl) (fun x r h => (dendronlaw07_number_eq x.1).trans h)
theorem n67 {T : Told} (H : Hands T) : EnvOk T Tryz.prog (envL e67) := envL_ok (l := e67) ⟨ok110 H, trivial⟩
theorem dendronlaw07_Few_p7 {T : Told} (H : Hands T) : PieceOk T Tryz.prog 67 (.loop (loopAt 7 (bodyOf Tryz.f67) .skip)) ⟨dendronlaw07_Few_i7, dendronlaw07_Few_o7, lp dendronlaw07_Few_s7 K0⟩ :=
 loop_piece H.ty (n67 H) hm (LHok_of (l := []) (by kernel_rfl) trivial) dendronlaw07_Few_l7 K0
theorem dendronlaw07_Few_p3 {T : Told} (H : Hands T) : PieceOk T Tryz.prog 67 (.loop (loopAt 3 (bodyOf Tryz.f67) .skip)) ⟨dendronlaw07_Few_i3, dendronlaw07_Few_o3, lp dendronlaw07_Few_s3 K0⟩ :=
 loop_piece H.ty (n67 H) hm (LHok_of (l := [(.loop (loopAt 7 (bodyOf Tryz.f67) .skip), ⟨dendronlaw07_Few_i7, dendronlaw07_Few_o7, lp dendronlaw07_Few_s7 K0⟩)]) (by kernel_rfl) ⟨dendronlaw07_Few_p7 H, trivial⟩) dendronlaw07_Few_l3 K0
theorem ok67 {T : Told} (H : Hands T) : CtrOk T Tryz.prog 67 c67 :=
 fn_ok H.ty (n67 H) hm (lh := dendronlaw07_Few_lh) (ct := c67) (dcd := fun y => (y.2.1)) Tryz.func67 (by kernel_rfl) (by rfl) (LHok_of (l := [(.loop (loopAt 3 (bodyOf Tryz.f67) .skip), ⟨dendronlaw07_Few_i3, dendronlaw07_Few_o3, lp dendronlaw07_Few_s3 K0⟩)]) (by kernel_rfl) ⟨dendronlaw07_Few_p3 H, trivial⟩) (by decide) (fun _ => rfl) (fun x r h => (dendronlaw07_Few_eq x.1).trans h)
theorem n22 {T : Told} (H : Hands T) : EnvOk T Tryz.prog (envL e22) := envL_ok (l := e22) ⟨ok31 H, ok67 H, trivial⟩
theorem ok22 {T : Told} (H : Hands T) : CtrOk T Tryz.prog 22 c22 :=
 fn_ok H.ty (n22 H) hm (lh := dendronlaw11_Small_lh) (ct := c22) (dcd := fun y => (y.2.1, y.2.2.1)) Tryz.func22 (by kernel_rfl) (by rfl) (LHok_of (l := []) (by kernel_rfl) trivial) (by decide) (fun _ => rfl) (fun x r h => (dendronlaw11_Small_eq x.1 x.2.1).trans h)
theorem n76 {T : Told} (H : Hands T) : EnvOk T Tryz.prog (envL e76) := envL_ok (l := e76) ⟨ok101 H, ok114 H, trivial⟩
theorem nat_Mul_p8 {T : Told} (H : Hands T) : PieceOk T Tryz.prog 67 (.loop (loopAt 8 (bodyOf Tryz.f76) .skip)) ⟨nat_Mul_i8, nat_Mul_o8, lp nat_Mul_s8 K0⟩ :=
 loop_piece H.ty (n76 H) hm (LHok_of (l := []) (by kernel_rfl) trivial) nat_Mul_l8 K0
theorem nat_Mul_p4 {T : Told} (H : Hands T) : PieceOk T Tryz.prog 67 (.loop (loopAt 4 (bodyOf Tryz.f76) .skip)) ⟨nat_Mul_i4, nat_Mul_o4, lp nat_Mul_s4 K0⟩ :=
 loop_piece H.ty (n76 H) hm (LHok_of (l := [(.loop (loopAt 8 (bodyOf Tryz.f76) .skip), ⟨nat_Mul_i8, nat_Mul_o8, lp nat_Mul_s8 K0⟩)]) (by kernel_rfl) ⟨nat_Mul_p8 H, trivial⟩) nat_Mul_l4 K0
theorem ok76 {T : Told} (H : Hands T) : CtrOk T Tryz.prog 76 c76 :=
 fn_ok H.ty (n76 H) hm (lh := nat_Mul_lh) (ct := c76) (dcd := fun y => (y.2.1)) Tryz.func76 (by kernel_rfl) (by rfl) (LHok_of (l := [(.loop (loopAt 4 (bodyOf Tryz.f76) .skip), ⟨nat_Mul_i4, nat_Mul_o4, lp nat_Mul_s4 K0⟩)]) (by kernel_rfl) ⟨nat_Mul_p4 H, trivial⟩) (by decide) (fun _ => rfl) (fun x r h => (nat_Mul_eq x.1 x.2.1).trans h)
theorem n74 {T : Told} (H : Hands T) : EnvOk T Tryz.prog (envL e74) := envL_ok (l := e74) ⟨ok76 H, ok100 H, ok117 H, trivial⟩
theorem ok74 {T : Told} (H : Hands T) : CtrOk T Tryz.prog 74 c74 :=
 fn_ok H.ty (n74 H) hm (lh := whole_Mul_lh) (ct := c74) (dcd := fun y => (y.2.1)) Tryz.func74 (by kernel_rfl) (by rfl) (LHok_of (l := []) (by kernel_rfl) trivial) (by decide) (fun _ => rfl) (fun x r h => (whole_Mul_eq x.1 x.2.1).trans h)
theorem n75 {T : Told} (H : Hands T) : EnvOk T Tryz.prog (envL e75) := envL_ok (l := e75) trivial
theorem ok75 {T : Told} (H : Hands T) : CtrOk T Tryz.prog 75 c75 :=
 fn_ok H.ty (n75 H) hm (lh := ratio_den_lh) (ct := c75) (dcd := fun y => (y.2.1)) Tryz.func75 (by kernel_rfl) (by rfl) (LHok_of (l := []) (by kernel_rfl) trivial) (by decide) (fun _ => rfl) (fun x r h => (ratio_den_eq x.1).trans h)
theorem n119 {T : Told} (H : Hands T) : EnvOk T Tryz.prog (envL e119) := envL_ok (l := e119) ⟨ok101 H, ok147 H, trivial⟩
theorem ok119 {T : Told} (H : Hands T) : CtrOk T Tryz.prog 119 c119 :=
 fn_ok H.ty (n119 H) hm (lh := nat_Cmp_lh) (ct := c119) (dcd := fun y => (y.2.1)) Tryz.func119 (by kernel_rfl) (by rfl) (LHok_of (l := []) (by kernel_rfl) trivial) (by decide) (fun _ => rfl) (fun x r h => (nat_Cmp_eq x.1 x.2.1).trans h)
theorem n124 {T : Told} (H : Hands T) : EnvOk T Tryz.prog (envL e124) := envL_ok (l := e124) ⟨ok100 H, ok119 H, trivial⟩
theorem ok124 {T : Told} (H : Hands T) : CtrOk T Tryz.prog 124 c124 :=
 fn_ok H.ty (n124 H) hm (lh := whole_Cmp_lh) (ct := c124) (dcd := fun y => (y.2.1)) Tryz.func124 (by kernel_rfl) (by rfl) (LHok_of (l := []) (by kernel_rfl) trivial) (by decide) (fun _ => rfl) (fun x r h => (whole_Cmp_eq x.1 x.2.1).trans h)
theorem n80 {T : Told} (H : Hands T) : EnvOk T Tryz.prog (envL e80) := envL_ok (l := e80) ⟨ok55 H, ok74 H, ok75 H, ok124 H, trivial⟩
theorem ok80 {T : Told} (H : Hands T) : CtrOk T Tryz.prog 80 c80 :=
 fn_ok H.ty (n80 H) hm (lh := ratio_Cmp_lh) (ct := c80) (dcd := fun y => (y.2.1)) Tryz.func80 (by kernel_rfl) (by rfl) (LHok_of (l := []) (by kernel_rfl) trivial) (by decide) (fun _ => rfl) (fun x r h => (ratio_Cmp_eq x.1 x.2.1).trans h)
theorem n30 {T : Told} (H : Hands T) : EnvOk T Tryz.prog (envL e30) := envL_ok (l := e30) ⟨ok80 H, trivial⟩
theorem ok30 {T : Told} (H : Hands T) : CtrOk T Tryz.prog 30 c30 :=
 fn_ok H.ty (n30 H) hm (lh := ratio_Same_lh) (ct := c30) (dcd := fun y => (y.2.1)) Tryz.func30 (by kernel_rfl) (by rfl) (LHok_of (l := []) (by kernel_rfl) trivial) (by decide) (fun _ => rfl) (fun x r h => (ratio_Same_eq x.1 x.2.1).trans h)
theorem n63 {T : Told} (H : Hands T) : EnvOk T Tryz.prog (envL e63) := envL_ok (l := e63) trivial
theorem ok63 {T : Told} (H : Hands T) : CtrOk T Tryz.prog 63 c63 :=
 fn_okB H.ty (n63 H) hm (lh := weigh_New_lh) (ct := c63) (wi := w63) (dcd := fun y => (y.2.1, y.2.2.1, y.2.2.2.1, y.2.2.2.2.1)) Tryz.func63 (by kernel_rfl) (by rfl) (LHok_of (l := []) (by kernel_rfl) trivial) (fun _ => rfl) rfl (fun x r h => (weigh_New_eq ).trans h)
theorem n154 {T : Told} (H : Hands T) : EnvOk T Tryz.prog (envL e154) := envL_ok (l := e154) trivial
theorem model_Fits_p9 {T : Told} (H : Hands T) : PieceOk T Tryz.prog 72 (.loop (loopAt 9 (bodyOf Tryz.f154) .skip)) ⟨model_Fits_i9, model_Fits_o9, lp model_Fits_s9 K0⟩ :=
 loop_piece H.ty (n154 H) hm (LHok_of (l := []) (by kernel_rfl) trivial) model_Fits_l9 K0
theorem model_Fits_p4 {T : Told} (H : Hands T) : PieceOk T Tryz.prog 72 (.loop (loopAt 4 (bodyOf Tryz.f154) .skip)) ⟨model_Fits_i4, model_Fits_o4, lp model_Fits_s4 K0⟩ :=
 loop_piece H.ty (n154 H) hm (LHok_of (l := [(.loop (loopAt 9 (bodyOf Tryz.f154) .skip), ⟨model_Fits_i9, model_Fits_o9, lp model_Fits_s9 K0⟩)]) (by kernel_rfl) ⟨model_Fits_p9 H, trivial⟩) model_Fits_l4 K0
theorem ok154 {T : Told} (H : Hands T) : CtrOk T Tryz.prog 154 c154 :=
 fn_ok H.ty (n154 H) hm (lh := model_Fits_lh) (ct := c154) (dcd := fun y => (y.2.1)) Tryz.func154 (by kernel_rfl) (by rfl) (LHok_of (l := [(.loop (loopAt 4 (bodyOf Tryz.f154) .skip), ⟨model_Fits_i4, model_Fits_o4, lp model_Fits_s4 K0⟩)]) (by kernel_rfl) ⟨model_Fits_p4 H, trivial⟩) (by decide) (fun _ => rfl) (fun x r h => (model_Fits_eq x.1).trans h)
theorem n155 {T : Told} (H : Hands T) : EnvOk T Tryz.prog (envL e155) := envL_ok (l := e155) trivial
theorem valid_ranges_p2 {T : Told} (H : Hands T) : PieceOk T Tryz.prog 52 (.loop (loopAt 2 (bodyOf Tryz.f155) .skip)) ⟨valid_ranges_i2, valid_ranges_o2, lp valid_ranges_s2 K0⟩ :=
 loop_piece H.ty (n155 H) hm (LHok_of (l := []) (by kernel_rfl) trivial) valid_ranges_l2 K0
theorem ok155 {T : Told} (H : Hands T) : CtrOk T Tryz.prog 155 c155 :=
 fn_ok H.ty (n155 H) hm (lh := valid_ranges_lh) (ct := c155) (dcd := fun y => (y.2.1, y.2.2.1)) Tryz.func155 (by kernel_rfl) (by rfl) (LHok_of (l := [(.loop (loopAt 2 (bodyOf Tryz.f155) .skip), ⟨valid_ranges_i2, valid_ranges_o2, lp valid_ranges_s2 K0⟩)]) (by kernel_rfl) ⟨valid_ranges_p2 H, trivial⟩) (by decide) (fun _ => rfl) (fun x r h => (valid_ranges_eq x.1 x.2.1).trans h)
theorem n156 {T : Told} (H : Hands T) : EnvOk T Tryz.prog (envL e156) := envL_ok (l := e156) trivial
theorem valid_shape_p3 {T : Told} (H : Hands T) : PieceOk T Tryz.prog 103 (.loop (loopAt 3 (bodyOf Tryz.f156) .skip)) ⟨valid_shape_i3, valid_shape_o3, lp valid_shape_s3 K0⟩ :=
 loop_piece H.ty (n156 H) hm (LHok_of (l := []) (by kernel_rfl) trivial) valid_shape_l3 K0
theorem valid_shape_p10 {T : Told} (H : Hands T) : PieceOk T Tryz.prog 103 (.loop (loopAt 10 (bodyOf Tryz.f156) .skip)) ⟨valid_shape_i10, valid_shape_o10, lp valid_shape_s10 K0⟩ :=
 loop_piece H.ty (n156 H) hm (LHok_of (l := []) (by kernel_rfl) trivial) valid_shape_l10 K0
theorem valid_shape_p17 {T : Told} (H : Hands T) : PieceOk T Tryz.prog 103 (.loop (loopAt 17 (bodyOf Tryz.f156) .skip)) ⟨valid_shape_i17, valid_shape_o17, lp valid_shape_s17 K0⟩ :=
 loop_piece H.ty (n156 H) hm (LHok_of (l := []) (by kernel_rfl) trivial) valid_shape_l17 K0
theorem valid_shape_p25 {T : Told} (H : Hands T) : PieceOk T Tryz.prog 103 (.loop (loopAt 25 (bodyOf Tryz.f156) .skip)) ⟨valid_shape_i25, valid_shape_o25, lp valid_shape_s25 K0⟩ :=
 loop_piece H.ty (n156 H) hm (LHok_of (l := []) (by kernel_rfl) trivial) valid_shape_l25 K0
theorem ok156 {T : Told} (H : Hands T) : CtrOk T Tryz.prog 156 c156 :=
 fn_ok H.ty (n156 H) hm (lh := valid_shape_lh) (ct := c156) (dcd := fun y => (y.2.1, y.2.2.1)) Tryz.func156 (by kernel_rfl) (by rfl) (LHok_of (l := [(.loop (loopAt 3 (bodyOf Tryz.f156) .skip), ⟨valid_shape_i3, valid_shape_o3, lp valid_shape_s3 K0⟩), (.loop (loopAt 10 (bodyOf Tryz.f156) .skip), ⟨valid_shape_i10, valid_shape_o10, lp valid_shape_s10 K0⟩), (.loop (loopAt 17 (bodyOf Tryz.f156) .skip), ⟨valid_shape_i17, valid_shape_o17, lp valid_shape_s17 K0⟩), (.loop (loopAt 25 (bodyOf Tryz.f156) .skip), ⟨valid_shape_i25, valid_shape_o25, lp valid_shape_s25 K0⟩)]) (by kernel_rfl) ⟨valid_shape_p3 H, valid_shape_p10 H, valid_shape_p17 H, valid_shape_p25 H, trivial⟩) (by decide) (fun _ => rfl) (fun x r h => (valid_shape_eq x.1).trans h)
theorem n157 {T : Told} (H : Hands T) : EnvOk T Tryz.prog (envL e157) := envL_ok (l := e157) ⟨ok15 H, trivial⟩
theorem valid_covers_p2 {T : Told} (H : Hands T) : PieceOk T Tryz.prog 19 (.loop (loopAt 2 (bodyOf Tryz.f157) .skip)) ⟨valid_covers_i2, valid_covers_o2, lp valid_covers_s2 K0⟩ :=
 loop_piece H.ty (n157 H) hm (LHok_of (l := []) (by kernel_rfl) trivial) valid_covers_l2 K0
theorem ok157 {T : Told} (H : Hands T) : CtrOk T Tryz.prog 157 c157 :=
 fn_ok H.ty (n157 H) hm (lh := valid_covers_lh) (ct := c157) (dcd := fun y => (y.2.1, y.2.2.1)) Tryz.func157 (by kernel_rfl) (by rfl) (LHok_of (l := [(.loop (loopAt 2 (bodyOf Tryz.f157) .skip), ⟨valid_covers_i2, valid_covers_o2, lp valid_covers_s2 K0⟩)]) (by kernel_rfl) ⟨valid_covers_p2 H, trivial⟩) (by decide) (fun _ => rfl) (fun x r h => (valid_covers_eq x.1).trans h)
theorem n118 {T : Told} (H : Hands T) : EnvOk T Tryz.prog (envL e118) := envL_ok (l := e118) ⟨ok101 H, ok114 H, ok153 H, trivial⟩
theorem nat_Add_p5 {T : Told} (H : Hands T) : PieceOk T Tryz.prog 43 (.loop (loopAt 5 (bodyOf Tryz.f118) .skip)) ⟨nat_Add_i5, nat_Add_o5, lp nat_Add_s5 K0⟩ :=
 loop_piece H.ty (n118 H) hm (LHok_of (l := []) (by kernel_rfl) trivial) nat_Add_l5 K0
theorem ok118 {T : Told} (H : Hands T) : CtrOk T Tryz.prog 118 c118 :=
 fn_ok H.ty (n118 H) hm (lh := nat_Add_lh) (ct := c118) (dcd := fun y => (y.2.1)) Tryz.func118 (by kernel_rfl) (by rfl) (LHok_of (l := [(.loop (loopAt 5 (bodyOf Tryz.f118) .skip), ⟨nat_Add_i5, nat_Add_o5, lp nat_Add_s5 K0⟩)]) (by kernel_rfl) ⟨nat_Add_p5 H, trivial⟩) (by decide) (fun _ => rfl) (fun x r h => (nat_Add_eq x.1 x.2.1).trans h)
theorem n120 {T : Told} (H : Hands T) : EnvOk T Tryz.prog (envL e120) := envL_ok (l := e120) ⟨ok101 H, ok147 H, ok150 H, trivial⟩
theorem ok120 {T : Told} (H : Hands T) : CtrOk T Tryz.prog 120 c120 :=
 fn_ok H.ty (n120 H) hm (lh := nat_Sub_lh) (ct := c120) (dcd := fun y => (y.2.1, y.2.2.1)) Tryz.func120 (by kernel_rfl) (by rfl) (LHok_of (l := []) (by kernel_rfl) trivial) (by decide) (fun _ => rfl) (fun x r h => (nat_Sub_eq x.1 x.2.1).trans h)
theorem n73 {T : Told} (H : Hands T) : EnvOk T Tryz.prog (envL e73) := envL_ok (l := e73) ⟨ok100 H, ok117 H, ok118 H, ok119 H, ok120 H, trivial⟩
theorem ok73 {T : Told} (H : Hands T) : CtrOk T Tryz.prog 73 c73 :=
 fn_ok H.ty (n73 H) hm (lh := whole_Add_lh) (ct := c73) (dcd := fun y => (y.2.1)) Tryz.func73 (by kernel_rfl) (by rfl) (LHok_of (l := []) (by kernel_rfl) trivial) (by decide) (fun _ => rfl) (fun x r h => (whole_Add_eq x.1 x.2.1).trans h)
theorem n26 {T : Told} (H : Hands T) : EnvOk T Tryz.prog (envL e26) := envL_ok (l := e26) ⟨ok55 H, ok72 H, ok73 H, ok74 H, ok75 H, ok76 H, trivial⟩
theorem ok26 {T : Told} (H : Hands T) : CtrOk T Tryz.prog 26 c26 :=
 fn_ok H.ty (n26 H) hm (lh := ratio_Add_lh) (ct := c26) (dcd := fun y => (y.2.1)) Tryz.func26 (by kernel_rfl) (by rfl) (LHok_of (l := []) (by kernel_rfl) trivial) (by decide) (fun _ => rfl) (fun x r h => (ratio_Add_eq x.1 x.2.1).trans h)
theorem n158 {T : Told} (H : Hands T) : EnvOk T Tryz.prog (envL e158) := envL_ok (l := e158) ⟨ok26 H, ok30 H, trivial⟩
theorem valid_sums_p2 {T : Told} (H : Hands T) : PieceOk T Tryz.prog 37 (.loop (loopAt 2 (bodyOf Tryz.f158) .skip)) ⟨valid_sums_i2, valid_sums_o2, lp valid_sums_s2 K0⟩ :=
 loop_piece H.ty (n158 H) hm (LHok_of (l := []) (by kernel_rfl) trivial) valid_sums_l2 K0
theorem ok158 {T : Told} (H : Hands T) : CtrOk T Tryz.prog 158 c158 :=
 fn_ok H.ty (n158 H) hm (lh := valid_sums_lh) (ct := c158) (dcd := fun y => (y.2.1, y.2.2.1)) Tryz.func158 (by kernel_rfl) (by rfl) (LHok_of (l := [(.loop (loopAt 2 (bodyOf Tryz.f158) .skip), ⟨valid_sums_i2, valid_sums_o2, lp valid_sums_s2 K0⟩)]) (by kernel_rfl) ⟨valid_sums_p2 H, trivial⟩) (by decide) (fun _ => rfl) (fun x r h => (valid_sums_eq x.1).trans h)
theorem n159 {T : Told} (H : Hands T) : EnvOk T Tryz.prog (envL e159) := envL_ok (l := e159) trivial
theorem ok159 {T : Told} (H : Hands T) : CtrOk T Tryz.prog 159 c159 :=
 fn_ok H.ty (n159 H) hm (lh := valid_fault_lh) (ct := c159) (dcd := fun y => (y.2.1)) Tryz.func159 (by kernel_rfl) (by rfl) (LHok_of (l := []) (by kernel_rfl) trivial) (by decide) (fun _ => rfl) (fun x r h => (valid_fault_eq x.1 x.2.1 x.2.2.1).trans h)
theorem n121 {T : Told} (H : Hands T) : EnvOk T Tryz.prog (envL e121) := envL_ok (l := e121) ⟨ok154 H, ok155 H, ok156 H, ok157 H, ok158 H, ok159 H, trivial⟩
theorem valid_Check_p7 {T : Told} (H : Hands T) : PieceOk T Tryz.prog 63 (.loop (loopAt 7 (bodyOf Tryz.f121) .skip)) ⟨valid_Check_i7, valid_Check_o7, lp valid_Check_s7 K0⟩ :=
 loop_piece H.ty (n121 H) hm (LHok_of (l := []) (by kernel_rfl) trivial) valid_Check_l7 K0
theorem valid_Check_p4 {T : Told} (H : Hands T) : PieceOk T Tryz.prog 63 (.loop (loopAt 4 (bodyOf Tryz.f121) .skip)) ⟨valid_Check_i4, valid_Check_o4, lp valid_Check_s4 K0⟩ :=
 loop_piece H.ty (n121 H) hm (LHok_of (l := [(.loop (loopAt 7 (bodyOf Tryz.f121) .skip), ⟨valid_Check_i7, valid_Check_o7, lp valid_Check_s7 K0⟩)]) (by kernel_rfl) ⟨valid_Check_p7 H, trivial⟩) valid_Check_l4 K0
theorem ok121 {T : Told} (H : Hands T) : CtrOk T Tryz.prog 121 c121 :=
 fn_ok H.ty (n121 H) hm (lh := valid_Check_lh) (ct := c121) (dcd := fun y => (y.2.1)) Tryz.func121 (by kernel_rfl) (by rfl) (LHok_of (l := [(.loop (loopAt 4 (bodyOf Tryz.f121) .skip), ⟨valid_Check_i4, valid_Check_o4, lp valid_Check_s4 K0⟩)]) (by kernel_rfl) ⟨valid_Check_p4 H, trivial⟩) (by decide) (fun _ => rfl) (fun x r h => (valid_Check_eq x.1).trans h)
theorem n77 {T : Told} (H : Hands T) : EnvOk T Tryz.prog (envL e77) := envL_ok (l := e77) ⟨ok121 H, trivial⟩
theorem ok77 {T : Told} (H : Hands T) : CtrOk T Tryz.prog 77 c77 :=
 fn_ok H.ty (n77 H) hm (lh := valid_Ok_lh) (ct := c77) (dcd := fun y => (y.2.1)) Tryz.func77 (by kernel_rfl) (by rfl) (LHok_of (l := []) (by kernel_rfl) trivial) (by decide) (fun _ => rfl) (fun x r h => (valid_Ok_eq x.1).trans h)
theorem n95 {T : Told} (H : Hands T) : EnvOk T Tryz.prog (envL e95) := envL_ok (l := e95) ⟨ok77 H, trivial⟩
theorem ok95 {T : Told} (H : Hands T) : CtrOk T Tryz.prog 95 c95 :=
 fn_ok H.ty (n95 H) hm (lh := route_fits_lh) (ct := c95) (dcd := fun y => (y.2.1)) Tryz.func95 (by kernel_rfl) (by rfl) (LHok_of (l := []) (by kernel_rfl) trivial) (by decide) (fun _ => rfl) (fun x r h => (route_fits_eq x.1 x.2.1).trans h)
theorem n78 {T : Told} (H : Hands T) : EnvOk T Tryz.prog (envL e78) := envL_ok (l := e78) ⟨ok95 H, trivial⟩
theorem ok78 {T : Told} (H : Hands T) : CtrOk T Tryz.prog 78 c78 :=
 fn_ok H.ty (n78 H) hm (lh := route_Fits_lh) (ct := c78) (dcd := fun y => (y.2.1)) Tryz.func78 (by kernel_rfl) (by rfl) (LHok_of (l := []) (by kernel_rfl) trivial) (by decide) (fun _ => rfl) (fun x r h => (route_Fits_eq x.1 x.2.1).trans h)
theorem n82 {T : Told} (H : Hands T) : EnvOk T Tryz.prog (envL e82) := envL_ok (l := e82) ⟨ok78 H, trivial⟩
theorem versus_fits_p5 {T : Told} (H : Hands T) : PieceOk T Tryz.prog 33 (.loop (loopAt 5 (bodyOf Tryz.f82) .skip)) ⟨versus_fits_i5, versus_fits_o5, lp versus_fits_s5 K0⟩ :=
 loop_piece H.ty (n82 H) hm (LHok_of (l := []) (by kernel_rfl) trivial) versus_fits_l5 K0
theorem ok82 {T : Told} (H : Hands T) : CtrOk T Tryz.prog 82 c82 :=
 fn_ok H.ty (n82 H) hm (lh := versus_fits_lh) (ct := c82) (dcd := fun y => (y.2.1)) Tryz.func82 (by kernel_rfl) (by rfl) (LHok_of (l := [(.loop (loopAt 5 (bodyOf Tryz.f82) .skip), ⟨versus_fits_i5, versus_fits_o5, lp versus_fits_s5 K0⟩)]) (by kernel_rfl) ⟨versus_fits_p5 H, trivial⟩) (by decide) (fun _ => rfl) (fun x r h => (versus_fits_eq x.1 x.2.1 x.2.2.1).trans h)
theorem n68 {T : Told} (H : Hands T) : EnvOk T Tryz.prog (envL e68) := envL_ok (l := e68) ⟨ok77 H, trivial⟩
theorem ok68 {T : Told} (H : Hands T) : CtrOk T Tryz.prog 68 c68 :=
 fn_ok H.ty (n68 H) hm (lh := valid_Tree_lh) (ct := c68) (dcd := fun y => (y.2.1)) Tryz.func68 (by kernel_rfl) (by rfl) (LHok_of (l := []) (by kernel_rfl) trivial) (by decide) (fun _ => rfl) (fun x r h => (valid_Tree_eq x.1 x.2.1).trans h)
theorem n142 {T : Told} (H : Hands T) : EnvOk T Tryz.prog (envL e142) := envL_ok (l := e142) ⟨ok80 H, trivial⟩
theorem ok142 {T : Told} (H : Hands T) : CtrOk T Tryz.prog 142 c142 :=
 fn_ok H.ty (n142 H) hm (lh := route_goes_lh) (ct := c142) (dcd := fun y => (y.2.1)) Tryz.func142 (by kernel_rfl) (by rfl) (LHok_of (l := []) (by kernel_rfl) trivial) (by decide) (fun _ => rfl) (fun x r h => (route_goes_eq x.1 x.2.1).trans h)
theorem n111 {T : Told} (H : Hands T) : EnvOk T Tryz.prog (envL e111) := envL_ok (l := e111) ⟨ok142 H, trivial⟩
theorem ok111 {T : Told} (H : Hands T) : CtrOk T Tryz.prog 111 c111 :=
 fn_ok H.ty (n111 H) hm (lh := route_Left_lh) (ct := c111) (dcd := fun y => (y.2.1)) Tryz.func111 (by kernel_rfl) (by rfl) (LHok_of (l := []) (by kernel_rfl) trivial) (by decide) (fun _ => rfl) (fun x r h => (route_Left_eq x.1 x.2.1).trans h)
theorem n27 {T : Told} (H : Hands T) : EnvOk T Tryz.prog (envL e27) := envL_ok (l := e27) ⟨ok55 H, ok72 H, ok74 H, ok76 H, trivial⟩
theorem ok27 {T : Told} (H : Hands T) : CtrOk T Tryz.prog 27 c27 :=
 fn_ok H.ty (n27 H) hm (lh := ratio_Mul_lh) (ct := c27) (dcd := fun y => (y.2.1)) Tryz.func27 (by kernel_rfl) (by rfl) (LHok_of (l := []) (by kernel_rfl) trivial) (by decide) (fun _ => rfl) (fun x r h => (ratio_Mul_eq x.1 x.2.1).trans h)
theorem n112 {T : Told} (H : Hands T) : EnvOk T Tryz.prog (envL e112) := envL_ok (l := e112) ⟨ok27 H, trivial⟩
theorem expect_along_p3 {T : Told} (H : Hands T) : PieceOk T Tryz.prog 86 (.loop (loopAt 3 (bodyOf Tryz.f112) .skip)) ⟨expect_along_i3, expect_along_o3, lp expect_along_s3 K0⟩ :=
 loop_piece H.ty (n112 H) hm (LHok_of (l := []) (by kernel_rfl) trivial) expect_along_l3 K0
theorem ok112 {T : Told} (H : Hands T) : CtrOk T Tryz.prog 112 c112 :=
 fn_ok H.ty (n112 H) hm (lh := expect_along_lh) (ct := c112) (dcd := fun y => (y.2.1)) Tryz.func112 (by kernel_rfl) (by rfl) (LHok_of (l := [(.loop (loopAt 3 (bodyOf Tryz.f112) .skip), ⟨expect_along_i3, expect_along_o3, lp expect_along_s3 K0⟩)]) (by kernel_rfl) ⟨expect_along_p3 H, trivial⟩) (by decide) (fun _ => rfl) (fun x r h => (expect_along_eq x.1 x.2.1 x.2.2.1 x.2.2.2.1).trans h)
theorem n84 {T : Told} (H : Hands T) : EnvOk T Tryz.prog (envL e84) := envL_ok (l := e84) ⟨ok100 H, ok117 H, trivial⟩
theorem ok84 {T : Told} (H : Hands T) : CtrOk T Tryz.prog 84 c84 :=
 fn_ok H.ty (n84 H) hm (lh := whole_Neg_lh) (ct := c84) (dcd := fun y => (y.2.1)) Tryz.func84 (by kernel_rfl) (by rfl) (LHok_of (l := []) (by kernel_rfl) trivial) (by decide) (fun _ => rfl) (fun x r h => (whole_Neg_eq x.1).trans h)
theorem n86 {T : Told} (H : Hands T) : EnvOk T Tryz.prog (envL e86) := envL_ok (l := e86) ⟨ok54 H, ok72 H, ok84 H, ok100 H, trivial⟩
theorem ok86 {T : Told} (H : Hands T) : CtrOk T Tryz.prog 86 c86 :=
 fn_ok H.ty (n86 H) hm (lh := ratio_Make_lh) (ct := c86) (dcd := fun y => (y.2.1, y.2.2.1)) Tryz.func86 (by kernel_rfl) (by rfl) (LHok_of (l := []) (by kernel_rfl) trivial) (by decide) (fun _ => rfl) (fun x r h => (ratio_Make_eq x.1 x.2.1).trans h)
theorem n98 {T : Told} (H : Hands T) : EnvOk T Tryz.prog (envL e98) := envL_ok (l := e98) ⟨ok55 H, ok75 H, ok86 H, trivial⟩
theorem ok98 {T : Told} (H : Hands T) : CtrOk T Tryz.prog 98 c98 :=
 fn_ok H.ty (n98 H) hm (lh := ratio_Inv_lh) (ct := c98) (dcd := fun y => (y.2.1, y.2.2.1)) Tryz.func98 (by kernel_rfl) (by rfl) (LHok_of (l := []) (by kernel_rfl) trivial) (by decide) (fun _ => rfl) (fun x r h => (ratio_Inv_eq x.1).trans h)
theorem n143 {T : Told} (H : Hands T) : EnvOk T Tryz.prog (envL e143) := envL_ok (l := e143) ⟨ok27 H, ok98 H, trivial⟩
theorem ok143 {T : Told} (H : Hands T) : CtrOk T Tryz.prog 143 c143 :=
 fn_ok H.ty (n143 H) hm (lh := ratio_Div_lh) (ct := c143) (dcd := fun y => (y.2.1, y.2.2.1)) Tryz.func143 (by kernel_rfl) (by rfl) (LHok_of (l := []) (by kernel_rfl) trivial) (by decide) (fun _ => rfl) (fun x r h => (ratio_Div_eq x.1 x.2.1).trans h)
theorem n113 {T : Told} (H : Hands T) : EnvOk T Tryz.prog (envL e113) := envL_ok (l := e113) ⟨ok143 H, trivial⟩
theorem ok113 {T : Told} (H : Hands T) : CtrOk T Tryz.prog 113 c113 :=
 fn_ok H.ty (n113 H) hm (lh := expect_over_lh) (ct := c113) (dcd := fun y => (y.2.1)) Tryz.func113 (by kernel_rfl) (by rfl) (LHok_of (l := []) (by kernel_rfl) trivial) (by decide) (fun _ => rfl) (fun x r h => (expect_over_eq x.1 x.2.1).trans h)
theorem n69 {T : Told} (H : Hands T) (n : Nat) (hr : CtrOk T Tryz.prog 69 (c69 n)) : EnvOk T Tryz.prog (envL (e69 n)) := envL_ok (l := (e69 n)) ⟨ok55 H, hr, ok111 H, ok112 H, ok113 H, trivial⟩
theorem ok69 {T : Told} (H : Hands T) : ∀ n, CtrOk T Tryz.prog 69 (c69 n)
 | 0 => CtrOk.never Tryz.func69 (by kernel_rfl) (by rfl) (fun _ => rfl)
 | n + 1 => fn_ok H.ty (n69 H n (ok69 H n)) hm (lh := expect_legs_lh n) (ct := c69 (n + 1)) (dcd := fun y => (y.2.1)) Tryz.func69 (by kernel_rfl) (by rfl) (LHok_of (l := []) (by kernel_rfl) trivial) (Nat.le_of_ble_eq_true rfl) (fun _ => rfl) (fun x r h => (expect_legs_eq n x.1 x.2.1 x.2.2.1 x.2.2.2.1).trans h)
theorem n23 {T : Told} (H : Hands T) : EnvOk T Tryz.prog (envL e23) := envL_ok (l := e23) ⟨ok68 H, ok69 H R0, trivial⟩
theorem ok23 {T : Told} (H : Hands T) : CtrOk T Tryz.prog 23 c23 :=
 fn_ok H.ty (n23 H) hm (lh := expect_Legs_lh) (ct := c23) (dcd := fun y => (y.2.1, y.2.2.1)) Tryz.func23 (by kernel_rfl) (by rfl) (LHok_of (l := []) (by kernel_rfl) trivial) (by decide) (fun _ => rfl) (fun x r h => (expect_Legs_eq x.1 x.2.1).trans h)
theorem n85 {T : Told} (H : Hands T) : EnvOk T Tryz.prog (envL e85) := envL_ok (l := e85) ⟨ok24 H, trivial⟩
theorem versus_zeros_p3 {T : Told} (H : Hands T) : PieceOk T Tryz.prog 13 (.loop (loopAt 3 (bodyOf Tryz.f85) .skip)) ⟨versus_zeros_i3, versus_zeros_o3, lp versus_zeros_s3 K0⟩ :=
 loop_piece H.ty (n85 H) hm (LHok_of (l := []) (by kernel_rfl) trivial) versus_zeros_l3 K0
theorem ok85 {T : Told} (H : Hands T) : CtrOk T Tryz.prog 85 c85 :=
 fn_ok H.ty (n85 H) hm (lh := versus_zeros_lh) (ct := c85) (dcd := fun y => (y.2.1)) Tryz.func85 (by kernel_rfl) (by rfl) (LHok_of (l := [(.loop (loopAt 3 (bodyOf Tryz.f85) .skip), ⟨versus_zeros_i3, versus_zeros_o3, lp versus_zeros_s3 K0⟩)]) (by kernel_rfl) ⟨versus_zeros_p3 H, trivial⟩) (by decide) (fun _ => rfl) (fun x r h => (versus_zeros_eq x.1).trans h)
theorem n125 {T : Told} (H : Hands T) : EnvOk T Tryz.prog (envL e125) := envL_ok (l := e125) trivial
theorem versus_sides_p2 {T : Told} (H : Hands T) : PieceOk T Tryz.prog 61 (.loop (loopAt 2 (bodyOf Tryz.f125) .skip)) ⟨versus_sides_i2, versus_sides_o2, lp versus_sides_s2 K0⟩ :=
 loop_piece H.ty (n125 H) hm (LHok_of (l := []) (by kernel_rfl) trivial) versus_sides_l2 K0
theorem ok125 {T : Told} (H : Hands T) : CtrOk T Tryz.prog 125 c125 :=
 fn_ok H.ty (n125 H) hm (lh := versus_sides_lh) (ct := c125) (dcd := fun y => (y.2.1, y.2.2.1, y.2.2.2.1)) Tryz.func125 (by kernel_rfl) (by rfl) (LHok_of (l := [(.loop (loopAt 2 (bodyOf Tryz.f125) .skip), ⟨versus_sides_i2, versus_sides_o2, lp versus_sides_s2 K0⟩)]) (by kernel_rfl) ⟨versus_sides_p2 H, trivial⟩) (by decide) (fun _ => rfl) (fun x r h => (versus_sides_eq x.1 x.2.1).trans h)
theorem n35 {T : Told} (H : Hands T) : EnvOk T Tryz.prog (envL e35) := envL_ok (l := e35) ⟨ok55 H, ok84 H, trivial⟩
theorem ok35 {T : Told} (H : Hands T) : CtrOk T Tryz.prog 35 c35 :=
 fn_ok H.ty (n35 H) hm (lh := ratio_Neg_lh) (ct := c35) (dcd := fun y => (y.2.1)) Tryz.func35 (by kernel_rfl) (by rfl) (LHok_of (l := []) (by kernel_rfl) trivial) (by decide) (fun _ => rfl) (fun x r h => (ratio_Neg_eq x.1).trans h)
theorem n87 {T : Told} (H : Hands T) : EnvOk T Tryz.prog (envL e87) := envL_ok (l := e87) ⟨ok70 H, ok117 H, trivial⟩
theorem ok87 {T : Told} (H : Hands T) : CtrOk T Tryz.prog 87 c87 :=
 fn_ok H.ty (n87 H) hm (lh := whole_Of_lh) (ct := c87) (dcd := fun y => (y.2.1)) Tryz.func87 (by kernel_rfl) (by rfl) (LHok_of (l := []) (by kernel_rfl) trivial) (by decide) (fun _ => rfl) (fun x r h => (whole_Of_eq x.1).trans h)
theorem n172 {T : Told} (H : Hands T) : EnvOk T Tryz.prog (envL e172) := envL_ok (l := e172) ⟨ok74 H, ok87 H, trivial⟩
theorem weigh_products_p4 {T : Told} (H : Hands T) : PieceOk T Tryz.prog 21 (.loop (loopAt 4 (bodyOf Tryz.f172) .skip)) ⟨weigh_products_i4, weigh_products_o4, lp weigh_products_s4 K0⟩ :=
 loop_piece H.ty (n172 H) hm (LHok_of (l := []) (by kernel_rfl) trivial) weigh_products_l4 K0
theorem ok172 {T : Told} (H : Hands T) : CtrOk T Tryz.prog 172 c172 :=
 fn_ok H.ty (n172 H) hm (lh := weigh_products_lh) (ct := c172) (dcd := fun y => (y.2.1)) Tryz.func172 (by kernel_rfl) (by rfl) (LHok_of (l := [(.loop (loopAt 4 (bodyOf Tryz.f172) .skip), ⟨weigh_products_i4, weigh_products_o4, lp weigh_products_s4 K0⟩)]) (by kernel_rfl) ⟨weigh_products_p4 H, trivial⟩) (by decide) (fun _ => rfl) (fun x r h => (weigh_products_eq ).trans h)
theorem n171 {T : Told} (H : Hands T) : EnvOk T Tryz.prog (envL e171) := envL_ok (l := e171) ⟨ok172 H, trivial⟩
theorem ok171 {T : Told} (H : Hands T) : CtrOk T Tryz.prog 171 c171 :=
 fn_okB H.ty (n171 H) hm (lh := weigh_Table_at_c1_lh) (ct := c171) (wi := w171) (dcd := fun y => (y.2.1, y.2.2.1, y.2.2.2.1, y.2.2.2.2.1)) Tryz.func171 (by kernel_rfl) (by rfl) (LHok_of (l := []) (by kernel_rfl) trivial) (fun _ => rfl) rfl (fun x r h => (weigh_Table_at_c1_eq x.1 x.2.1 x.2.2.1 x.2.2.2.1).trans h)
theorem ok161 {T : Told} (H : Hands T) : CtrOk T Tryz.prog 161 c161 := at_walk (ok171 H)
theorem n127 {T : Told} (H : Hands T) : EnvOk T Tryz.prog (envL e127) := envL_ok (l := e127) ⟨ok74 H, ok86 H, ok161 H, trivial⟩
theorem ok127 {T : Told} (H : Hands T) : CtrOk T Tryz.prog 127 c127 :=
 fn_okB H.ty (n127 H) hm (lh := weigh_Table_quotient_lh) (ct := c127) (wi := w127) (dcd := fun y => (y.2.1, y.2.2.1, y.2.2.2.1, y.2.2.2.2.1, y.2.2.2.2.2.1)) Tryz.func127 (by kernel_rfl) (by rfl) (LHok_of (l := []) (by kernel_rfl) trivial) (fun _ => rfl) rfl (fun x r h => (weigh_Table_quotient_eq x.1 x.2.1 x.2.2.1 x.2.2.2.1 x.2.2.2.2.1 x.2.2.2.2.2.1 x.2.2.2.2.2.2.1).trans h)
theorem n160 {T : Told} (H : Hands T) : EnvOk T Tryz.prog (envL e160) := envL_ok (l := e160) ⟨ok24 H, ok35 H, ok127 H, trivial⟩
theorem ok160 {T : Told} (H : Hands T) : CtrOk T Tryz.prog 160 c160 :=
 fn_okB H.ty (n160 H) hm (lh := weigh_Table_Need_lh) (ct := c160) (wi := w160) (dcd := fun y => (y.2.1, y.2.2.1, y.2.2.2.1, y.2.2.2.2.1, y.2.2.2.2.2.1, y.2.2.2.2.2.2.1, y.2.2.2.2.2.2.2.1)) Tryz.func160 (by kernel_rfl) (by rfl) (LHok_of (l := []) (by kernel_rfl) trivial) (fun _ => rfl) rfl (fun x r h => (weigh_Table_Need_eq x.1 x.2.1 x.2.2.1 x.2.2.2.1 x.2.2.2.2.1 x.2.2.2.2.2.1).trans h)
theorem n126 {T : Told} (H : Hands T) : EnvOk T Tryz.prog (envL e126) := envL_ok (l := e126) ⟨ok26 H, ok27 H, ok160 H, trivial⟩
theorem versus_counter_add_p3 {T : Told} (H : Hands T) : PieceOk T Tryz.prog 76 (.loop (loopAt 3 (bodyOf Tryz.f126) .skip)) ⟨versus_counter_add_i3, versus_counter_add_o3, lp versus_counter_add_s3 K0⟩ :=
 loop_piece H.ty (n126 H) hm (LHok_of (l := []) (by kernel_rfl) trivial) versus_counter_add_l3 K0
theorem versus_counter_add_p8 {T : Told} (H : Hands T) : PieceOk T Tryz.prog 76 (.loop (loopAt 8 (bodyOf Tryz.f126) .skip)) ⟨versus_counter_add_i8, versus_counter_add_o8, lp versus_counter_add_s8 K0⟩ :=
 loop_piece H.ty (n126 H) hm (LHok_of (l := []) (by kernel_rfl) trivial) versus_counter_add_l8 K0
theorem ok126 {T : Told} (H : Hands T) : CtrOk T Tryz.prog 126 c126 :=
 fn_okB H.ty (n126 H) hm (lh := versus_counter_add_lh) (ct := c126) (wi := w126) (dcd := fun y => (y.2.1, y.2.2.1, y.2.2.2.1, y.2.2.2.2.1, y.2.2.2.2.2.1)) Tryz.func126 (by kernel_rfl) (by rfl) (LHok_of (l := [(.loop (loopAt 3 (bodyOf Tryz.f126) .skip), ⟨versus_counter_add_i3, versus_counter_add_o3, lp versus_counter_add_s3 K0⟩), (.loop (loopAt 8 (bodyOf Tryz.f126) .skip), ⟨versus_counter_add_i8, versus_counter_add_o8, lp versus_counter_add_s8 K0⟩)]) (by kernel_rfl) ⟨versus_counter_add_p3 H, versus_counter_add_p8 H, trivial⟩) (fun _ => rfl) rfl (fun x r h => (versus_counter_add_eq x.1 x.2.1 x.2.2.1 x.2.2.2.1 x.2.2.2.2.1 x.2.2.2.2.2.1 x.2.2.2.2.2.2.1 x.2.2.2.2.2.2.2.1).trans h)
theorem n83 {T : Told} (H : Hands T) : EnvOk T Tryz.prog (envL e83) := envL_ok (l := e83) ⟨ok23 H, ok85 H, ok125 H, ok126 H, trivial⟩
theorem versus_one_p8 {T : Told} (H : Hands T) : PieceOk T Tryz.prog 79 (.loop (loopAt 8 (bodyOf Tryz.f83) .skip)) ⟨versus_one_i8, versus_one_o8, lp versus_one_s8 K0⟩ :=
 loop_piece H.ty (n83 H) hm (LHok_of (l := []) (by kernel_rfl) trivial) versus_one_l8 K0
theorem versus_one_p3 {T : Told} (H : Hands T) : PieceOk T Tryz.prog 79 (.loop (loopAt 3 (bodyOf Tryz.f83) .skip)) ⟨versus_one_i3, versus_one_o3, lp versus_one_s3 K0⟩ :=
 loop_piece H.ty (n83 H) hm (LHok_of (l := [(.loop (loopAt 8 (bodyOf Tryz.f83) .skip), ⟨versus_one_i8, versus_one_o8, lp versus_one_s8 K0⟩)]) (by kernel_rfl) ⟨versus_one_p8 H, trivial⟩) versus_one_l3 K0
theorem ok83 {T : Told} (H : Hands T) : CtrOk T Tryz.prog 83 c83 :=
 fn_okB H.ty (n83 H) hm (lh := versus_one_lh) (ct := c83) (wi := w83) (dcd := fun y => (y.2.1, y.2.2.1, y.2.2.2.1, y.2.2.2.2.1, y.2.2.2.2.2.1)) Tryz.func83 (by kernel_rfl) (by rfl) (LHok_of (l := [(.loop (loopAt 3 (bodyOf Tryz.f83) .skip), ⟨versus_one_i3, versus_one_o3, lp versus_one_s3 K0⟩)]) (by kernel_rfl) ⟨versus_one_p3 H, trivial⟩) (fun _ => rfl) rfl (fun x r h => (versus_one_eq x.1 x.2.1 x.2.2.1 x.2.2.2.1 x.2.2.2.2.1 x.2.2.2.2.2.1 x.2.2.2.2.2.2.1).trans h)
theorem n32 {T : Told} (H : Hands T) : EnvOk T Tryz.prog (envL e32) := envL_ok (l := e32) ⟨ok63 H, ok82 H, ok83 H, trivial⟩
theorem ok32 {T : Told} (H : Hands T) : CtrOk T Tryz.prog 32 c32 :=
 fn_ok H.ty (n32 H) hm (lh := versus_One_lh) (ct := c32) (dcd := fun y => (y.2.1, y.2.2.1)) Tryz.func32 (by kernel_rfl) (by rfl) (LHok_of (l := []) (by kernel_rfl) trivial) (by decide) (fun _ => rfl) (fun x r h => (versus_One_eq x.1 x.2.1 x.2.2.1).trans h)
theorem n58 {T : Told} (H : Hands T) : EnvOk T Tryz.prog (envL e58) := envL_ok (l := e58) ⟨ok70 H, ok87 H, trivial⟩
theorem ok58 {T : Told} (H : Hands T) : CtrOk T Tryz.prog 58 c58 :=
 fn_ok H.ty (n58 H) hm (lh := ratio_Of_lh) (ct := c58) (dcd := fun y => (y.2.1)) Tryz.func58 (by kernel_rfl) (by rfl) (LHok_of (l := []) (by kernel_rfl) trivial) (by decide) (fun _ => rfl) (fun x r h => (ratio_Of_eq x.1).trans h)
theorem n53 {T : Told} (H : Hands T) : EnvOk T Tryz.prog (envL e53) := envL_ok (l := e53) ⟨ok58 H, trivial⟩
theorem ok53 {T : Told} (H : Hands T) : CtrOk T Tryz.prog 53 c53 :=
 fn_ok H.ty (n53 H) hm (lh := ratio_One_lh) (ct := c53) (dcd := fun y => (y.2.1)) Tryz.func53 (by kernel_rfl) (by rfl) (LHok_of (l := []) (by kernel_rfl) trivial) (by decide) (fun _ => rfl) (fun x r h => (ratio_One_eq ).trans h)
theorem n34 {T : Told} (H : Hands T) : EnvOk T Tryz.prog (envL e34) := envL_ok (l := e34) ⟨ok24 H, ok30 H, ok32 H, ok53 H, ok58 H, trivial⟩
theorem dendronlaw17_awake_cF {r} (h : c34.F () = r) : dendronlaw17_awake = r := by
 subst h
 delta c34
 exact (@F_in [] _ _ (fun _ => dendronlaw17_awake) _ _ () _ rfl).symm
theorem dendronlaw17_awake_fx (x) (r : c34.T) (h : c34.F x = some r) : fnF tb (envL e34) Tryz.f34 dendronlaw17_awake_lh c34.ps c34.rs (T := c34.T) (fun y => (y.2.1)) x = some r := by
 cases x
 exact dendronlaw17_awake_eq.trans (dendronlaw17_awake_cF h)
theorem ok34 {T : Told} (H : Hands T) : CtrOk T Tryz.prog 34 c34 :=
 fn_ok H.ty (n34 H) hm (lh := dendronlaw17_awake_lh) (ct := c34) (dcd := fun y => (y.2.1)) Tryz.func34 (by kernel_rfl) (by rfl) (LHok_of (l := []) (by kernel_rfl) trivial) (by decide) (fun _ => rfl) (fun x r h => dendronlaw17_awake_fx x r h)
theorem n36 {T : Told} (H : Hands T) : EnvOk T Tryz.prog (envL e36) := envL_ok (l := e36) ⟨ok31 H, trivial⟩
theorem dendronlaw09_All_p3 {T : Told} (H : Hands T) : PieceOk T Tryz.prog 30 (.loop (loopAt 3 (bodyOf Tryz.f36) .skip)) ⟨dendronlaw09_All_i3, dendronlaw09_All_o3, lp dendronlaw09_All_s3 K0⟩ :=
 loop_piece H.ty (n36 H) hm (LHok_of (l := []) (by kernel_rfl) trivial) dendronlaw09_All_l3 K0
theorem ok36 {T : Told} (H : Hands T) : CtrOk T Tryz.prog 36 c36 :=
 fn_ok H.ty (n36 H) hm (lh := dendronlaw09_All_lh) (ct := c36) (dcd := fun y => (y.2.1)) Tryz.func36 (by kernel_rfl) (by rfl) (LHok_of (l := [(.loop (loopAt 3 (bodyOf Tryz.f36) .skip), ⟨dendronlaw09_All_i3, dendronlaw09_All_o3, lp dendronlaw09_All_s3 K0⟩)]) (by kernel_rfl) ⟨dendronlaw09_All_p3 H, trivial⟩) (by decide) (fun _ => rfl) (fun x r h => (dendronlaw09_All_eq x.1 x.2.1 x.2.2.1).trans h)
theorem n39 {T : Told} (H : Hands T) : EnvOk T Tryz.prog (envL e39) := envL_ok (l := e39) ⟨ok55 H, ok86 H, ok87 H, trivial⟩
theorem ok39 {T : Told} (H : Hands T) : CtrOk T Tryz.prog 39 c39 :=
 fn_ok H.ty (n39 H) hm (lh := ratio_Frac_lh) (ct := c39) (dcd := fun y => (y.2.1)) Tryz.func39 (by kernel_rfl) (by rfl) (LHok_of (l := []) (by kernel_rfl) trivial) (by decide) (fun _ => rfl) (fun x r h => (ratio_Frac_eq x.1 x.2.1).trans h)
theorem n37 {T : Told} (H : Hands T) : EnvOk T Tryz.prog (envL e37) := envL_ok (l := e37) ⟨ok26 H, ok27 H, ok39 H, ok63 H, ok82 H, ok83 H, ok85 H, trivial⟩
theorem versus_Values_p10 {T : Told} (H : Hands T) : PieceOk T Tryz.prog 73 (.loop (loopAt 10 (bodyOf Tryz.f37) .skip)) ⟨versus_Values_i10, versus_Values_o10, lp versus_Values_s10 K0⟩ :=
 loop_piece H.ty (n37 H) hm (LHok_of (l := []) (by kernel_rfl) trivial) versus_Values_l10 K0
theorem versus_Values_p7 {T : Told} (H : Hands T) : PieceOk T Tryz.prog 73 (.loop (loopAt 7 (bodyOf Tryz.f37) .skip)) ⟨versus_Values_i7, versus_Values_o7, lp versus_Values_s7 K0⟩ :=
 loop_piece H.ty (n37 H) hm (LHok_of (l := [(.loop (loopAt 10 (bodyOf Tryz.f37) .skip), ⟨versus_Values_i10, versus_Values_o10, lp versus_Values_s10 K0⟩)]) (by kernel_rfl) ⟨versus_Values_p10 H, trivial⟩) versus_Values_l7 K0
theorem versus_Values_p16 {T : Told} (H : Hands T) : PieceOk T Tryz.prog 73 (.loop (loopAt 16 (bodyOf Tryz.f37) .skip)) ⟨versus_Values_i16, versus_Values_o16, lp versus_Values_s16 K0⟩ :=
 loop_piece H.ty (n37 H) hm (LHok_of (l := []) (by kernel_rfl) trivial) versus_Values_l16 K0
theorem ok37 {T : Told} (H : Hands T) : CtrOk T Tryz.prog 37 c37 :=
 fn_ok H.ty (n37 H) hm (lh := versus_Values_lh) (ct := c37) (dcd := fun y => (y.2.1, y.2.2.1)) Tryz.func37 (by kernel_rfl) (by rfl) (LHok_of (l := [(.loop (loopAt 7 (bodyOf Tryz.f37) .skip), ⟨versus_Values_i7, versus_Values_o7, lp versus_Values_s7 K0⟩), (.loop (loopAt 16 (bodyOf Tryz.f37) .skip), ⟨versus_Values_i16, versus_Values_o16, lp versus_Values_s16 K0⟩)]) (by kernel_rfl) ⟨versus_Values_p7 H, versus_Values_p16 H, trivial⟩) (by decide) (fun _ => rfl) (fun x r h => (versus_Values_eq x.1 x.2.1 x.2.2.1).trans h)
theorem n33 {T : Told} (H : Hands T) : EnvOk T Tryz.prog (envL e33) := envL_ok (l := e33) ⟨ok77 H, trivial⟩
theorem ok33 {T : Told} (H : Hands T) : CtrOk T Tryz.prog 33 c33 :=
 fn_ok H.ty (n33 H) hm (lh := dendronlaw10_Why_lh) (ct := c33) (dcd := fun y => (y.2.1)) Tryz.func33 (by kernel_rfl) (by rfl) (LHok_of (l := []) (by kernel_rfl) trivial) (by decide) (fun _ => rfl) (fun x r h => (dendronlaw10_Why_eq x.1 x.2.1).trans h)
theorem n38 {T : Told} (H : Hands T) : EnvOk T Tryz.prog (envL e38) := envL_ok (l := e38) ⟨ok33 H, trivial⟩
theorem dendronlaw17_why_p4 {T : Told} (H : Hands T) : PieceOk T Tryz.prog 32 (.loop (loopAt 4 (bodyOf Tryz.f38) .skip)) ⟨dendronlaw17_why_i4, dendronlaw17_why_o4, lp dendronlaw17_why_s4 K0⟩ :=
 loop_piece H.ty (n38 H) hm (LHok_of (l := []) (by kernel_rfl) trivial) dendronlaw17_why_l4 K0
theorem ok38 {T : Told} (H : Hands T) : CtrOk T Tryz.prog 38 c38 :=
 fn_ok H.ty (n38 H) hm (lh := dendronlaw17_why_lh) (ct := c38) (dcd := fun y => (y.2.1)) Tryz.func38 (by kernel_rfl) (by rfl) (LHok_of (l := [(.loop (loopAt 4 (bodyOf Tryz.f38) .skip), ⟨dendronlaw17_why_i4, dendronlaw17_why_o4, lp dendronlaw17_why_s4 K0⟩)]) (by kernel_rfl) ⟨dendronlaw17_why_p4 H, trivial⟩) (by decide) (fun _ => rfl) (fun x r h => (dendronlaw17_why_eq x.1 x.2.1 x.2.2.1).trans h)
theorem n130 {T : Told} (H : Hands T) : EnvOk T Tryz.prog (envL e130) := envL_ok (l := e130) ⟨ok142 H, trivial⟩
theorem ok130 {T : Told} (H : Hands T) : CtrOk T Tryz.prog 130 c130 :=
 fn_ok H.ty (n130 H) hm (lh := route_next_lh) (ct := c130) (dcd := fun y => (y.2.1)) Tryz.func130 (by kernel_rfl) (by rfl) (LHok_of (l := []) (by kernel_rfl) trivial) (by decide) (fun _ => rfl) (fun x r h => (route_next_eq x.1 x.2.1).trans h)
theorem n96 {T : Told} (H : Hands T) : EnvOk T Tryz.prog (envL e96) := envL_ok (l := e96) ⟨ok55 H, ok130 H, trivial⟩
theorem route_value_p2 {T : Told} (H : Hands T) : PieceOk T Tryz.prog 24 (.loop (loopAt 2 (bodyOf Tryz.f96) .skip)) ⟨route_value_i2, route_value_o2, lp route_value_s2 K0⟩ :=
 loop_piece H.ty (n96 H) hm (LHok_of (l := []) (by kernel_rfl) trivial) route_value_l2 K0
theorem ok96 {T : Told} (H : Hands T) : CtrOk T Tryz.prog 96 c96 :=
 fn_ok H.ty (n96 H) hm (lh := route_value_lh) (ct := c96) (dcd := fun y => (y.2.1)) Tryz.func96 (by kernel_rfl) (by rfl) (LHok_of (l := [(.loop (loopAt 2 (bodyOf Tryz.f96) .skip), ⟨route_value_i2, route_value_o2, lp route_value_s2 K0⟩)]) (by kernel_rfl) ⟨route_value_p2 H, trivial⟩) (by decide) (fun _ => rfl) (fun x r h => (route_value_eq x.1 x.2.1).trans h)
theorem n46 {T : Told} (H : Hands T) : EnvOk T Tryz.prog (envL e46) := envL_ok (l := e46) ⟨ok24 H, ok26 H, ok95 H, ok96 H, trivial⟩
theorem route_Predict_p6 {T : Told} (H : Hands T) : PieceOk T Tryz.prog 32 (.loop (loopAt 6 (bodyOf Tryz.f46) .skip)) ⟨route_Predict_i6, route_Predict_o6, lp route_Predict_s6 K0⟩ :=
 loop_piece H.ty (n46 H) hm (LHok_of (l := []) (by kernel_rfl) trivial) route_Predict_l6 K0
theorem ok46 {T : Told} (H : Hands T) : CtrOk T Tryz.prog 46 c46 :=
 fn_ok H.ty (n46 H) hm (lh := route_Predict_lh) (ct := c46) (dcd := fun y => (y.2.1, y.2.2.1)) Tryz.func46 (by kernel_rfl) (by rfl) (LHok_of (l := [(.loop (loopAt 6 (bodyOf Tryz.f46) .skip), ⟨route_Predict_i6, route_Predict_o6, lp route_Predict_s6 K0⟩)]) (by kernel_rfl) ⟨route_Predict_p6 H, trivial⟩) (by decide) (fun _ => rfl) (fun x r h => (route_Predict_eq x.1 x.2.1).trans h)
theorem n49 {T : Told} (H : Hands T) : EnvOk T Tryz.prog (envL e49) := envL_ok (l := e49) ⟨ok24 H, ok26 H, trivial⟩
theorem ratio_Sum_p3 {T : Told} (H : Hands T) : PieceOk T Tryz.prog 18 (.loop (loopAt 3 (bodyOf Tryz.f49) .skip)) ⟨ratio_Sum_i3, ratio_Sum_o3, lp ratio_Sum_s3 K0⟩ :=
 loop_piece H.ty (n49 H) hm (LHok_of (l := []) (by kernel_rfl) trivial) ratio_Sum_l3 K0
theorem ok49 {T : Told} (H : Hands T) : CtrOk T Tryz.prog 49 c49 :=
 fn_ok H.ty (n49 H) hm (lh := ratio_Sum_lh) (ct := c49) (dcd := fun y => (y.2.1)) Tryz.func49 (by kernel_rfl) (by rfl) (LHok_of (l := [(.loop (loopAt 3 (bodyOf Tryz.f49) .skip), ⟨ratio_Sum_i3, ratio_Sum_o3, lp ratio_Sum_s3 K0⟩)]) (by kernel_rfl) ⟨ratio_Sum_p3 H, trivial⟩) (by decide) (fun _ => rfl) (fun x r h => (ratio_Sum_eq x.1).trans h)
theorem n128 {T : Told} (H : Hands T) : EnvOk T Tryz.prog (envL e128) := envL_ok (l := e128) ⟨ok143 H, trivial⟩
theorem ok128 {T : Told} (H : Hands T) : CtrOk T Tryz.prog 128 c128 :=
 fn_ok H.ty (n128 H) hm (lh := ratio_over_lh) (ct := c128) (dcd := fun y => (y.2.1)) Tryz.func128 (by kernel_rfl) (by rfl) (LHok_of (l := []) (by kernel_rfl) trivial) (by decide) (fun _ => rfl) (fun x r h => (ratio_over_eq x.1 x.2.1).trans h)
theorem n93 {T : Told} (H : Hands T) : EnvOk T Tryz.prog (envL e93) := envL_ok (l := e93) ⟨ok49 H, ok58 H, ok128 H, trivial⟩
theorem ok93 {T : Told} (H : Hands T) : CtrOk T Tryz.prog 93 c93 :=
 fn_ok H.ty (n93 H) hm (lh := ratio_Mean_lh) (ct := c93) (dcd := fun y => (y.2.1, y.2.2.1)) Tryz.func93 (by kernel_rfl) (by rfl) (LHok_of (l := []) (by kernel_rfl) trivial) (by decide) (fun _ => rfl) (fun x r h => (ratio_Mean_eq x.1).trans h)
theorem n47 {T : Told} (H : Hands T) : EnvOk T Tryz.prog (envL e47) := envL_ok (l := e47) ⟨ok46 H, ok77 H, ok93 H, trivial⟩
theorem route_Mean_p3 {T : Told} (H : Hands T) : PieceOk T Tryz.prog 45 (.loop (loopAt 3 (bodyOf Tryz.f47) .skip)) ⟨route_Mean_i3, route_Mean_o3, lp route_Mean_s3 K0⟩ :=
 loop_piece H.ty (n47 H) hm (LHok_of (l := []) (by kernel_rfl) trivial) route_Mean_l3 K0
theorem ok47 {T : Told} (H : Hands T) : CtrOk T Tryz.prog 47 c47 :=
 fn_ok H.ty (n47 H) hm (lh := route_Mean_lh) (ct := c47) (dcd := fun y => (y.2.1, y.2.2.1)) Tryz.func47 (by kernel_rfl) (by rfl) (LHok_of (l := [(.loop (loopAt 3 (bodyOf Tryz.f47) .skip), ⟨route_Mean_i3, route_Mean_o3, lp route_Mean_s3 K0⟩)]) (by kernel_rfl) ⟨route_Mean_p3 H, trivial⟩) (by decide) (fun _ => rfl) (fun x r h => (route_Mean_eq x.1 x.2.1).trans h)
theorem ok48 {T : Told} (H : Hands T) : CtrOk T Tryz.prog 48 c48 := used_walk (ok77 H)
theorem n50 {T : Told} (H : Hands T) : EnvOk T Tryz.prog (envL e50) := envL_ok (l := e50) ⟨ok26 H, ok35 H, trivial⟩
theorem ok50 {T : Told} (H : Hands T) : CtrOk T Tryz.prog 50 c50 :=
 fn_ok H.ty (n50 H) hm (lh := ratio_Sub_lh) (ct := c50) (dcd := fun y => (y.2.1)) Tryz.func50 (by kernel_rfl) (by rfl) (LHok_of (l := []) (by kernel_rfl) trivial) (by decide) (fun _ => rfl) (fun x r h => (ratio_Sub_eq x.1 x.2.1).trans h)
theorem n11 {T : Told} (H : Hands T) : EnvOk T Tryz.prog (envL e11) := envL_ok (l := e11) ⟨ok15 H, ok22 H, ok30 H, ok34 H, ok36 H, ok37 H, ok38 H, ok46 H, ok47 H, ok48 H, ok49 H, ok50 H, trivial⟩
theorem dendronlaw17_VersusAdds_p12 {T : Told} (H : Hands T) : PieceOk T Tryz.prog 96 (.loop (loopAt 12 (bodyOf Tryz.f11) .skip)) ⟨dendronlaw17_VersusAdds_i12, dendronlaw17_VersusAdds_o12, lp dendronlaw17_VersusAdds_s12 K0⟩ :=
 loop_piece H.ty (n11 H) hm (LHok_of (l := []) (by kernel_rfl) trivial) dendronlaw17_VersusAdds_l12 K0
theorem ok11 {T : Told} (H : Hands T) : CtrOk T Tryz.prog 11 c11 :=
 fn_ok H.ty (n11 H) hm (lh := dendronlaw17_VersusAdds_lh) (ct := c11) (dcd := fun y => (y.2.1)) Tryz.func11 (by kernel_rfl) (by rfl) (LHok_of (l := [(.loop (loopAt 12 (bodyOf Tryz.f11) .skip), ⟨dendronlaw17_VersusAdds_i12, dendronlaw17_VersusAdds_o12, lp dendronlaw17_VersusAdds_s12 K0⟩)]) (by kernel_rfl) ⟨dendronlaw17_VersusAdds_p12 H, trivial⟩) (by decide) (fun _ => rfl) (fun x r h => (dendronlaw17_VersusAdds_eq x.1 x.2.1 x.2.2.1).trans h)
end Go.Proofs.YtaonkcmflkmncaaGreatDoor.X
