/- Own work: part of the proof; the first line of each part says what it tells. -/
import Derived.Test.YtaonkcmflkmncaaGreatDoorLe9
import Derived.Test.YtaonkcmflkmncaaGreatDoorLe12


namespace Go.Proofs.YtaonkcmflkmncaaGreatDoor.X
open Go
set_option linter.unusedVariables false
set_option linter.unusedSimpArgs false
set_option maxRecDepth 100000
theorem F_in {ps : List (Ty × PM)} {rs : List (Ty × Bool)} {T : Type} {F : HL (fsts ps) → Option T} {enc : T → HL (lents ps) × HL (fsts rs)} {wi : Option Wir} (x : HL (fsts ps)) {r : Option T} (h : F x = r) : (Ctr.mk ps rs T F enc wi).F x = r := h
theorem hm : Tryz.prog.follows .mixedOrders = true := by kernel_rfl
structure Hands (T : Told) : Prop where
 ty : TbOk Tryz.prog tb
 h167 : CtrOk T Tryz.prog 167 c167
 h174 : CtrOk T Tryz.prog 174 c174
theorem n81 {T : Told} (H : Hands T) : EnvOk T Tryz.prog (envL e81) := envL_ok (l := e81) trivial
theorem ok81 {T : Told} (H : Hands T) : CtrOk T Tryz.prog 81 c81 :=
 fn_ok H.ty (n81 H) hm (lh := dendronlaw09_number_lh) (ct := c81) (dcd := fun y => (y.2.1)) Tryz.func81 (by kernel_rfl) (by rfl) (LHok_of (l := []) (by kernel_rfl) trivial) (by decide) (fun _ => rfl) (fun x r h => (dendronlaw09_number_eq x.1).trans h)
theorem n31 {T : Told} (H : Hands T) : EnvOk T Tryz.prog (envL e31) := envL_ok (l := e31) ⟨ok81 H, trivial⟩
theorem dendronlaw09_Few_p3 {T : Told} (H : Hands T) : PieceOk T Tryz.prog 32 (.loop (loopAt 3 (bodyOf Tryz.f31) .skip)) ⟨dendronlaw09_Few_i3, dendronlaw09_Few_o3, lp dendronlaw09_Few_s3 K0⟩ :=
 loop_piece H.ty (n31 H) hm (LHok_of (l := []) (by kernel_rfl) trivial) dendronlaw09_Few_l3 K0
theorem ok31 {T : Told} (H : Hands T) : CtrOk T Tryz.prog 31 c31 :=
 fn_ok H.ty (n31 H) hm (lh := dendronlaw09_Few_lh) (ct := c31) (dcd := fun y => (y.2.1)) Tryz.func31 (by kernel_rfl) (by rfl) (LHok_of (l := [(.loop (loopAt 3 (bodyOf Tryz.f31) .skip), ⟨dendronlaw09_Few_i3, dendronlaw09_Few_o3, lp dendronlaw09_Few_s3 K0⟩)]) (by kernel_rfl) ⟨dendronlaw09_Few_p3 H, trivial⟩) (by decide) (fun _ => rfl) (fun x r h => (dendronlaw09_Few_eq x.1 x.2.1).trans h)
theorem n114 {T : Told} (H : Hands T) : EnvOk T Tryz.prog (envL e114) := envL_ok (l := e114) trivial
theorem nat_trim_p2 {T : Told} (H : Hands T) : PieceOk T Tryz.prog 23 (.loop (loopAt 2 (bodyOf Tryz.f114) .skip)) ⟨nat_trim_i2, nat_trim_o2, lp nat_trim_s2 K0⟩ :=
 loop_piece H.ty (n114 H) hm (LHok_of (l := []) (by kernel_rfl) trivial) nat_trim_l2 K0
theorem ok114 {T : Told} (H : Hands T) : CtrOk T Tryz.prog 114 c114 :=
 fn_ok H.ty (n114 H) hm (lh := nat_trim_lh) (ct := c114) (dcd := fun y => (y.2.1)) Tryz.func114 (by kernel_rfl) (by rfl) (LHok_of (l := [(.loop (loopAt 2 (bodyOf Tryz.f114) .skip), ⟨nat_trim_i2, nat_trim_o2, lp nat_trim_s2 K0⟩)]) (by kernel_rfl) ⟨nat_trim_p2 H, trivial⟩) (by decide) (fun _ => rfl) (fun x r h => (nat_trim_eq x.1).trans h)
theorem n70 {T : Told} (H : Hands T) : EnvOk T Tryz.prog (envL e70) := envL_ok (l := e70) ⟨ok114 H, trivial⟩
theorem ok70 {T : Told} (H : Hands T) : CtrOk T Tryz.prog 70 c70 :=
 fn_ok H.ty (n70 H) hm (lh := nat_Of_lh) (ct := c70) (dcd := fun y => (y.2.1)) Tryz.func70 (by kernel_rfl) (by rfl) (LHok_of (l := []) (by kernel_rfl) trivial) (by decide) (fun _ => rfl) (fun x r h => (nat_Of_eq x.1).trans h)
theorem n117 {T : Told} (H : Hands T) : EnvOk T Tryz.prog (envL e117) := envL_ok (l := e117) trivial
theorem ok117 {T : Told} (H : Hands T) : CtrOk T Tryz.prog 117 c117 :=
 fn_ok H.ty (n117 H) hm (lh := whole_sign_lh) (ct := c117) (dcd := fun y => (y.2.1)) Tryz.func117 (by kernel_rfl) (by rfl) (LHok_of (l := []) (by kernel_rfl) trivial) (by decide) (fun _ => rfl) (fun x r h => (whole_sign_eq x.1 x.2.1).trans h)
theorem n87 {T : Told} (H : Hands T) : EnvOk T Tryz.prog (envL e87) := envL_ok (l := e87) ⟨ok70 H, ok117 H, trivial⟩
theorem ok87 {T : Told} (H : Hands T) : CtrOk T Tryz.prog 87 c87 :=
 fn_ok H.ty (n87 H) hm (lh := whole_Of_lh) (ct := c87) (dcd := fun y => (y.2.1)) Tryz.func87 (by kernel_rfl) (by rfl) (LHok_of (l := []) (by kernel_rfl) trivial) (by decide) (fun _ => rfl) (fun x r h => (whole_Of_eq x.1).trans h)
theorem n58 {T : Told} (H : Hands T) : EnvOk T Tryz.prog (envL e58) := envL_ok (l := e58) ⟨ok70 H, ok87 H, trivial⟩
theorem ok58 {T : Told} (H : Hands T) : CtrOk T Tryz.prog 58 c58 :=
 fn_ok H.ty (n58 H) hm (lh := ratio_Of_lh) (ct := c58) (dcd := fun y => (y.2.1)) Tryz.func58 (by kernel_rfl) (by rfl) (LHok_of (l := []) (by kernel_rfl) trivial) (by decide) (fun _ => rfl) (fun x r h => (ratio_Of_eq x.1).trans h)
theorem n53 {T : Told} (H : Hands T) : EnvOk T Tryz.prog (envL e53) := envL_ok (l := e53) ⟨ok58 H, trivial⟩
theorem ok53 {T : Told} (H : Hands T) : CtrOk T Tryz.prog 53 c53 :=
 fn_ok H.ty (n53 H) hm (lh := ratio_One_lh) (ct := c53) (dcd := fun y => (y.2.1)) Tryz.func53 (by kernel_rfl) (by rfl) (LHok_of (l := []) (by kernel_rfl) trivial) (by decide) (fun _ => rfl) (fun x r h => (ratio_One_eq ).trans h)
theorem n24 {T : Told} (H : Hands T) : EnvOk T Tryz.prog (envL e24) := envL_ok (l := e24) ⟨ok70 H, trivial⟩
theorem ok24 {T : Told} (H : Hands T) : CtrOk T Tryz.prog 24 c24 :=
 fn_ok H.ty (n24 H) hm (lh := ratio_Zero_lh) (ct := c24) (dcd := fun y => (y.2.1)) Tryz.func24 (by kernel_rfl) (by rfl) (LHok_of (l := []) (by kernel_rfl) trivial) (by decide) (fun _ => rfl) (fun x r h => (ratio_Zero_eq ).trans h)
theorem n101 {T : Told} (H : Hands T) : EnvOk T Tryz.prog (envL e101) := envL_ok (l := e101) ⟨ok114 H, trivial⟩
theorem nat_Clean_p3 {T : Told} (H : Hands T) : PieceOk T Tryz.prog 24 (.loop (loopAt 3 (bodyOf Tryz.f101) .skip)) ⟨nat_Clean_i3, nat_Clean_o3, lp nat_Clean_s3 K0⟩ :=
 loop_piece H.ty (n101 H) hm (LHok_of (l := []) (by kernel_rfl) trivial) nat_Clean_l3 K0
theorem ok101 {T : Told} (H : Hands T) : CtrOk T Tryz.prog 101 c101 :=
 fn_ok H.ty (n101 H) hm (lh := nat_Clean_lh) (ct := c101) (dcd := fun y => (y.2.1)) Tryz.func101 (by kernel_rfl) (by rfl) (LHok_of (l := [(.loop (loopAt 3 (bodyOf Tryz.f101) .skip), ⟨nat_Clean_i3, nat_Clean_o3, lp nat_Clean_s3 K0⟩)]) (by kernel_rfl) ⟨nat_Clean_p3 H, trivial⟩) (by decide) (fun _ => rfl) (fun x r h => (nat_Clean_eq x.1).trans h)
theorem n166 {T : Told} (H : Hands T) : EnvOk T Tryz.prog (envL e166) := envL_ok (l := e166) ⟨ok101 H, trivial⟩
theorem ok166 {T : Told} (H : Hands T) : CtrOk T Tryz.prog 166 c166 :=
 fn_ok H.ty (n166 H) hm (lh := nat_To_lh) (ct := c166) (dcd := fun y => (y.2.1, y.2.2.1)) Tryz.func166 (by kernel_rfl) (by rfl) (LHok_of (l := []) (by kernel_rfl) trivial) (by decide) (fun _ => rfl) (fun x r h => (nat_To_eq x.1).trans h)
theorem n144 {T : Told} (H : Hands T) : EnvOk T Tryz.prog (envL e144) := envL_ok (l := e144) ⟨ok70 H, ok166 H, trivial⟩
theorem nat_euclid_p3 {T : Told} (H : Hands T) : PieceOk T Tryz.prog 27 (.loop (loopAt 3 (bodyOf Tryz.f144) .skip)) ⟨nat_euclid_i3, nat_euclid_o3, lp nat_euclid_s3 K0⟩ :=
 loop_piece H.ty (n144 H) hm (LHok_of (l := []) (by kernel_rfl) trivial) nat_euclid_l3 K0
theorem ok144 {T : Told} (H : Hands T) : CtrOk T Tryz.prog 144 c144 :=
 fn_ok H.ty (n144 H) hm (lh := nat_euclid_lh) (ct := c144) (dcd := fun y => (y.2.1)) Tryz.func144 (by kernel_rfl) (by rfl) (LHok_of (l := [(.loop (loopAt 3 (bodyOf Tryz.f144) .skip), ⟨nat_euclid_i3, nat_euclid_o3, lp nat_euclid_s3 K0⟩)]) (by kernel_rfl) ⟨nat_euclid_p3 H, trivial⟩) (by decide) (fun _ => rfl) (fun x r h => (nat_euclid_eq x.1 x.2.1).trans h)
theorem n145 {T : Told} (H : Hands T) : EnvOk T Tryz.prog (envL e145) := envL_ok (l := e145) ⟨H.h167, trivial⟩
theorem nat_zeros_p3 {T : Told} (H : Hands T) : PieceOk T Tryz.prog 24 (.loop (loopAt 3 (bodyOf Tryz.f145) .skip)) ⟨nat_zeros_i3, nat_zeros_o3, lp nat_zeros_s3 K0⟩ :=
 loop_piece H.ty (n145 H) hm (LHok_of (l := []) (by kernel_rfl) trivial) nat_zeros_l3 K0
theorem ok145 {T : Told} (H : Hands T) : CtrOk T Tryz.prog 145 c145 :=
 fn_ok H.ty (n145 H) hm (lh := nat_zeros_lh) (ct := c145) (dcd := fun y => (y.2.1)) Tryz.func145 (by kernel_rfl) (by rfl) (LHok_of (l := [(.loop (loopAt 3 (bodyOf Tryz.f145) .skip), ⟨nat_zeros_i3, nat_zeros_o3, lp nat_zeros_s3 K0⟩)]) (by kernel_rfl) ⟨nat_zeros_p3 H, trivial⟩) (by decide) (fun _ => rfl) (fun x r h => (nat_zeros_eq x.1).trans h)
theorem n153 {T : Told} (H : Hands T) : EnvOk T Tryz.prog (envL e153) := envL_ok (l := e153) trivial
theorem ok153 {T : Told} (H : Hands T) : CtrOk T Tryz.prog 153 c153 :=
 fn_ok H.ty (n153 H) hm (lh := nat_limb_lh) (ct := c153) (dcd := fun y => (y.2.1)) Tryz.func153 (by kernel_rfl) (by rfl) (LHok_of (l := []) (by kernel_rfl) trivial) (by decide) (fun _ => rfl) (fun x r h => (nat_limb_eq x.1 x.2.1).trans h)
theorem n146 {T : Told} (H : Hands T) : EnvOk T Tryz.prog (envL e146) := envL_ok (l := e146) ⟨ok114 H, ok153 H, trivial⟩
theorem nat_shr_p6 {T : Told} (H : Hands T) : PieceOk T Tryz.prog 50 (.loop (loopAt 6 (bodyOf Tryz.f146) .skip)) ⟨nat_shr_i6, nat_shr_o6, lp nat_shr_s6 K0⟩ :=
 loop_piece H.ty (n146 H) hm (LHok_of (l := []) (by kernel_rfl) trivial) nat_shr_l6 K0
theorem ok146 {T : Told} (H : Hands T) : CtrOk T Tryz.prog 146 c146 :=
 fn_ok H.ty (n146 H) hm (lh := nat_shr_lh) (ct := c146) (dcd := fun y => (y.2.1)) Tryz.func146 (by kernel_rfl) (by rfl) (LHok_of (l := [(.loop (loopAt 6 (bodyOf Tryz.f146) .skip), ⟨nat_shr_i6, nat_shr_o6, lp nat_shr_s6 K0⟩)]) (by kernel_rfl) ⟨nat_shr_p6 H, trivial⟩) (by decide) (fun _ => rfl) (fun x r h => (nat_shr_eq x.1 x.2.1).trans h)
theorem n147 {T : Told} (H : Hands T) : EnvOk T Tryz.prog (envL e147) := envL_ok (l := e147) trivial
theorem nat_order_p6 {T : Told} (H : Hands T) : PieceOk T Tryz.prog 45 (.loop (loopAt 6 (bodyOf Tryz.f147) .skip)) ⟨nat_order_i6, nat_order_o6, lp nat_order_s6 K0⟩ :=
 loop_piece H.ty (n147 H) hm (LHok_of (l := []) (by kernel_rfl) trivial) nat_order_l6 K0
theorem ok147 {T : Told} (H : Hands T) : CtrOk T Tryz.prog 147 c147 :=
 fn_ok H.ty (n147 H) hm (lh := nat_order_lh) (ct := c147) (dcd := fun y => (y.2.1)) Tryz.func147 (by kernel_rfl) (by rfl) (LHok_of (l := [(.loop (loopAt 6 (bodyOf Tryz.f147) .skip), ⟨nat_order_i6, nat_order_o6, lp nat_order_s6 K0⟩)]) (by kernel_rfl) ⟨nat_order_p6 H, trivial⟩) (by decide) (fun _ => rfl) (fun x r h => (nat_order_eq x.1 x.2.1).trans h)
theorem n148 {T : Told} (H : Hands T) : EnvOk T Tryz.prog (envL e148) := envL_ok (l := e148) ⟨ok114 H, trivial⟩
theorem nat_shl_p4 {T : Told} (H : Hands T) : PieceOk T Tryz.prog 51 (.loop (loopAt 4 (bodyOf Tryz.f148) .skip)) ⟨nat_shl_i4, nat_shl_o4, lp nat_shl_s4 K0⟩ :=
 loop_piece H.ty (n148 H) hm (LHok_of (l := []) (by kernel_rfl) trivial) nat_shl_l4 K0
theorem ok148 {T : Told} (H : Hands T) : CtrOk T Tryz.prog 148 c148 :=
 fn_ok H.ty (n148 H) hm (lh := nat_shl_lh) (ct := c148) (dcd := fun y => (y.2.1)) Tryz.func148 (by kernel_rfl) (by rfl) (LHok_of (l := [(.loop (loopAt 4 (bodyOf Tryz.f148) .skip), ⟨nat_shl_i4, nat_shl_o4, lp nat_shl_s4 K0⟩)]) (by kernel_rfl) ⟨nat_shl_p4 H, trivial⟩) (by decide) (fun _ => rfl) (fun x r h => (nat_shl_eq x.1 x.2.1).trans h)
theorem n151 {T : Told} (H : Hands T) : EnvOk T Tryz.prog (envL e151) := envL_ok (l := e151) ⟨ok114 H, trivial⟩
theorem nat_small_p4 {T : Told} (H : Hands T) : PieceOk T Tryz.prog 38 (.loop (loopAt 4 (bodyOf Tryz.f151) .skip)) ⟨nat_small_i4, nat_small_o4, lp nat_small_s4 K0⟩ :=
 loop_piece H.ty (n151 H) hm (LHok_of (l := []) (by kernel_rfl) trivial) nat_small_l4 K0
theorem ok151 {T : Told} (H : Hands T) : CtrOk T Tryz.prog 151 c151 :=
 fn_ok H.ty (n151 H) hm (lh := nat_small_lh) (ct := c151) (dcd := fun y => (y.2.1, y.2.2.1)) Tryz.func151 (by kernel_rfl) (by rfl) (LHok_of (l := [(.loop (loopAt 4 (bodyOf Tryz.f151) .skip), ⟨nat_small_i4, nat_small_o4, lp nat_small_s4 K0⟩)]) (by kernel_rfl) ⟨nat_small_p4 H, trivial⟩) (by decide) (fun _ => rfl) (fun x r h => (nat_small_eq x.1 x.2.1).trans h)
theorem n168 {T : Told} (H : Hands T) : EnvOk T Tryz.prog (envL e168) := envL_ok (l := e168) ⟨H.h174, trivial⟩
theorem ok168 {T : Told} (H : Hands T) : CtrOk T Tryz.prog 168 c168 :=
 fn_ok H.ty (n168 H) hm (lh := bits_LeadingZeros32_lh) (ct := c168) (dcd := fun y => (y.2.1)) Tryz.func168 (by kernel_rfl) (by rfl) (LHok_of (l := []) (by kernel_rfl) trivial) (by decide) (fun _ => rfl) (fun x r h => (bits_LeadingZeros32_eq x.1).trans h)
theorem n175 {T : Told} (H : Hands T) : EnvOk T Tryz.prog (envL e175) := envL_ok (l := e175) ⟨ok153 H, trivial⟩
theorem nat_take_p3 {T : Told} (H : Hands T) : PieceOk T Tryz.prog 46 (.loop (loopAt 3 (bodyOf Tryz.f175) .skip)) ⟨nat_take_i3, nat_take_o3, lp nat_take_s3 K0⟩ :=
 loop_piece H.ty (n175 H) hm (LHok_of (l := []) (by kernel_rfl) trivial) nat_take_l3 K0
theorem ok175 {T : Told} (H : Hands T) : CtrOk T Tryz.prog 175 c175 :=
 fn_ok H.ty (n175 H) hm (lh := nat_take_lh) (ct := c175) (dcd := fun y => (y.1.1, y.2.1)) Tryz.func175 (by kernel_rfl) (by rfl) (LHok_of (l := [(.loop (loopAt 3 (bodyOf Tryz.f175) .skip), ⟨nat_take_i3, nat_take_o3, lp nat_take_s3 K0⟩)]) (by kernel_rfl) ⟨nat_take_p3 H, trivial⟩) (by decide) (fun _ => rfl) (fun x r h => (nat_take_eq x.1 x.2.1 x.2.2.1).trans h)
theorem n176 {T : Told} (H : Hands T) : EnvOk T Tryz.prog (envL e176) := envL_ok (l := e176) ⟨ok153 H, trivial⟩
theorem nat_give_p2 {T : Told} (H : Hands T) : PieceOk T Tryz.prog 29 (.loop (loopAt 2 (bodyOf Tryz.f176) .skip)) ⟨nat_give_i2, nat_give_o2, lp nat_give_s2 K0⟩ :=
 loop_piece H.ty (n176 H) hm (LHok_of (l := []) (by kernel_rfl) trivial) nat_give_l2 K0
theorem ok176 {T : Told} (H : Hands T) : CtrOk T Tryz.prog 176 c176 :=
 fn_ok H.ty (n176 H) hm (lh := nat_give_lh) (ct := c176) (dcd := fun y => (y.1.1)) Tryz.func176 (by kernel_rfl) (by rfl) (LHok_of (l := [(.loop (loopAt 2 (bodyOf Tryz.f176) .skip), ⟨nat_give_i2, nat_give_o2, lp nat_give_s2 K0⟩)]) (by kernel_rfl) ⟨nat_give_p2 H, trivial⟩) (by decide) (fun _ => rfl) (fun x r h => (nat_give_eq x.1 x.2.1).trans h)
theorem n169 {T : Told} (H : Hands T) : EnvOk T Tryz.prog (envL e169) := envL_ok (l := e169) ⟨ok175 H, ok176 H, trivial⟩
theorem nat_digit_p4 {T : Told} (H : Hands T) : PieceOk T Tryz.prog 77 (.loop (loopAt 4 (bodyOf Tryz.f169) .skip)) ⟨nat_digit_i4, nat_digit_o4, lp nat_digit_s4 K0⟩ :=
 loop_piece H.ty (n169 H) hm (LHok_of (l := []) (by kernel_rfl) trivial) nat_digit_l4 K0
theorem ok169 {T : Told} (H : Hands T) : CtrOk T Tryz.prog 169 c169 :=
 fn_ok H.ty (n169 H) hm (lh := nat_digit_lh) (ct := c169) (dcd := fun y => (y.1.1, y.2.1)) Tryz.func169 (by kernel_rfl) (by rfl) (LHok_of (l := [(.loop (loopAt 4 (bodyOf Tryz.f169) .skip), ⟨nat_digit_i4, nat_digit_o4, lp nat_digit_s4 K0⟩)]) (by kernel_rfl) ⟨nat_digit_p4 H, trivial⟩) (by decide) (fun _ => rfl) (fun x r h => (nat_digit_eq x.1 x.2.1).trans h)
theorem n152 {T : Told} (H : Hands T) : EnvOk T Tryz.prog (envL e152) := envL_ok (l := e152) ⟨ok114 H, ok146 H, ok148 H, ok168 H, ok169 H, trivial⟩
theorem nat_long_p7 {T : Told} (H : Hands T) : PieceOk T Tryz.prog 64 (.loop (loopAt 7 (bodyOf Tryz.f152) .skip)) ⟨nat_long_i7, nat_long_o7, lp nat_long_s7 K0⟩ :=
 loop_piece H.ty (n152 H) hm (LHok_of (l := []) (by kernel_rfl) trivial) nat_long_l7 K0
theorem ok152 {T : Told} (H : Hands T) : CtrOk T Tryz.prog 152 c152 :=
 fn_ok H.ty (n152 H) hm (lh := nat_long_lh) (ct := c152) (dcd := fun y => (y.2.1, y.2.2.1)) Tryz.func152 (by kernel_rfl) (by rfl) (LHok_of (l := [(.loop (loopAt 7 (bodyOf Tryz.f152) .skip), ⟨nat_long_i7, nat_long_o7, lp nat_long_s7 K0⟩)]) (by kernel_rfl) ⟨nat_long_p7 H, trivial⟩) (by decide) (fun _ => rfl) (fun x r h => (nat_long_eq x.1 x.2.1).trans h)
theorem n116 {T : Told} (H : Hands T) : EnvOk T Tryz.prog (envL e116) := envL_ok (l := e116) ⟨ok70 H, ok101 H, ok147 H, ok151 H, ok152 H, trivial⟩
theorem ok116 {T : Told} (H : Hands T) : CtrOk T Tryz.prog 116 c116 :=
 fn_ok H.ty (n116 H) hm (lh := nat_DivMod_lh) (ct := c116) (dcd := fun y => (y.2.1, y.2.2.1, y.2.2.2.1)) Tryz.func116 (by kernel_rfl) (by rfl) (LHok_of (l := []) (by kernel_rfl) trivial) (by decide) (fun _ => rfl) (fun x r h => (nat_DivMod_eq x.1 x.2.1).trans h)
theorem n149 {T : Told} (H : Hands T) : EnvOk T Tryz.prog (envL e149) := envL_ok (l := e149) ⟨ok116 H, trivial⟩
theorem ok149 {T : Told} (H : Hands T) : CtrOk T Tryz.prog 149 c149 :=
 fn_ok H.ty (n149 H) hm (lh := nat_rest_lh) (ct := c149) (dcd := fun y => (y.2.1, y.2.2.1)) Tryz.func149 (by kernel_rfl) (by rfl) (LHok_of (l := []) (by kernel_rfl) trivial) (by decide) (fun _ => rfl) (fun x r h => (nat_rest_eq x.1 x.2.1).trans h)
theorem n150 {T : Told} (H : Hands T) : EnvOk T Tryz.prog (envL e150) := envL_ok (l := e150) ⟨ok114 H, ok153 H, trivial⟩
theorem nat_minus_p4 {T : Told} (H : Hands T) : PieceOk T Tryz.prog 39 (.loop (loopAt 4 (bodyOf Tryz.f150) .skip)) ⟨nat_minus_i4, nat_minus_o4, lp nat_minus_s4 K0⟩ :=
 loop_piece H.ty (n150 H) hm (LHok_of (l := []) (by kernel_rfl) trivial) nat_minus_l4 K0
theorem ok150 {T : Told} (H : Hands T) : CtrOk T Tryz.prog 150 c150 :=
 fn_ok H.ty (n150 H) hm (lh := nat_minus_lh) (ct := c150) (dcd := fun y => (y.2.1)) Tryz.func150 (by kernel_rfl) (by rfl) (LHok_of (l := [(.loop (loopAt 4 (bodyOf Tryz.f150) .skip), ⟨nat_minus_i4, nat_minus_o4, lp nat_minus_s4 K0⟩)]) (by kernel_rfl) ⟨nat_minus_p4 H, trivial⟩) (by decide) (fun _ => rfl) (fun x r h => (nat_minus_eq x.1 x.2.1).trans h)
theorem n115 {T : Told} (H : Hands T) : EnvOk T Tryz.prog (envL e115) := envL_ok (l := e115) ⟨ok101 H, ok144 H, ok145 H, ok146 H, ok147 H, ok148 H, ok149 H, ok150 H, trivial⟩
theorem nat_Gcd_p10 {T : Told} (H : Hands T) : PieceOk T Tryz.prog 86 (.loop (loopAt 10 (bodyOf Tryz.f115) .skip)) ⟨nat_Gcd_i10, nat_Gcd_o10, lp nat_Gcd_s10 K0⟩ :=
 loop_piece H.ty (n115 H) hm (LHok_of (l := []) (by kernel_rfl) trivial) nat_Gcd_l10 K0
theorem ok115 {T : Told} (H : Hands T) : CtrOk T Tryz.prog 115 c115 :=
 fn_ok H.ty (n115 H) hm (lh := nat_Gcd_lh) (ct := c115) (dcd := fun y => (y.2.1)) Tryz.func115 (by kernel_rfl) (by rfl) (LHok_of (l := [(.loop (loopAt 10 (bodyOf Tryz.f115) .skip), ⟨nat_Gcd_i10, nat_Gcd_o10, lp nat_Gcd_s10 K0⟩)]) (by kernel_rfl) ⟨nat_Gcd_p10 H, trivial⟩) (by decide) (fun _ => rfl) (fun x r h => (nat_Gcd_eq x.1 x.2.1).trans h)
theorem n72 {T : Told} (H : Hands T) : EnvOk T Tryz.prog (envL e72) := envL_ok (l := e72) ⟨ok70 H, ok115 H, ok116 H, trivial⟩
theorem ok72 {T : Told} (H : Hands T) : CtrOk T Tryz.prog 72 c72 :=
 fn_ok H.ty (n72 H) hm (lh := ratio_form_lh) (ct := c72) (dcd := fun y => (y.2.1)) Tryz.func72 (by kernel_rfl) (by rfl) (LHok_of (l := []) (by kernel_rfl) trivial) (by decide) (fun _ => rfl) (fun x r h => (ratio_form_eq x.1 x.2.1).trans h)
theorem n100 {T : Told} (H : Hands T) : EnvOk T Tryz.prog (envL e100) := envL_ok (l := e100) ⟨ok101 H, ok117 H, trivial⟩
theorem ok100 {T : Told} (H : Hands T) : CtrOk T Tryz.prog 100 c100 :=
 fn_ok H.ty (n100 H) hm (lh := whole_Clean_lh) (ct := c100) (dcd := fun y => (y.2.1)) Tryz.func100 (by kernel_rfl) (by rfl) (LHok_of (l := []) (by kernel_rfl) trivial) (by decide) (fun _ => rfl) (fun x r h => (whole_Clean_eq x.1).trans h)
theorem n55 {T : Told} (H : Hands T) : EnvOk T Tryz.prog (envL e55) := envL_ok (l := e55) ⟨ok24 H, ok72 H, ok100 H, ok101 H, trivial⟩
theorem ok55 {T : Told} (H : Hands T) : CtrOk T Tryz.prog 55 c55 :=
 fn_ok H.ty (n55 H) hm (lh := ratio_Clean_lh) (ct := c55) (dcd := fun y => (y.2.1)) Tryz.func55 (by kernel_rfl) (by rfl) (LHok_of (l := []) (by kernel_rfl) trivial) (by decide) (fun _ => rfl) (fun x r h => (ratio_Clean_eq x.1).trans h)
theorem n118 {T : Told} (H : Hands T) : EnvOk T Tryz.prog (envL e118) := envL_ok (l := e118) ⟨ok101 H, ok114 H, ok153 H, trivial⟩
theorem nat_Add_p5 {T : Told} (H : Hands T) : PieceOk T Tryz.prog 43 (.loop (loopAt 5 (bodyOf Tryz.f118) .skip)) ⟨nat_Add_i5, nat_Add_o5, lp nat_Add_s5 K0⟩ :=
 loop_piece H.ty (n118 H) hm (LHok_of (l := []) (by kernel_rfl) trivial) nat_Add_l5 K0
theorem ok118 {T : Told} (H : Hands T) : CtrOk T Tryz.prog 118 c118 :=
 fn_ok H.ty (n118 H) hm (lh := nat_Add_lh) (ct := c118) (dcd := fun y => (y.2.1)) Tryz.func118 (by kernel_rfl) (by rfl) (LHok_of (l := [(.loop (loopAt 5 (bodyOf Tryz.f118) .skip), ⟨nat_Add_i5, nat_Add_o5, lp nat_Add_s5 K0⟩)]) (by kernel_rfl) ⟨nat_Add_p5 H, trivial⟩) (by decide) (fun _ => rfl) (fun x r h => (nat_Add_eq x.1 x.2.1).trans h)
theorem n119 {T : Told} (H : Hands T) : EnvOk T Tryz.prog (envL e119) := envL_ok (l := e119) ⟨ok101 H, ok147 H, trivial⟩
theorem ok119 {T : Told} (H : Hands T) : CtrOk T Tryz.prog 119 c119 :=
 fn_ok H.ty (n119 H) hm (lh := nat_Cmp_lh) (ct := c119) (dcd := fun y => (y.2.1)) Tryz.func119 (by kernel_rfl) (by rfl) (LHok_of (l := []) (by kernel_rfl) trivial) (by decide) (fun _ => rfl) (fun x r h => (nat_Cmp_eq x.1 x.2.1).trans h)
theorem n120 {T : Told} (H : Hands T) : EnvOk T Tryz.prog (envL e120) := envL_ok (l := e120) ⟨ok101 H, ok147 H, ok150 H, trivial⟩
theorem ok120 {T : Told} (H : Hands T) : CtrOk T Tryz.prog 120 c120 :=
 fn_ok H.ty (n120 H) hm (lh := nat_Sub_lh) (ct := c120) (dcd := fun y => (y.2.1, y.2.2.1)) Tryz.func120 (by kernel_rfl) (by rfl) (LHok_of (l := []) (by kernel_rfl) trivial) (by decide) (fun _ => rfl) (fun x r h => (nat_Sub_eq x.1 x.2.1).trans h)
theorem n73 {T : Told} (H : Hands T) : EnvOk T Tryz.prog (envL e73) := envL_ok (l := e73) ⟨ok100 H, ok117 H, ok118 H, ok119 H, ok120 H, trivial⟩
theorem ok73 {T : Told} (H : Hands T) : CtrOk T Tryz.prog 73 c73 :=
 fn_ok H.ty (n73 H) hm (lh := whole_Add_lh) (ct := c73) (dcd := fun y => (y.2.1)) Tryz.func73 (by kernel_rfl) (by rfl) (LHok_of (l := []) (by kernel_rfl) trivial) (by decide) (fun _ => rfl) (fun x r h => (whole_Add_eq x.1 x.2.1).trans h)
theorem n76 {T : Told} (H : Hands T) : EnvOk T Tryz.prog (envL e76) := envL_ok (l := e76) ⟨ok101 H, ok114 H, trivial⟩
theorem nat_Mul_p8 {T : Told} (H : Hands T) : PieceOk T Tryz.prog 67 (.loop (loopAt 8 (bodyOf Tryz.f76) .skip)) ⟨nat_Mul_i8, nat_Mul_o8, lp nat_Mul_s8 K0⟩ :=
 loop_piece H.ty (n76 H) hm (LHok_of (l := []) (by kernel_rfl) trivial) nat_Mul_l8 K0
theorem nat_Mul_p4 {T : Told} (H : Hands T) : PieceOk T Tryz.prog 67 (.loop (loopAt 4 (bodyOf Tryz.f76) .skip)) ⟨nat_Mul_i4, nat_Mul_o4, lp nat_Mul_s4 K0⟩ :=
 loop_piece H.ty (n76 H) hm (LHok_of (l := [(.loop (loopAt 8 (bodyOf Tryz.f76) .skip), ⟨nat_Mul_i8, nat_Mul_o8, lp nat_Mul_s8 K0⟩)]) (by kernel_rfl) ⟨nat_Mul_p8 H, trivial⟩) nat_Mul_l4 K0
theorem ok76 {T : Told} (H : Hands T) : CtrOk T Tryz.prog 76 c76 :=
 fn_ok H.ty (n76 H) hm (lh := nat_Mul_lh) (ct := c76) (dcd := fun y => (y.2.1)) Tryz.func76 (by kernel_rfl) (by rfl) (LHok_of (l := [(.loop (loopAt 4 (bodyOf Tryz.f76) .skip), ⟨nat_Mul_i4, nat_Mul_o4, lp nat_Mul_s4 K0⟩)]) (by kernel_rfl) ⟨nat_Mul_p4 H, trivial⟩) (by decide) (fun _ => rfl) (fun x r h => (nat_Mul_eq x.1 x.2.1).trans h)
theorem n74 {T : Told} (H : Hands T) : EnvOk T Tryz.prog (envL e74) := envL_ok (l := e74) ⟨ok76 H, ok100 H, ok117 H, trivial⟩
theorem ok74 {T : Told} (H : Hands T) : CtrOk T Tryz.prog 74 c74 :=
 fn_ok H.ty (n74 H) hm (lh := whole_Mul_lh) (ct := c74) (dcd := fun y => (y.2.1)) Tryz.func74 (by kernel_rfl) (by rfl) (LHok_of (l := []) (by kernel_rfl) trivial) (by decide) (fun _ => rfl) (fun x r h => (whole_Mul_eq x.1 x.2.1).trans h)
theorem n75 {T : Told} (H : Hands T) : EnvOk T Tryz.prog (envL e75) := envL_ok (l := e75) trivial
theorem ok75 {T : Told} (H : Hands T) : CtrOk T Tryz.prog 75 c75 :=
 fn_ok H.ty (n75 H) hm (lh := ratio_den_lh) (ct := c75) (dcd := fun y => (y.2.1)) Tryz.func75 (by kernel_rfl) (by rfl) (LHok_of (l := []) (by kernel_rfl) trivial) (by decide) (fun _ => rfl) (fun x r h => (ratio_den_eq x.1).trans h)
theorem n26 {T : Told} (H : Hands T) : EnvOk T Tryz.prog (envL e26) := envL_ok (l := e26) ⟨ok55 H, ok72 H, ok73 H, ok74 H, ok75 H, ok76 H, trivial⟩
theorem ok26 {T : Told} (H : Hands T) : CtrOk T Tryz.prog 26 c26 :=
 fn_ok H.ty (n26 H) hm (lh := ratio_Add_lh) (ct := c26) (dcd := fun y => (y.2.1)) Tryz.func26 (by kernel_rfl) (by rfl) (LHok_of (l := []) (by kernel_rfl) trivial) (by decide) (fun _ => rfl) (fun x r h => (ratio_Add_eq x.1 x.2.1).trans h)
theorem n27 {T : Told} (H : Hands T) : EnvOk T Tryz.prog (envL e27) := envL_ok (l := e27) ⟨ok55 H, ok72 H, ok74 H, ok76 H, trivial⟩
theorem ok27 {T : Told} (H : Hands T) : CtrOk T Tryz.prog 27 c27 :=
 fn_ok H.ty (n27 H) hm (lh := ratio_Mul_lh) (ct := c27) (dcd := fun y => (y.2.1)) Tryz.func27 (by kernel_rfl) (by rfl) (LHok_of (l := []) (by kernel_rfl) trivial) (by decide) (fun _ => rfl) (fun x r h => (ratio_Mul_eq x.1 x.2.1).trans h)
theorem n54 {T : Told} (H : Hands T) : EnvOk T Tryz.prog (envL e54) := envL_ok (l := e54) ⟨ok100 H, trivial⟩
theorem ok54 {T : Told} (H : Hands T) : CtrOk T Tryz.prog 54 c54 :=
 fn_ok H.ty (n54 H) hm (lh := whole_Sign_lh) (ct := c54) (dcd := fun y => (y.2.1)) Tryz.func54 (by kernel_rfl) (by rfl) (LHok_of (l := []) (by kernel_rfl) trivial) (by decide) (fun _ => rfl) (fun x r h => (whole_Sign_eq x.1).trans h)
theorem n15 {T : Told} (H : Hands T) : EnvOk T Tryz.prog (envL e15) := envL_ok (l := e15) ⟨ok54 H, ok55 H, trivial⟩
theorem ok15 {T : Told} (H : Hands T) : CtrOk T Tryz.prog 15 c15 :=
 fn_ok H.ty (n15 H) hm (lh := ratio_Sign_lh) (ct := c15) (dcd := fun y => (y.2.1)) Tryz.func15 (by kernel_rfl) (by rfl) (LHok_of (l := []) (by kernel_rfl) trivial) (by decide) (fun _ => rfl) (fun x r h => (ratio_Sign_eq x.1).trans h)
theorem n99 {T : Told} (H : Hands T) : EnvOk T Tryz.prog (envL e99) := envL_ok (l := e99) ⟨ok15 H, trivial⟩
theorem poly_trim_p2 {T : Told} (H : Hands T) : PieceOk T Tryz.prog 23 (.loop (loopAt 2 (bodyOf Tryz.f99) .skip)) ⟨poly_trim_i2, poly_trim_o2, lp poly_trim_s2 K0⟩ :=
 loop_piece H.ty (n99 H) hm (LHok_of (l := []) (by kernel_rfl) trivial) poly_trim_l2 K0
theorem ok99 {T : Told} (H : Hands T) : CtrOk T Tryz.prog 99 c99 :=
 fn_ok H.ty (n99 H) hm (lh := poly_trim_lh) (ct := c99) (dcd := fun y => (y.2.1)) Tryz.func99 (by kernel_rfl) (by rfl) (LHok_of (l := [(.loop (loopAt 2 (bodyOf Tryz.f99) .skip), ⟨poly_trim_i2, poly_trim_o2, lp poly_trim_s2 K0⟩)]) (by kernel_rfl) ⟨poly_trim_p2 H, trivial⟩) (by decide) (fun _ => rfl) (fun x r h => (poly_trim_eq x.1).trans h)
theorem n97 {T : Told} (H : Hands T) : EnvOk T Tryz.prog (envL e97) := envL_ok (l := e97) ⟨ok55 H, ok99 H, trivial⟩
theorem poly_Clean_p3 {T : Told} (H : Hands T) : PieceOk T Tryz.prog 24 (.loop (loopAt 3 (bodyOf Tryz.f97) .skip)) ⟨poly_Clean_i3, poly_Clean_o3, lp poly_Clean_s3 K0⟩ :=
 loop_piece H.ty (n97 H) hm (LHok_of (l := []) (by kernel_rfl) trivial) poly_Clean_l3 K0
theorem ok97 {T : Told} (H : Hands T) : CtrOk T Tryz.prog 97 c97 :=
 fn_ok H.ty (n97 H) hm (lh := poly_Clean_lh) (ct := c97) (dcd := fun y => (y.2.1)) Tryz.func97 (by kernel_rfl) (by rfl) (LHok_of (l := [(.loop (loopAt 3 (bodyOf Tryz.f97) .skip), ⟨poly_Clean_i3, poly_Clean_o3, lp poly_Clean_s3 K0⟩)]) (by kernel_rfl) ⟨poly_Clean_p3 H, trivial⟩) (by decide) (fun _ => rfl) (fun x r h => (poly_Clean_eq x.1).trans h)
theorem n71 {T : Told} (H : Hands T) : EnvOk T Tryz.prog (envL e71) := envL_ok (l := e71) ⟨ok24 H, ok26 H, ok27 H, ok97 H, ok99 H, trivial⟩
theorem poly_Mul_p14 {T : Told} (H : Hands T) : PieceOk T Tryz.prog 73 (.loop (loopAt 14 (bodyOf Tryz.f71) .skip)) ⟨poly_Mul_i14, poly_Mul_o14, lp poly_Mul_s14 K0⟩ :=
 loop_piece H.ty (n71 H) hm (LHok_of (l := []) (by kernel_rfl) trivial) poly_Mul_l14 K0
theorem poly_Mul_p6 {T : Told} (H : Hands T) : PieceOk T Tryz.prog 73 (.loop (loopAt 6 (bodyOf Tryz.f71) .skip)) ⟨poly_Mul_i6, poly_Mul_o6, lp poly_Mul_s6 K0⟩ :=
 loop_piece H.ty (n71 H) hm (LHok_of (l := []) (by kernel_rfl) trivial) poly_Mul_l6 K0
theorem poly_Mul_p11 {T : Told} (H : Hands T) : PieceOk T Tryz.prog 73 (.loop (loopAt 11 (bodyOf Tryz.f71) .skip)) ⟨poly_Mul_i11, poly_Mul_o11, lp poly_Mul_s11 K0⟩ :=
 loop_piece H.ty (n71 H) hm (LHok_of (l := [(.loop (loopAt 14 (bodyOf Tryz.f71) .skip), ⟨poly_Mul_i14, poly_Mul_o14, lp poly_Mul_s14 K0⟩)]) (by kernel_rfl) ⟨poly_Mul_p14 H, trivial⟩) poly_Mul_l11 K0
theorem ok71 {T : Told} (H : Hands T) : CtrOk T Tryz.prog 71 c71 :=
 fn_ok H.ty (n71 H) hm (lh := poly_Mul_lh) (ct := c71) (dcd := fun y => (y.2.1)) Tryz.func71 (by kernel_rfl) (by rfl) (LHok_of (l := [(.loop (loopAt 6 (bodyOf Tryz.f71) .skip), ⟨poly_Mul_i6, poly_Mul_o6, lp poly_Mul_s6 K0⟩), (.loop (loopAt 11 (bodyOf Tryz.f71) .skip), ⟨poly_Mul_i11, poly_Mul_o11, lp poly_Mul_s11 K0⟩)]) (by kernel_rfl) ⟨poly_Mul_p6 H, poly_Mul_p11 H, trivial⟩) (by decide) (fun _ => rfl) (fun x r h => (poly_Mul_eq x.1 x.2.1).trans h)
theorem n84 {T : Told} (H : Hands T) : EnvOk T Tryz.prog (envL e84) := envL_ok (l := e84) ⟨ok100 H, ok117 H, trivial⟩
theorem ok84 {T : Told} (H : Hands T) : CtrOk T Tryz.prog 84 c84 :=
 fn_ok H.ty (n84 H) hm (lh := whole_Neg_lh) (ct := c84) (dcd := fun y => (y.2.1)) Tryz.func84 (by kernel_rfl) (by rfl) (LHok_of (l := []) (by kernel_rfl) trivial) (by decide) (fun _ => rfl) (fun x r h => (whole_Neg_eq x.1).trans h)
theorem n35 {T : Told} (H : Hands T) : EnvOk T Tryz.prog (envL e35) := envL_ok (l := e35) ⟨ok55 H, ok84 H, trivial⟩
theorem ok35 {T : Told} (H : Hands T) : CtrOk T Tryz.prog 35 c35 :=
 fn_ok H.ty (n35 H) hm (lh := ratio_Neg_lh) (ct := c35) (dcd := fun y => (y.2.1)) Tryz.func35 (by kernel_rfl) (by rfl) (LHok_of (l := []) (by kernel_rfl) trivial) (by decide) (fun _ => rfl) (fun x r h => (ratio_Neg_eq x.1).trans h)
theorem n50 {T : Told} (H : Hands T) : EnvOk T Tryz.prog (envL e50) := envL_ok (l := e50) ⟨ok26 H, ok35 H, trivial⟩
theorem ok50 {T : Told} (H : Hands T) : CtrOk T Tryz.prog 50 c50 :=
 fn_ok H.ty (n50 H) hm (lh := ratio_Sub_lh) (ct := c50) (dcd := fun y => (y.2.1)) Tryz.func50 (by kernel_rfl) (by rfl) (LHok_of (l := []) (by kernel_rfl) trivial) (by decide) (fun _ => rfl) (fun x r h => (ratio_Sub_eq x.1 x.2.1).trans h)
theorem n86 {T : Told} (H : Hands T) : EnvOk T Tryz.prog (envL e86) := envL_ok (l := e86) ⟨ok54 H, ok72 H, ok84 H, ok100 H, trivial⟩
theorem ok86 {T : Told} (H : Hands T) : CtrOk T Tryz.prog 86 c86 :=
 fn_ok H.ty (n86 H) hm (lh := ratio_Make_lh) (ct := c86) (dcd := fun y => (y.2.1, y.2.2.1)) Tryz.func86 (by kernel_rfl) (by rfl) (LHok_of (l := []) (by kernel_rfl) trivial) (by decide) (fun _ => rfl) (fun x r h => (ratio_Make_eq x.1 x.2.1).trans h)
theorem n63 {T : Told} (H : Hands T) : EnvOk T Tryz.prog (envL e63) := envL_ok (l := e63) trivial
theorem ok63 {T : Told} (H : Hands T) : CtrOk T Tryz.prog 63 c63 :=
 fn_okB H.ty (n63 H) hm (lh := weigh_New_lh) (ct := c63) (wi := w63) (dcd := fun y => (y.2.1, y.2.2.1, y.2.2.2.1, y.2.2.2.2.1)) Tryz.func63 (by kernel_rfl) (by rfl) (LHok_of (l := []) (by kernel_rfl) trivial) (fun _ => rfl) rfl (fun x r h => (weigh_New_eq ).trans h)
theorem n172 {T : Told} (H : Hands T) : EnvOk T Tryz.prog (envL e172) := envL_ok (l := e172) ⟨ok74 H, ok87 H, trivial⟩
theorem weigh_products_p4 {T : Told} (H : Hands T) : PieceOk T Tryz.prog 21 (.loop (loopAt 4 (bodyOf Tryz.f172) .skip)) ⟨weigh_products_i4, weigh_products_o4, lp weigh_products_s4 K0⟩ :=
 loop_piece H.ty (n172 H) hm (LHok_of (l := []) (by kernel_rfl) trivial) weigh_products_l4 K0
theorem ok172 {T : Told} (H : Hands T) : CtrOk T Tryz.prog 172 c172 :=
 fn_ok H.ty (n172 H) hm (lh := weigh_products_lh) (ct := c172) (dcd := fun y => (y.2.1)) Tryz.func172 (by kernel_rfl) (by rfl) (LHok_of (l := [(.loop (loopAt 4 (bodyOf Tryz.f172) .skip), ⟨weigh_products_i4, weigh_products_o4, lp weigh_products_s4 K0⟩)]) (by kernel_rfl) ⟨weigh_products_p4 H, trivial⟩) (by decide) (fun _ => rfl) (fun x r h => (weigh_products_eq ).trans h)
theorem n171 {T : Told} (H : Hands T) : EnvOk T Tryz.prog (envL e171) := envL_ok (l := e171) ⟨ok172 H, trivial⟩
theorem ok171 {T : Told} (H : Hands T) : CtrOk T Tryz.prog 171 c171 :=
 fn_okB H.ty (n171 H) hm (lh := weigh_Table_at_c1_lh) (ct := c171) (wi := w171) (dcd := fun y => (y.2.1, y.2.2.1, y.2.2.2.1, y.2.2.2.2.1)) Tryz.func171 (by kernel_rfl) (by rfl) (LHok_of (l := []) (by kernel_rfl) trivial) (fun _ => rfl) rfl (fun x r h => (weigh_Table_at_c1_eq x.1 x.2.1 x.2.2.1 x.2.2.2.1).trans h)
theorem ok161 {T : Told} (H : Hands T) : CtrOk T Tryz.prog 161 c161 := at_walk (ok171 H)
theorem n127 {T : Told} (H : Hands T) : EnvOk T Tryz.prog (envL e127) := envL_ok (l := e127) ⟨ok74 H, ok86 H, ok161 H, trivial⟩
theorem ok127 {T : Told} (H : Hands T) : CtrOk T Tryz.prog 127 c127 :=
 fn_okB H.ty (n127 H) hm (lh := weigh_Table_quotient_lh) (ct := c127) (wi := w127) (dcd := fun y => (y.2.1, y.2.2.1, y.2.2.2.1, y.2.2.2.2.1, y.2.2.2.2.2.1)) Tryz.func127 (by kernel_rfl) (by rfl) (LHok_of (l := []) (by kernel_rfl) trivial) (fun _ => rfl) rfl (fun x r h => (weigh_Table_quotient_eq x.1 x.2.1 x.2.2.1 x.2.2.2.1 x.2.2.2.2.1 x.2.2.2.2.2.1 x.2.2.2.2.2.2.1).trans h)
theorem n91 {T : Told} (H : Hands T) : EnvOk T Tryz.prog (envL e91) := envL_ok (l := e91) ⟨ok127 H, trivial⟩
theorem ok91 {T : Told} (H : Hands T) : CtrOk T Tryz.prog 91 c91 :=
 fn_okB H.ty (n91 H) hm (lh := weigh_Table_Weight_lh) (ct := c91) (wi := w91) (dcd := fun y => (y.2.1, y.2.2.1, y.2.2.2.1, y.2.2.2.2.1, y.2.2.2.2.2.1, y.2.2.2.2.2.2.1)) Tryz.func91 (by kernel_rfl) (by rfl) (LHok_of (l := []) (by kernel_rfl) trivial) (fun _ => rfl) rfl (fun x r h => (weigh_Table_Weight_eq x.1 x.2.1 x.2.2.1 x.2.2.2.1 x.2.2.2.2.1 x.2.2.2.2.2.1).trans h)
theorem n64 {T : Told} (H : Hands T) : EnvOk T Tryz.prog (envL e64) := envL_ok (l := e64) ⟨ok91 H, trivial⟩
theorem weigh_Table_All_p7 {T : Told} (H : Hands T) : PieceOk T Tryz.prog 35 (.loop (loopAt 7 (bodyOf Tryz.f64) .skip)) ⟨weigh_Table_All_i7, weigh_Table_All_o7, lp weigh_Table_All_s7 K0⟩ :=
 loop_piece H.ty (n64 H) hm (LHok_of (l := []) (by kernel_rfl) trivial) weigh_Table_All_l7 K0
theorem ok64 {T : Told} (H : Hands T) : CtrOk T Tryz.prog 64 c64 :=
 fn_okB H.ty (n64 H) hm (lh := weigh_Table_All_lh) (ct := c64) (wi := w64) (dcd := fun y => (y.2.1, y.2.2.1, y.2.2.2.1, y.2.2.2.2.1, y.2.2.2.2.2.1, y.2.2.2.2.2.2.1)) Tryz.func64 (by kernel_rfl) (by rfl) (LHok_of (l := [(.loop (loopAt 7 (bodyOf Tryz.f64) .skip), ⟨weigh_Table_All_i7, weigh_Table_All_o7, lp weigh_Table_All_s7 K0⟩)]) (by kernel_rfl) ⟨weigh_Table_All_p7 H, trivial⟩) (fun _ => rfl) rfl (fun x r h => (weigh_Table_All_eq x.1 x.2.1 x.2.2.1 x.2.2.2.1 x.2.2.2.2.1).trans h)
theorem n20 {T : Told} (H : Hands T) : EnvOk T Tryz.prog (envL e20) := envL_ok (l := e20) ⟨ok24 H, ok26 H, ok27 H, ok63 H, ok64 H, trivial⟩
theorem linear_Weigh_p8 {T : Told} (H : Hands T) : PieceOk T Tryz.prog 44 (.loop (loopAt 8 (bodyOf Tryz.f20) .skip)) ⟨linear_Weigh_i8, linear_Weigh_o8, lp linear_Weigh_s8 K0⟩ :=
 loop_piece H.ty (n20 H) hm (LHok_of (l := []) (by kernel_rfl) trivial) linear_Weigh_l8 K0
theorem ok20 {T : Told} (H : Hands T) : CtrOk T Tryz.prog 20 c20 :=
 fn_ok H.ty (n20 H) hm (lh := linear_Weigh_lh) (ct := c20) (dcd := fun y => (y.2.1, y.2.2.1)) Tryz.func20 (by kernel_rfl) (by rfl) (LHok_of (l := [(.loop (loopAt 8 (bodyOf Tryz.f20) .skip), ⟨linear_Weigh_i8, linear_Weigh_o8, lp linear_Weigh_s8 K0⟩)]) (by kernel_rfl) ⟨linear_Weigh_p8 H, trivial⟩) (by decide) (fun _ => rfl) (fun x r h => (linear_Weigh_eq x.1 x.2.1).trans h)
theorem n124 {T : Told} (H : Hands T) : EnvOk T Tryz.prog (envL e124) := envL_ok (l := e124) ⟨ok100 H, ok119 H, trivial⟩
theorem ok124 {T : Told} (H : Hands T) : CtrOk T Tryz.prog 124 c124 :=
 fn_ok H.ty (n124 H) hm (lh := whole_Cmp_lh) (ct := c124) (dcd := fun y => (y.2.1)) Tryz.func124 (by kernel_rfl) (by rfl) (LHok_of (l := []) (by kernel_rfl) trivial) (by decide) (fun _ => rfl) (fun x r h => (whole_Cmp_eq x.1 x.2.1).trans h)
theorem n80 {T : Told} (H : Hands T) : EnvOk T Tryz.prog (envL e80) := envL_ok (l := e80) ⟨ok55 H, ok74 H, ok75 H, ok124 H, trivial⟩
theorem ok80 {T : Told} (H : Hands T) : CtrOk T Tryz.prog 80 c80 :=
 fn_ok H.ty (n80 H) hm (lh := ratio_Cmp_lh) (ct := c80) (dcd := fun y => (y.2.1)) Tryz.func80 (by kernel_rfl) (by rfl) (LHok_of (l := []) (by kernel_rfl) trivial) (by decide) (fun _ => rfl) (fun x r h => (ratio_Cmp_eq x.1 x.2.1).trans h)
theorem n30 {T : Told} (H : Hands T) : EnvOk T Tryz.prog (envL e30) := envL_ok (l := e30) ⟨ok80 H, trivial⟩
theorem ok30 {T : Told} (H : Hands T) : CtrOk T Tryz.prog 30 c30 :=
 fn_ok H.ty (n30 H) hm (lh := ratio_Same_lh) (ct := c30) (dcd := fun y => (y.2.1)) Tryz.func30 (by kernel_rfl) (by rfl) (LHok_of (l := []) (by kernel_rfl) trivial) (by decide) (fun _ => rfl) (fun x r h => (ratio_Same_eq x.1 x.2.1).trans h)
theorem n14 {T : Told} (H : Hands T) : EnvOk T Tryz.prog (envL e14) := envL_ok (l := e14) ⟨ok20 H, ok30 H, ok53 H, trivial⟩
theorem dendronlaw16_awake_cF {r} (h : c14.F () = r) : dendronlaw16_awake = r := by
 subst h
 delta c14
 exact (@F_in [] _ _ (fun _ => dendronlaw16_awake) _ _ () _ rfl).symm
theorem dendronlaw16_awake_fx (x) (r : c14.T) (h : c14.F x = some r) : fnF tb (envL e14) Tryz.f14 dendronlaw16_awake_lh c14.ps c14.rs (T := c14.T) (fun y => (y.2.1)) x = some r := by
 cases x
 exact dendronlaw16_awake_eq.trans (dendronlaw16_awake_cF h)
theorem ok14 {T : Told} (H : Hands T) : CtrOk T Tryz.prog 14 c14 :=
 fn_ok H.ty (n14 H) hm (lh := dendronlaw16_awake_lh) (ct := c14) (dcd := fun y => (y.2.1)) Tryz.func14 (by kernel_rfl) (by rfl) (LHok_of (l := []) (by kernel_rfl) trivial) (by decide) (fun _ => rfl) (fun x r h => dendronlaw16_awake_fx x r h)
theorem n102 {T : Told} (H : Hands T) : EnvOk T Tryz.prog (envL e102) := envL_ok (l := e102) ⟨ok24 H, trivial⟩
theorem ok102 {T : Told} (H : Hands T) : CtrOk T Tryz.prog 102 c102 :=
 fn_ok H.ty (n102 H) hm (lh := poly_at_lh) (ct := c102) (dcd := fun y => (y.2.1)) Tryz.func102 (by kernel_rfl) (by rfl) (LHok_of (l := []) (by kernel_rfl) trivial) (by decide) (fun _ => rfl) (fun x r h => (poly_at_eq x.1 x.2.1).trans h)
theorem n60 {T : Told} (H : Hands T) : EnvOk T Tryz.prog (envL e60) := envL_ok (l := e60) ⟨ok26 H, ok99 H, ok102 H, trivial⟩
theorem poly_Add_p3 {T : Told} (H : Hands T) : PieceOk T Tryz.prog 28 (.loop (loopAt 3 (bodyOf Tryz.f60) .skip)) ⟨poly_Add_i3, poly_Add_o3, lp poly_Add_s3 K0⟩ :=
 loop_piece H.ty (n60 H) hm (LHok_of (l := []) (by kernel_rfl) trivial) poly_Add_l3 K0
theorem ok60 {T : Told} (H : Hands T) : CtrOk T Tryz.prog 60 c60 :=
 fn_ok H.ty (n60 H) hm (lh := poly_Add_lh) (ct := c60) (dcd := fun y => (y.2.1)) Tryz.func60 (by kernel_rfl) (by rfl) (LHok_of (l := [(.loop (loopAt 3 (bodyOf Tryz.f60) .skip), ⟨poly_Add_i3, poly_Add_o3, lp poly_Add_s3 K0⟩)]) (by kernel_rfl) ⟨poly_Add_p3 H, trivial⟩) (by decide) (fun _ => rfl) (fun x r h => (poly_Add_eq x.1 x.2.1).trans h)
theorem n61 {T : Told} (H : Hands T) : EnvOk T Tryz.prog (envL e61) := envL_ok (l := e61) ⟨ok27 H, ok99 H, trivial⟩
theorem poly_Scale_p3 {T : Told} (H : Hands T) : PieceOk T Tryz.prog 23 (.loop (loopAt 3 (bodyOf Tryz.f61) .skip)) ⟨poly_Scale_i3, poly_Scale_o3, lp poly_Scale_s3 K0⟩ :=
 loop_piece H.ty (n61 H) hm (LHok_of (l := []) (by kernel_rfl) trivial) poly_Scale_l3 K0
theorem ok61 {T : Told} (H : Hands T) : CtrOk T Tryz.prog 61 c61 :=
 fn_ok H.ty (n61 H) hm (lh := poly_Scale_lh) (ct := c61) (dcd := fun y => (y.2.1)) Tryz.func61 (by kernel_rfl) (by rfl) (LHok_of (l := [(.loop (loopAt 3 (bodyOf Tryz.f61) .skip), ⟨poly_Scale_i3, poly_Scale_o3, lp poly_Scale_s3 K0⟩)]) (by kernel_rfl) ⟨poly_Scale_p3 H, trivial⟩) (by decide) (fun _ => rfl) (fun x r h => (poly_Scale_eq x.1 x.2.1).trans h)
theorem n18 {T : Told} (H : Hands T) : EnvOk T Tryz.prog (envL e18) := envL_ok (l := e18) ⟨ok31 H, trivial⟩
theorem dendronlaw16_few_p3 {T : Told} (H : Hands T) : PieceOk T Tryz.prog 29 (.loop (loopAt 3 (bodyOf Tryz.f18) .skip)) ⟨dendronlaw16_few_i3, dendronlaw16_few_o3, lp dendronlaw16_few_s3 K0⟩ :=
 loop_piece H.ty (n18 H) hm (LHok_of (l := []) (by kernel_rfl) trivial) dendronlaw16_few_l3 K0
theorem ok18 {T : Told} (H : Hands T) : CtrOk T Tryz.prog 18 c18 :=
 fn_ok H.ty (n18 H) hm (lh := dendronlaw16_few_lh) (ct := c18) (dcd := fun y => (y.2.1)) Tryz.func18 (by kernel_rfl) (by rfl) (LHok_of (l := [(.loop (loopAt 3 (bodyOf Tryz.f18) .skip), ⟨dendronlaw16_few_i3, dendronlaw16_few_o3, lp dendronlaw16_few_s3 K0⟩)]) (by kernel_rfl) ⟨dendronlaw16_few_p3 H, trivial⟩) (by decide) (fun _ => rfl) (fun x r h => (dendronlaw16_few_eq x.1).trans h)
theorem n59 {T : Told} (H : Hands T) : EnvOk T Tryz.prog (envL e59) := envL_ok (l := e59) ⟨ok53 H, ok71 H, trivial⟩
theorem poly_Pow_p5 {T : Told} (H : Hands T) : PieceOk T Tryz.prog 23 (.loop (loopAt 5 (bodyOf Tryz.f59) .skip)) ⟨poly_Pow_i5, poly_Pow_o5, lp poly_Pow_s5 K0⟩ :=
 loop_piece H.ty (n59 H) hm (LHok_of (l := []) (by kernel_rfl) trivial) poly_Pow_l5 K0
theorem ok59 {T : Told} (H : Hands T) : CtrOk T Tryz.prog 59 c59 :=
 fn_ok H.ty (n59 H) hm (lh := poly_Pow_lh) (ct := c59) (dcd := fun y => (y.2.1, y.2.2.1)) Tryz.func59 (by kernel_rfl) (by rfl) (LHok_of (l := [(.loop (loopAt 5 (bodyOf Tryz.f59) .skip), ⟨poly_Pow_i5, poly_Pow_o5, lp poly_Pow_s5 K0⟩)]) (by kernel_rfl) ⟨poly_Pow_p5 H, trivial⟩) (by decide) (fun _ => rfl) (fun x r h => (poly_Pow_eq x.1 x.2.1).trans h)
theorem n39 {T : Told} (H : Hands T) : EnvOk T Tryz.prog (envL e39) := envL_ok (l := e39) ⟨ok55 H, ok86 H, ok87 H, trivial⟩
theorem ok39 {T : Told} (H : Hands T) : CtrOk T Tryz.prog 39 c39 :=
 fn_ok H.ty (n39 H) hm (lh := ratio_Frac_lh) (ct := c39) (dcd := fun y => (y.2.1)) Tryz.func39 (by kernel_rfl) (by rfl) (LHok_of (l := []) (by kernel_rfl) trivial) (by decide) (fun _ => rfl) (fun x r h => (ratio_Frac_eq x.1 x.2.1).trans h)
theorem n103 {T : Told} (H : Hands T) : EnvOk T Tryz.prog (envL e103) := envL_ok (l := e103) ⟨ok24 H, ok27 H, ok39 H, ok99 H, trivial⟩
theorem poly_Area_p3 {T : Told} (H : Hands T) : PieceOk T Tryz.prog 26 (.loop (loopAt 3 (bodyOf Tryz.f103) .skip)) ⟨poly_Area_i3, poly_Area_o3, lp poly_Area_s3 K0⟩ :=
 loop_piece H.ty (n103 H) hm (LHok_of (l := []) (by kernel_rfl) trivial) poly_Area_l3 K0
theorem ok103 {T : Told} (H : Hands T) : CtrOk T Tryz.prog 103 c103 :=
 fn_ok H.ty (n103 H) hm (lh := poly_Area_lh) (ct := c103) (dcd := fun y => (y.2.1)) Tryz.func103 (by kernel_rfl) (by rfl) (LHok_of (l := [(.loop (loopAt 3 (bodyOf Tryz.f103) .skip), ⟨poly_Area_i3, poly_Area_o3, lp poly_Area_s3 K0⟩)]) (by kernel_rfl) ⟨poly_Area_p3 H, trivial⟩) (by decide) (fun _ => rfl) (fun x r h => (poly_Area_eq x.1).trans h)
theorem n104 {T : Told} (H : Hands T) : EnvOk T Tryz.prog (envL e104) := envL_ok (l := e104) ⟨ok24 H, ok26 H, ok27 H, trivial⟩
theorem poly_Eval_p3 {T : Told} (H : Hands T) : PieceOk T Tryz.prog 24 (.loop (loopAt 3 (bodyOf Tryz.f104) .skip)) ⟨poly_Eval_i3, poly_Eval_o3, lp poly_Eval_s3 K0⟩ :=
 loop_piece H.ty (n104 H) hm (LHok_of (l := []) (by kernel_rfl) trivial) poly_Eval_l3 K0
theorem ok104 {T : Told} (H : Hands T) : CtrOk T Tryz.prog 104 c104 :=
 fn_ok H.ty (n104 H) hm (lh := poly_Eval_lh) (ct := c104) (dcd := fun y => (y.2.1)) Tryz.func104 (by kernel_rfl) (by rfl) (LHok_of (l := [(.loop (loopAt 3 (bodyOf Tryz.f104) .skip), ⟨poly_Eval_i3, poly_Eval_o3, lp poly_Eval_s3 K0⟩)]) (by kernel_rfl) ⟨poly_Eval_p3 H, trivial⟩) (by decide) (fun _ => rfl) (fun x r h => (poly_Eval_eq x.1 x.2.1).trans h)
theorem n62 {T : Told} (H : Hands T) : EnvOk T Tryz.prog (envL e62) := envL_ok (l := e62) ⟨ok50 H, ok103 H, ok104 H, trivial⟩
theorem ok62 {T : Told} (H : Hands T) : CtrOk T Tryz.prog 62 c62 :=
 fn_ok H.ty (n62 H) hm (lh := poly_Between_lh) (ct := c62) (dcd := fun y => (y.2.1)) Tryz.func62 (by kernel_rfl) (by rfl) (LHok_of (l := []) (by kernel_rfl) trivial) (by decide) (fun _ => rfl) (fun x r h => (poly_Between_eq x.1 x.2.1 x.2.2.1).trans h)
theorem n19 {T : Told} (H : Hands T) : EnvOk T Tryz.prog (envL e19) := envL_ok (l := e19) ⟨ok24 H, ok53 H, ok58 H, ok59 H, ok60 H, ok61 H, ok62 H, trivial⟩
theorem linear_ByArea_p8 {T : Told} (H : Hands T) : PieceOk T Tryz.prog 58 (.loop (loopAt 8 (bodyOf Tryz.f19) .skip)) ⟨linear_ByArea_i8, linear_ByArea_o8, lp linear_ByArea_s8 K0⟩ :=
 loop_piece H.ty (n19 H) hm (LHok_of (l := []) (by kernel_rfl) trivial) linear_ByArea_l8 K0
theorem ok19 {T : Told} (H : Hands T) : CtrOk T Tryz.prog 19 c19 :=
 fn_ok H.ty (n19 H) hm (lh := linear_ByArea_lh) (ct := c19) (dcd := fun y => (y.2.1, y.2.2.1)) Tryz.func19 (by kernel_rfl) (by rfl) (LHok_of (l := [(.loop (loopAt 8 (bodyOf Tryz.f19) .skip), ⟨linear_ByArea_i8, linear_ByArea_o8, lp linear_ByArea_s8 K0⟩)]) (by kernel_rfl) ⟨linear_ByArea_p8 H, trivial⟩) (by decide) (fun _ => rfl) (fun x r h => (linear_ByArea_eq x.1 x.2.1).trans h)
theorem n134 {T : Told} (H : Hands T) : EnvOk T Tryz.prog (envL e134) := envL_ok (l := e134) trivial
theorem dendronref01_Small_p2 {T : Told} (H : Hands T) : PieceOk T Tryz.prog 14 (.loop (loopAt 2 (bodyOf Tryz.f134) .skip)) ⟨dendronref01_Small_i2, dendronref01_Small_o2, lp dendronref01_Small_s2 K0⟩ :=
 loop_piece H.ty (n134 H) hm (LHok_of (l := []) (by kernel_rfl) trivial) dendronref01_Small_l2 K0
theorem ok134 {T : Told} (H : Hands T) : CtrOk T Tryz.prog 134 c134 :=
 fn_ok H.ty (n134 H) hm (lh := dendronref01_Small_lh) (ct := c134) (dcd := fun y => (y.2.1)) Tryz.func134 (by kernel_rfl) (by rfl) (LHok_of (l := [(.loop (loopAt 2 (bodyOf Tryz.f134) .skip), ⟨dendronref01_Small_i2, dendronref01_Small_o2, lp dendronref01_Small_s2 K0⟩)]) (by kernel_rfl) ⟨dendronref01_Small_p2 H, trivial⟩) (by decide) (fun _ => rfl) (fun x r h => (dendronref01_Small_eq x.1).trans h)
theorem n164 {T : Told} (H : Hands T) : EnvOk T Tryz.prog (envL e164) := envL_ok (l := e164) trivial
theorem ok164 {T : Told} (H : Hands T) : CtrOk T Tryz.prog 164 c164 :=
 fn_ok H.ty (n164 H) hm (lh := dendronref01_digit_lh) (ct := c164) (dcd := fun y => (y.2.1)) Tryz.func164 (by kernel_rfl) (by rfl) (LHok_of (l := []) (by kernel_rfl) trivial) (by decide) (fun _ => rfl) (fun x r h => (dendronref01_digit_eq x.1 x.2.1).trans h)
theorem n138 {T : Told} (H : Hands T) : EnvOk T Tryz.prog (envL e138) := envL_ok (l := e138) ⟨ok164 H, trivial⟩
theorem dendronref01_Plus_p4 {T : Told} (H : Hands T) : PieceOk T Tryz.prog 41 (.loop (loopAt 4 (bodyOf Tryz.f138) .skip)) ⟨dendronref01_Plus_i4, dendronref01_Plus_o4, lp dendronref01_Plus_s4 K0⟩ :=
 loop_piece H.ty (n138 H) hm (LHok_of (l := []) (by kernel_rfl) trivial) dendronref01_Plus_l4 K0
theorem ok138 {T : Told} (H : Hands T) : CtrOk T Tryz.prog 138 c138 :=
 fn_ok H.ty (n138 H) hm (lh := dendronref01_Plus_lh) (ct := c138) (dcd := fun y => (y.2.1)) Tryz.func138 (by kernel_rfl) (by rfl) (LHok_of (l := [(.loop (loopAt 4 (bodyOf Tryz.f138) .skip), ⟨dendronref01_Plus_i4, dendronref01_Plus_o4, lp dendronref01_Plus_s4 K0⟩)]) (by kernel_rfl) ⟨dendronref01_Plus_p4 H, trivial⟩) (by decide) (fun _ => rfl) (fun x r h => (dendronref01_Plus_eq x.1 x.2.1).trans h)
theorem n165 {T : Told} (H : Hands T) : EnvOk T Tryz.prog (envL e165) := envL_ok (l := e165) trivial
theorem dendronref01_Trim_p2 {T : Told} (H : Hands T) : PieceOk T Tryz.prog 21 (.loop (loopAt 2 (bodyOf Tryz.f165) .skip)) ⟨dendronref01_Trim_i2, dendronref01_Trim_o2, lp dendronref01_Trim_s2 K0⟩ :=
 loop_piece H.ty (n165 H) hm (LHok_of (l := []) (by kernel_rfl) trivial) dendronref01_Trim_l2 K0
theorem ok165 {T : Told} (H : Hands T) : CtrOk T Tryz.prog 165 c165 :=
 fn_ok H.ty (n165 H) hm (lh := dendronref01_Trim_lh) (ct := c165) (dcd := fun y => (y.2.1)) Tryz.func165 (by kernel_rfl) (by rfl) (LHok_of (l := [(.loop (loopAt 2 (bodyOf Tryz.f165) .skip), ⟨dendronref01_Trim_i2, dendronref01_Trim_o2, lp dendronref01_Trim_s2 K0⟩)]) (by kernel_rfl) ⟨dendronref01_Trim_p2 H, trivial⟩) (by decide) (fun _ => rfl) (fun x r h => (dendronref01_Trim_eq x.1).trans h)
theorem n139 {T : Told} (H : Hands T) : EnvOk T Tryz.prog (envL e139) := envL_ok (l := e139) ⟨ok165 H, trivial⟩
theorem dendronref01_Times_p7 {T : Told} (H : Hands T) : PieceOk T Tryz.prog 63 (.loop (loopAt 7 (bodyOf Tryz.f139) .skip)) ⟨dendronref01_Times_i7, dendronref01_Times_o7, lp dendronref01_Times_s7 K0⟩ :=
 loop_piece H.ty (n139 H) hm (LHok_of (l := []) (by kernel_rfl) trivial) dendronref01_Times_l7 K0
theorem dendronref01_Times_p3 {T : Told} (H : Hands T) : PieceOk T Tryz.prog 63 (.loop (loopAt 3 (bodyOf Tryz.f139) .skip)) ⟨dendronref01_Times_i3, dendronref01_Times_o3, lp dendronref01_Times_s3 K0⟩ :=
 loop_piece H.ty (n139 H) hm (LHok_of (l := [(.loop (loopAt 7 (bodyOf Tryz.f139) .skip), ⟨dendronref01_Times_i7, dendronref01_Times_o7, lp dendronref01_Times_s7 K0⟩)]) (by kernel_rfl) ⟨dendronref01_Times_p7 H, trivial⟩) dendronref01_Times_l3 K0
theorem ok139 {T : Told} (H : Hands T) : CtrOk T Tryz.prog 139 c139 :=
 fn_ok H.ty (n139 H) hm (lh := dendronref01_Times_lh) (ct := c139) (dcd := fun y => (y.2.1)) Tryz.func139 (by kernel_rfl) (by rfl) (LHok_of (l := [(.loop (loopAt 3 (bodyOf Tryz.f139) .skip), ⟨dendronref01_Times_i3, dendronref01_Times_o3, lp dendronref01_Times_s3 K0⟩)]) (by kernel_rfl) ⟨dendronref01_Times_p3 H, trivial⟩) (by decide) (fun _ => rfl) (fun x r h => (dendronref01_Times_eq x.1 x.2.1).trans h)
theorem n107 {T : Told} (H : Hands T) : EnvOk T Tryz.prog (envL e107) := envL_ok (l := e107) ⟨ok134 H, ok138 H, ok139 H, trivial⟩
theorem dendronref01_From_p4 {T : Told} (H : Hands T) : PieceOk T Tryz.prog 26 (.loop (loopAt 4 (bodyOf Tryz.f107) .skip)) ⟨dendronref01_From_i4, dendronref01_From_o4, lp dendronref01_From_s4 K0⟩ :=
 loop_piece H.ty (n107 H) hm (LHok_of (l := []) (by kernel_rfl) trivial) dendronref01_From_l4 K0
theorem ok107 {T : Told} (H : Hands T) : CtrOk T Tryz.prog 107 c107 :=
 fn_ok H.ty (n107 H) hm (lh := dendronref01_From_lh) (ct := c107) (dcd := fun y => (y.2.1)) Tryz.func107 (by kernel_rfl) (by rfl) (LHok_of (l := [(.loop (loopAt 4 (bodyOf Tryz.f107) .skip), ⟨dendronref01_From_i4, dendronref01_From_o4, lp dendronref01_From_s4 K0⟩)]) (by kernel_rfl) ⟨dendronref01_From_p4 H, trivial⟩) (by decide) (fun _ => rfl) (fun x r h => (dendronref01_From_eq x.1).trans h)
theorem n141 {T : Told} (H : Hands T) : EnvOk T Tryz.prog (envL e141) := envL_ok (l := e141) trivial
theorem ok141 {T : Told} (H : Hands T) : CtrOk T Tryz.prog 141 c141 :=
 fn_ok H.ty (n141 H) hm (lh := dendronref02_Make_lh) (ct := c141) (dcd := fun y => (y.2.1)) Tryz.func141 (by kernel_rfl) (by rfl) (LHok_of (l := []) (by kernel_rfl) trivial) (by decide) (fun _ => rfl) (fun x r h => (dendronref02_Make_eq x.1 x.2.1).trans h)
theorem n140 {T : Told} (H : Hands T) : EnvOk T Tryz.prog (envL e140) := envL_ok (l := e140) ⟨ok134 H, ok138 H, ok141 H, trivial⟩
theorem ok140 {T : Told} (H : Hands T) : CtrOk T Tryz.prog 140 c140 :=
 fn_ok H.ty (n140 H) hm (lh := dendronref02_Small_lh) (ct := c140) (dcd := fun y => (y.2.1)) Tryz.func140 (by kernel_rfl) (by rfl) (LHok_of (l := []) (by kernel_rfl) trivial) (by decide) (fun _ => rfl) (fun x r h => (dendronref02_Small_eq x.1).trans h)
theorem n108 {T : Told} (H : Hands T) : EnvOk T Tryz.prog (envL e108) := envL_ok (l := e108) ⟨ok134 H, ok140 H, trivial⟩
theorem ok108 {T : Told} (H : Hands T) : CtrOk T Tryz.prog 108 c108 :=
 fn_ok H.ty (n108 H) hm (lh := dendronref03_Small_lh) (ct := c108) (dcd := fun y => (y.2.1)) Tryz.func108 (by kernel_rfl) (by rfl) (LHok_of (l := []) (by kernel_rfl) trivial) (by decide) (fun _ => rfl) (fun x r h => (dendronref03_Small_eq x.1 x.2.1).trans h)
theorem n109 {T : Told} (H : Hands T) : EnvOk T Tryz.prog (envL e109) := envL_ok (l := e109) ⟨ok107 H, ok141 H, trivial⟩
theorem ok109 {T : Told} (H : Hands T) : CtrOk T Tryz.prog 109 c109 :=
 fn_ok H.ty (n109 H) hm (lh := dendronref02_From_lh) (ct := c109) (dcd := fun y => (y.2.1)) Tryz.func109 (by kernel_rfl) (by rfl) (LHok_of (l := []) (by kernel_rfl) trivial) (by decide) (fun _ => rfl) (fun x r h => (dendronref02_From_eq x.1).trans h)
theorem n66 {T : Told} (H : Hands T) : EnvOk T Tryz.prog (envL e66) := envL_ok (l := e66) ⟨ok107 H, ok108 H, ok109 H, trivial⟩
theorem ok66 {T : Told} (H : Hands T) : CtrOk T Tryz.prog 66 c66 :=
 fn_ok H.ty (n66 H) hm (lh := dendronref03_From_lh) (ct := c66) (dcd := fun y => (y.2.1)) Tryz.func66 (by kernel_rfl) (by rfl) (LHok_of (l := []) (by kernel_rfl) trivial) (by decide) (fun _ => rfl) (fun x r h => (dendronref03_From_eq x.1).trans h)
theorem n131 {T : Told} (H : Hands T) : EnvOk T Tryz.prog (envL e131) := envL_ok (l := e131) trivial
theorem dendronref01_Right_p2 {T : Told} (H : Hands T) : PieceOk T Tryz.prog 27 (.loop (loopAt 2 (bodyOf Tryz.f131) .skip)) ⟨dendronref01_Right_i2, dendronref01_Right_o2, lp dendronref01_Right_s2 K0⟩ :=
 loop_piece H.ty (n131 H) hm (LHok_of (l := []) (by kernel_rfl) trivial) dendronref01_Right_l2 K0
theorem ok131 {T : Told} (H : Hands T) : CtrOk T Tryz.prog 131 c131 :=
 fn_ok H.ty (n131 H) hm (lh := dendronref01_Right_lh) (ct := c131) (dcd := fun y => (y.2.1)) Tryz.func131 (by kernel_rfl) (by rfl) (LHok_of (l := [(.loop (loopAt 2 (bodyOf Tryz.f131) .skip), ⟨dendronref01_Right_i2, dendronref01_Right_o2, lp dendronref01_Right_s2 K0⟩)]) (by kernel_rfl) ⟨dendronref01_Right_p2 H, trivial⟩) (by decide) (fun _ => rfl) (fun x r h => (dendronref01_Right_eq x.1).trans h)
theorem n133 {T : Told} (H : Hands T) : EnvOk T Tryz.prog (envL e133) := envL_ok (l := e133) trivial
theorem dendronref01_Order_p6 {T : Told} (H : Hands T) : PieceOk T Tryz.prog 41 (.loop (loopAt 6 (bodyOf Tryz.f133) .skip)) ⟨dendronref01_Order_i6, dendronref01_Order_o6, lp dendronref01_Order_s6 K0⟩ :=
 loop_piece H.ty (n133 H) hm (LHok_of (l := []) (by kernel_rfl) trivial) dendronref01_Order_l6 K0
theorem ok133 {T : Told} (H : Hands T) : CtrOk T Tryz.prog 133 c133 :=
 fn_ok H.ty (n133 H) hm (lh := dendronref01_Order_lh) (ct := c133) (dcd := fun y => (y.2.1)) Tryz.func133 (by kernel_rfl) (by rfl) (LHok_of (l := [(.loop (loopAt 6 (bodyOf Tryz.f133) .skip), ⟨dendronref01_Order_i6, dendronref01_Order_o6, lp dendronref01_Order_s6 K0⟩)]) (by kernel_rfl) ⟨dendronref01_Order_p6 H, trivial⟩) (by decide) (fun _ => rfl) (fun x r h => (dendronref01_Order_eq x.1 x.2.1).trans h)
theorem n173 {T : Told} (H : Hands T) : EnvOk T Tryz.prog (envL e173) := envL_ok (l := e173) ⟨ok164 H, ok165 H, trivial⟩
theorem dendronref01_Minus_p4 {T : Told} (H : Hands T) : PieceOk T Tryz.prog 35 (.loop (loopAt 4 (bodyOf Tryz.f173) .skip)) ⟨dendronref01_Minus_i4, dendronref01_Minus_o4, lp dendronref01_Minus_s4 K0⟩ :=
 loop_piece H.ty (n173 H) hm (LHok_of (l := []) (by kernel_rfl) trivial) dendronref01_Minus_l4 K0
theorem ok173 {T : Told} (H : Hands T) : CtrOk T Tryz.prog 173 c173 :=
 fn_ok H.ty (n173 H) hm (lh := dendronref01_Minus_lh) (ct := c173) (dcd := fun y => (y.2.1)) Tryz.func173 (by kernel_rfl) (by rfl) (LHok_of (l := [(.loop (loopAt 4 (bodyOf Tryz.f173) .skip), ⟨dendronref01_Minus_i4, dendronref01_Minus_o4, lp dendronref01_Minus_s4 K0⟩)]) (by kernel_rfl) ⟨dendronref01_Minus_p4 H, trivial⟩) (by decide) (fun _ => rfl) (fun x r h => (dendronref01_Minus_eq x.1 x.2.1).trans h)
theorem n163 {T : Told} (H : Hands T) : EnvOk T Tryz.prog (envL e163) := envL_ok (l := e163) ⟨ok133 H, ok134 H, ok139 H, ok165 H, ok173 H, trivial⟩
theorem dendronref01_Over_p12 {T : Told} (H : Hands T) : PieceOk T Tryz.prog 65 (.loop (loopAt 12 (bodyOf Tryz.f163) .skip)) ⟨dendronref01_Over_i12, dendronref01_Over_o12, lp dendronref01_Over_s12 K0⟩ :=
 loop_piece H.ty (n163 H) hm (LHok_of (l := []) (by kernel_rfl) trivial) dendronref01_Over_l12 K0
theorem dendronref01_Over_p4 {T : Told} (H : Hands T) : PieceOk T Tryz.prog 65 (.loop (loopAt 4 (bodyOf Tryz.f163) .skip)) ⟨dendronref01_Over_i4, dendronref01_Over_o4, lp dendronref01_Over_s4 K0⟩ :=
 loop_piece H.ty (n163 H) hm (LHok_of (l := [(.loop (loopAt 12 (bodyOf Tryz.f163) .skip), ⟨dendronref01_Over_i12, dendronref01_Over_o12, lp dendronref01_Over_s12 K0⟩)]) (by kernel_rfl) ⟨dendronref01_Over_p12 H, trivial⟩) dendronref01_Over_l4 K0
theorem ok163 {T : Told} (H : Hands T) : CtrOk T Tryz.prog 163 c163 :=
 fn_ok H.ty (n163 H) hm (lh := dendronref01_Over_lh) (ct := c163) (dcd := fun y => (y.2.1, y.2.2.1)) Tryz.func163 (by kernel_rfl) (by rfl) (LHok_of (l := [(.loop (loopAt 4 (bodyOf Tryz.f163) .skip), ⟨dendronref01_Over_i4, dendronref01_Over_o4, lp dendronref01_Over_s4 K0⟩)]) (by kernel_rfl) ⟨dendronref01_Over_p4 H, trivial⟩) (by decide) (fun _ => rfl) (fun x r h => (dendronref01_Over_eq x.1 x.2.1).trans h)
theorem n132 {T : Told} (H : Hands T) : EnvOk T Tryz.prog (envL e132) := envL_ok (l := e132) ⟨ok163 H, trivial⟩
theorem dendronref01_Gcd_p1 {T : Told} (H : Hands T) : PieceOk T Tryz.prog 19 (.loop (loopAt 1 (bodyOf Tryz.f132) .skip)) ⟨dendronref01_Gcd_i1, dendronref01_Gcd_o1, lp dendronref01_Gcd_s1 K0⟩ :=
 loop_piece H.ty (n132 H) hm (LHok_of (l := []) (by kernel_rfl) trivial) dendronref01_Gcd_l1 K0
theorem ok132 {T : Told} (H : Hands T) : CtrOk T Tryz.prog 132 c132 :=
 fn_ok H.ty (n132 H) hm (lh := dendronref01_Gcd_lh) (ct := c132) (dcd := fun y => (y.2.1)) Tryz.func132 (by kernel_rfl) (by rfl) (LHok_of (l := [(.loop (loopAt 1 (bodyOf Tryz.f132) .skip), ⟨dendronref01_Gcd_i1, dendronref01_Gcd_o1, lp dendronref01_Gcd_s1 K0⟩)]) (by kernel_rfl) ⟨dendronref01_Gcd_p1 H, trivial⟩) (by decide) (fun _ => rfl) (fun x r h => (dendronref01_Gcd_eq x.1 x.2.1).trans h)
theorem n105 {T : Told} (H : Hands T) : EnvOk T Tryz.prog (envL e105) := envL_ok (l := e105) ⟨ok107 H, ok131 H, ok132 H, ok133 H, ok134 H, trivial⟩
theorem ok105 {T : Told} (H : Hands T) : CtrOk T Tryz.prog 105 c105 :=
 fn_ok H.ty (n105 H) hm (lh := dendronref03_Right_lh) (ct := c105) (dcd := fun y => (y.2.1)) Tryz.func105 (by kernel_rfl) (by rfl) (LHok_of (l := []) (by kernel_rfl) trivial) (by decide) (fun _ => rfl) (fun x r h => (dendronref03_Right_eq x.1).trans h)
theorem n135 {T : Told} (H : Hands T) : EnvOk T Tryz.prog (envL e135) := envL_ok (l := e135) ⟨ok133 H, trivial⟩
theorem ok135 {T : Told} (H : Hands T) : CtrOk T Tryz.prog 135 c135 :=
 fn_ok H.ty (n135 H) hm (lh := dendronref02_Order_lh) (ct := c135) (dcd := fun y => (y.2.1)) Tryz.func135 (by kernel_rfl) (by rfl) (LHok_of (l := []) (by kernel_rfl) trivial) (by decide) (fun _ => rfl) (fun x r h => (dendronref02_Order_eq x.1 x.2.1).trans h)
theorem n136 {T : Told} (H : Hands T) : EnvOk T Tryz.prog (envL e136) := envL_ok (l := e136) ⟨ok139 H, ok141 H, trivial⟩
theorem ok136 {T : Told} (H : Hands T) : CtrOk T Tryz.prog 136 c136 :=
 fn_ok H.ty (n136 H) hm (lh := dendronref02_Times_lh) (ct := c136) (dcd := fun y => (y.2.1)) Tryz.func136 (by kernel_rfl) (by rfl) (LHok_of (l := []) (by kernel_rfl) trivial) (by decide) (fun _ => rfl) (fun x r h => (dendronref02_Times_eq x.1 x.2.1).trans h)
theorem n137 {T : Told} (H : Hands T) : EnvOk T Tryz.prog (envL e137) := envL_ok (l := e137) ⟨ok141 H, trivial⟩
theorem ok137 {T : Told} (H : Hands T) : CtrOk T Tryz.prog 137 c137 :=
 fn_ok H.ty (n137 H) hm (lh := dendronref03_den_lh) (ct := c137) (dcd := fun y => (y.2.1)) Tryz.func137 (by kernel_rfl) (by rfl) (LHok_of (l := []) (by kernel_rfl) trivial) (by decide) (fun _ => rfl) (fun x r h => (dendronref03_den_eq x.1).trans h)
theorem n106 {T : Told} (H : Hands T) : EnvOk T Tryz.prog (envL e106) := envL_ok (l := e106) ⟨ok135 H, ok136 H, ok137 H, trivial⟩
theorem ok106 {T : Told} (H : Hands T) : CtrOk T Tryz.prog 106 c106 :=
 fn_ok H.ty (n106 H) hm (lh := dendronref03_Order_lh) (ct := c106) (dcd := fun y => (y.2.1)) Tryz.func106 (by kernel_rfl) (by rfl) (LHok_of (l := []) (by kernel_rfl) trivial) (by decide) (fun _ => rfl) (fun x r h => (dendronref03_Order_eq x.1 x.2.1).trans h)
theorem n65 {T : Told} (H : Hands T) : EnvOk T Tryz.prog (envL e65) := envL_ok (l := e65) ⟨ok66 H, ok105 H, ok106 H, trivial⟩
theorem ok65 {T : Told} (H : Hands T) : CtrOk T Tryz.prog 65 c65 :=
 fn_ok H.ty (n65 H) hm (lh := dendronref03_Is_lh) (ct := c65) (dcd := fun y => (y.2.1)) Tryz.func65 (by kernel_rfl) (by rfl) (LHok_of (l := []) (by kernel_rfl) trivial) (by decide) (fun _ => rfl) (fun x r h => (dendronref03_Is_eq x.1 x.2.1).trans h)
theorem n21 {T : Told} (H : Hands T) : EnvOk T Tryz.prog (envL e21) := envL_ok (l := e21) ⟨ok65 H, ok66 H, trivial⟩
theorem ok21 {T : Told} (H : Hands T) : CtrOk T Tryz.prog 21 c21 :=
 fn_ok H.ty (n21 H) hm (lh := dendronref10_Is_lh) (ct := c21) (dcd := fun y => (y.2.1)) Tryz.func21 (by kernel_rfl) (by rfl) (LHok_of (l := []) (by kernel_rfl) trivial) (by decide) (fun _ => rfl) (fun x r h => (dendronref10_Is_eq x.1 x.2.1).trans h)
theorem n4 {T : Told} (H : Hands T) : EnvOk T Tryz.prog (envL e4) := envL_ok (l := e4) ⟨ok14 H, ok18 H, ok19 H, ok20 H, ok21 H, trivial⟩
theorem ok4 {T : Told} (H : Hands T) : CtrOk T Tryz.prog 4 c4 :=
 fn_ok H.ty (n4 H) hm (lh := dendronlaw16_LinearAreas_lh) (ct := c4) (dcd := fun y => (y.2.1)) Tryz.func4 (by kernel_rfl) (by rfl) (LHok_of (l := []) (by kernel_rfl) trivial) (by decide) (fun _ => rfl) (fun x r h => (dendronlaw16_LinearAreas_eq x.1 x.2.1).trans h)
end Go.Proofs.YtaonkcmflkmncaaGreatDoor.X
