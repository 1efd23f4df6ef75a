/- Own work: part of the proof; the first line of each part says what it tells. -/
import Derived.Test.YtaonkcmflkmncaaGreatDoorLe4
import Derived.Test.YtaonkcmflkmncaaGreatDoorProg


namespace Go.Proofs.YtaonkcmflkmncaaGreatDoor.X
open Go
set_option linter.unusedVariables false
set_option linter.unusedSimpArgs false
set_option maxRecDepth 100000
def tb : Tb := [(2, .sc (.int .i64)), (3, .sc (.int .i64)), (4, .sc .bool), (5, .sc (.int .u8)), (6, .sc (.int .u8)), (7, .stc (.pair (.int .i64) (.pair (.int .i64) (.pair .bool (.int .u8)))) [(0, 2), (1, 3), (2, 4), (3, 6)] false), (21, .sc (.int .i32)), (23, .slc 63 (.int .u64) 8), (25, .stc tWH [(0, 4), (1, 23)] false), (27, .stc tRAT [(0, 25), (2, 23)] false), (28, .slc 38 tPART 72), (30, .stc tLEG [(0, 3), (1, 27), (4, 28)] false), (32, .slc 27 tRAT 56), (33, .sc (.int .i64)), (38, .stc tPART [(0, 3), (1, 27), (4, 4)] false), (48, .slc 122 tNODE 208), (49, .slc 87 tCELL 64), (50, .slc 48 (.sl tNODE) 24), (52, .stc tMODEL [(0, 3), (1, 50)] false), (55, .slc 30 tLEG 88), (63, .sc (.int .u64)), (70, .slc 49 (.sl tCELL) 24), (83, .slc 4 .bool 1), (87, .stc tCELL [(0, 4), (1, 27)] false), (98, .pt 153 (.pair (.pair .unit (.pair (.pair .unit (.int .u32)) (.pair .unit (.pair (.int .i32) (.int .u32))))) (.sl tWH))), (102, .slc 3 (.int .i64) 8), (103, .slc 3 (.int .i64) 8), (105, .stc (.pair .bool (.sl (.int .i64))) [(0, 4), (1, 103)] false), (107, .stc (.pair (.pair .bool (.sl (.int .i64))) (.sl (.int .i64))) [(0, 105), (2, 103)] false), (122, .stc tNODE [(0, 4), (1, 3), (2, 27), (5, 3), (6, 3), (7, 4), (8, 27), (11, 27)] false), (140, .stc .unit [] false), (141, .stc .unit [] false), (142, .sc (.int .u32)), (144, .stc (.pair .unit (.int .u32)) [(0, 141), (0, 142)] false), (146, .stc (.pair (.int .i32) (.int .u32)) [(0, 21), (1, 142)] true), (148, .stc (.pair .unit (.pair (.int .i32) (.int .u32))) [(0, 140), (0, 146)] false), (150, .stc (.pair .unit (.pair (.pair .unit (.int .u32)) (.pair .unit (.pair (.int .i32) (.int .u32))))) [(0, 140), (0, 144), (1, 148)] false), (151, .slc 25 tWH 32), (153, .stc (.pair (.pair .unit (.pair (.pair .unit (.int .u32)) (.pair .unit (.pair (.int .i32) (.int .u32))))) (.sl tWH)) [(0, 150), (3, 151)] false), (161, .sc (.int .u64)), (169, .stc (.pair (.int .i64) (.pair (.int .i64) (.pair (.int .i64) (.int .i64)))) [(0, 33), (1, 3), (2, 3), (3, 3)] true), (174, .pt 176 (.pair (.op (.pair (.pair .unit (.pair (.pair .unit (.int .u32)) (.pair .unit (.pair (.int .i32) (.int .u32))))) (.sl tWH))) (.sl tRAT))), (176, .stc (.pair (.op (.pair (.pair .unit (.pair (.pair .unit (.int .u32)) (.pair .unit (.pair (.int .i32) (.int .u32))))) (.sl tWH))) (.sl tRAT)) [(0, 98), (1, 32)] false)]
def dendronlaw09_number (a_0 : RAT) : Option RAT :=
 bif (decide ((a_0.1.2.length : Int) > 3)) then (bif decide ((3 : Int) ≤ (a_0.1.2.length : Int)) then bif (decide ((a_0.2.length : Int) > 3)) then (bif decide ((3 : Int) ≤ (a_0.2.length : Int)) then some ((a_0.1.1, (a_0.1.2.take 3)), (a_0.2.take 3)) else none) else (some ((a_0.1.1, (a_0.1.2.take 3)), a_0.2)) else none) else (bif (decide ((a_0.2.length : Int) > 3)) then (bif decide ((3 : Int) ≤ (a_0.2.length : Int)) then some (a_0.1, (a_0.2.take 3)) else none) else (some a_0))
def c81 : Ctr := ⟨[(tRAT, .imm)], [(tRAT, false)], RAT, fun x => dendronlaw09_number x.1, fun r => ((), (r, ())), none⟩
abbrev dendronlaw09_Few_i3 : SG := ⟨[(0, .v (.sl tCELL)), (1, .v (.int .i64)), (5, .o tCELL 47), (6, .v (.int .i64))], [], []⟩
abbrev dendronlaw09_Few_o3 : List (Ex × SG) := [(.exit 0, ⟨[(5, .o tCELL 47)], [], []⟩)]
def dendronlaw09_Few_s3 (g : (((List CELL) × Int × (List CELL) × Int × Unit) × Unit) → Option (((List CELL) × Unit) × Unit)) : (((List CELL) × Int × (List CELL) × Int × Unit) × Unit) → Option (((List CELL) × Unit) × Unit)
 | ((l_0, n_1, out_5, i_6, _), _) => bif (decide (i_6 < (l_0.length : Int))) then (bif (decide (i_6 < n_1)) then (bif decide (0 ≤ i_6) then (l_0[i_6.toNat]?).bind fun x1 => (dendronlaw09_number x1.2).bind fun r2 => bif Nat.ble ((out_5.length + 1) * 64) 140737488355328 && !false then g ((l_0, n_1, (out_5 ++ ([(x1.1, r2)] : List CELL)), (iadd .i64 i_6 1), ()), ()) else none else none) else (some ((out_5, ()), ()))) else (some ((out_5, ()), ()))
def dendronlaw09_Few (l_0 : List CELL) (n_1 : Int) : Option (List CELL) :=
 (lp dendronlaw09_Few_s3 K0 ((l_0, n_1, [], 0, ()), ())).bind fun t3 => some t3.1.1
def c31 : Ctr := ⟨[((.sl tCELL), .imm), ((.int .i64), .imm)], [((.sl tCELL), true)], (List CELL), fun x => dendronlaw09_Few x.1 x.2.1, fun r => ((), (r, ())), none⟩
abbrev nat_trim_i2 : SG := ⟨[(0, .o (.int .u64) 7), (3, .v (.int .i64))], [], []⟩
abbrev nat_trim_o2 : List (Ex × SG) := [(.exit 0, ⟨[(0, .o (.int .u64) 7), (3, .v (.int .i64))], [], []⟩)]
def nat_trim_s2 (g : (((List Int) × Int × Unit) × Unit) → Option (((List Int) × Int × Unit) × Unit)) : (((List Int) × Int × Unit) × Unit) → Option (((List Int) × Int × Unit) × Unit)
 | ((a_0, n_3, _), _) => bif (decide (n_3 > 0)) then (bif decide (0 ≤ (isub .i64 n_3 1)) && decide ((isub .i64 n_3 1) < (a_0.length : Int)) then (a_0[(isub .i64 n_3 1).toNat]?).bind fun x1 => bif (decide (x1 = 0)) then (g ((a_0, (isub .i64 n_3 1), ()), ())) else (some ((a_0, n_3, ()), ())) else none) else (some ((a_0, n_3, ()), ()))
def nat_trim (a_0 : List Int) : Option (List Int) :=
 (lp nat_trim_s2 K0 ((a_0, (a_0.length : Int), ()), ())).bind fun t2 => bif (decide (t2.1.2.1 = 0)) then (some ([])) else (bif decide ((0 : Int) ≤ t2.1.2.1) && decide ((t2.1.2.1 : Int) ≤ t2.1.2.1) && decide ((t2.1.2.1 : Int) ≤ (t2.1.1.length : Int)) then some (t2.1.1.take ((t2.1.2.1 - 0).toNat)) else none)
def c114 : Ctr := ⟨[((.sl (.int .u64)), .own)], [((.sl (.int .u64)), true)], (List Int), fun x => nat_trim x.1, fun r => ((), (r, ())), none⟩
def nat_Of (n_0 : Int) : Option (List Int) :=
 (nat_trim ([(iand .u64 n_0 4294967295), (shrV .u64 n_0 32)] : List Int)).bind fun r1 => some r1
def c70 : Ctr := ⟨[((.int .u64), .imm)], [((.sl (.int .u64)), true)], (List Int), fun x => nat_Of x.1, fun r => ((), (r, ())), none⟩
def whole_sign (neg_0 : Bool) (abs_1 : List Int) : Option WH :=
 bif neg_0 then (some ((decide ((abs_1.length : Int) > 0)), abs_1)) else (some (false, abs_1))
def c117 : Ctr := ⟨[(.bool, .imm), ((.sl (.int .u64)), .imm)], [(tWH, false)], WH, fun x => whole_sign x.1 x.2.1, fun r => ((), (r, ())), none⟩
def whole_Of (n_0 : Int) : Option WH :=
 bif (decide (n_0 < 0)) then ((nat_Of (ineg .u64 (IntKind.wrap .u64 n_0))).bind fun r1 => (whole_sign true r1).bind fun r2 => some r2) else ((nat_Of (IntKind.wrap .u64 n_0)).bind fun r3 => (whole_sign false r3).bind fun r4 => some r4)
def c87 : Ctr := ⟨[((.int .i64), .imm)], [(tWH, false)], WH, fun x => whole_Of x.1, fun r => ((), (r, ())), none⟩
def ratio_Of (n_0 : Int) : Option RAT :=
 (whole_Of n_0).bind fun r1 => (nat_Of 1).bind fun r2 => some (r1, r2)
def c58 : Ctr := ⟨[((.int .i64), .imm)], [(tRAT, false)], RAT, fun x => ratio_Of x.1, fun r => ((), (r, ())), none⟩
def ratio_One  : Option RAT :=
 (ratio_Of 1).bind fun r1 => some r1
def c53 : Ctr := ⟨[], [(tRAT, false)], RAT, fun x => ratio_One , fun r => ((), (r, ())), none⟩
def ratio_Zero  : Option RAT :=
 (nat_Of 1).bind fun r1 => some ((false, []), r1)
def c24 : Ctr := ⟨[], [(tRAT, false)], RAT, fun x => ratio_Zero , fun r => ((), (r, ())), none⟩
abbrev nat_Clean_i3 : SG := ⟨[(3, .o (.int .u64) 31), (9, .v (.sl (.int .u64))), (10, .v (.int .i64)), (11, .v (.int .i64))], [], []⟩
abbrev nat_Clean_o3 : List (Ex × SG) := [(.exit 0, ⟨[(3, .o (.int .u64) 31)], [], []⟩)]
def nat_Clean_s3 (g : (((List Int) × (List Int) × Int × Int × Unit) × Unit) → Option (((List Int) × Unit) × Unit)) : (((List Int) × (List Int) × Int × Int × Unit) × Unit) → Option (((List Int) × Unit) × Unit)
 | ((out_3, v_9, v_10, v_11, _), _) => bif (decide (v_11 < v_10)) then (bif decide (0 ≤ v_11) then (v_9[v_11.toNat]?).bind fun x1 => bif decide (0 ≤ v_11) && decide (v_11 < (out_3.length : Int)) then (out_3[v_11.toNat]?).bind fun _ => g (((out_3.set v_11.toNat (iand .u64 x1 4294967295)), v_9, v_10, (iadd .i64 v_11 1), ()), ()) else none else none) else (some ((out_3, ()), ()))
def nat_Clean (a_0 : List Int) : Option (List Int) :=
 bif decide ((a_0.length : Int) = (a_0.length : Int)) && decide (0 ≤ (a_0.length : Int)) && decide (((8 : Nat) : Int) * (a_0.length : Int) ≤ 281474976710656) && decide ((a_0.length : Int) ≤ 9223372036854775807) then (lp nat_Clean_s3 K0 (((List.replicate (a_0.length : Int).toNat (0 : Int)), a_0, (a_0.length : Int), 0, ()), ())).bind fun t3 => (nat_trim t3.1.1).bind fun r4 => some r4 else none
def c101 : Ctr := ⟨[((.sl (.int .u64)), .imm)], [((.sl (.int .u64)), true)], (List Int), fun x => nat_Clean x.1, fun r => ((), (r, ())), none⟩
def nat_To (a_0 : List Int) : Option (Int × Bool) :=
 (nat_Clean a_0).bind fun r1 => bif (decide ((r1.length : Int) = 0)) then (some (0, true)) else (bif (decide ((r1.length : Int) = 1)) then (bif decide ((0 : Int) < (r1.length : Int)) then (r1[0]?).bind fun x2 => some (x2, true) else none) else (bif (decide ((r1.length : Int) = 2)) then (bif decide ((1 : Int) < (r1.length : Int)) then (r1[1]?).bind fun x3 => bif decide ((0 : Int) < (r1.length : Int)) then (r1[0]?).bind fun x4 => some ((ior .u64 (shlV .u64 x3 32) x4), true) else none else none) else (some (0, false))))
def c166 : Ctr := ⟨[((.sl (.int .u64)), .imm)], [((.int .u64), false), (.bool, false)], Int × Bool, fun x => nat_To x.1, fun r => ((), (r.1, r.2, ())), none⟩
abbrev nat_euclid_i3 : SG := ⟨[(5, .v (.int .u64)), (7, .v (.int .u64))], [], []⟩
abbrev nat_euclid_o3 : List (Ex × SG) := [(.exit 0, ⟨[(5, .v (.int .u64))], [], []⟩)]
def nat_euclid_s3 (g : ((Int × Int × Unit) × Unit) → Option ((Int × Unit) × Unit)) : ((Int × Int × Unit) × Unit) → Option ((Int × Unit) × Unit)
 | ((x_5, y_7, _), _) => bif (!decide (y_7 = 0)) then (bif decide (y_7 = 0) then none else (g ((y_7, (irem x_5 y_7), ()), ()))) else (some ((x_5, ()), ()))
def nat_euclid (a_0 : List Int) (b_1 : List Int) : Option (List Int) :=
 (nat_To a_0).bind fun r1 => (nat_To b_1).bind fun r2 => (lp nat_euclid_s3 K0 ((r1.1, r2.1, ()), ())).bind fun t3 => (nat_Of t3.1.1).bind fun r4 => some r4
def c144 : Ctr := ⟨[((.sl (.int .u64)), .imm), ((.sl (.int .u64)), .imm)], [((.sl (.int .u64)), true)], (List Int), fun x => nat_euclid x.1 x.2.1, fun r => ((), (r, ())), none⟩
def tz64 (a0 : Int) : Option Int := bif decide (0 < a0) && decide (a0 < 18446744073709551616) then some ((tzN 64 a0.toNat : Nat) : Int) else none
def c167 : Ctr := ⟨[((.int .u64), .imm)], [((.int .i64), false)], Int, fun x => tz64 x.1, fun r => ((), (r, ())), none⟩
abbrev nat_zeros_i3 : SG := ⟨[(3, .v (.int .i64)), (6, .v (.sl (.int .u64))), (7, .v (.int .i64)), (8, .v (.int .i64))], [], []⟩
abbrev nat_zeros_o3 : List (Ex × SG) := [(.exit 0, ⟨[(3, .v (.int .i64))], [], []⟩), (.ret, ⟨[(2, .v (.int .i64))], [], []⟩)]
def nat_zeros_s3 (g : ((Int × (List Int) × Int × Int × Unit) × Unit) → Option (((Int × Unit) × Unit) ⊕ ((Int × Unit) × Unit))) : ((Int × (List Int) × Int × Int × Unit) × Unit) → Option (((Int × Unit) × Unit) ⊕ ((Int × Unit) × Unit))
 | ((n_3, v_6, v_7, v_8, _), _) => bif (decide (v_8 < v_7)) then (bif decide (0 ≤ v_8) then (v_6[v_8.toNat]?).bind fun x1 => bif (!decide (x1 = 0)) then ((tz64 x1).bind fun r2 => some (.inr (((iadd .i64 (imul .i64 32 v_8) r2), ()), ()))) else (g (((iadd .i64 n_3 32), v_6, v_7, (iadd .i64 v_8 1), ()), ())) else none) else (some (.inl ((n_3, ()), ())))
def nat_zeros (a_0 : List Int) : Option Int :=
 (lp nat_zeros_s3 K0 ((0, a_0, (a_0.length : Int), 0, ()), ())).bind fun t3 => (match t3 with | .inl t4 => some t4.1.1 | .inr t5 => some t5.1.1)
def c145 : Ctr := ⟨[((.sl (.int .u64)), .imm)], [((.int .i64), false)], Int, fun x => nat_zeros x.1, fun r => ((), (r, ())), none⟩
def nat_limb (a_0 : List Int) (i_1 : Int) : Option Int :=
 bif (decide (i_1 < (a_0.length : Int))) then (bif decide (0 ≤ i_1) then (a_0[i_1.toNat]?).bind fun x1 => some x1 else none) else (some 0)
def c153 : Ctr := ⟨[((.sl (.int .u64)), .imm), ((.int .i64), .imm)], [((.int .u64), false)], Int, fun x => nat_limb x.1 x.2.1, fun r => ((), (r, ())), none⟩
abbrev nat_shr_i6 : SG := ⟨[(0, .v (.sl (.int .u64))), (5, .v (.int .i64)), (6, .v (.int .i64)), (7, .o (.int .u64) 63), (23, .v (.int .i64)), (24, .v (.int .i64))], [], []⟩
abbrev nat_shr_o6 : List (Ex × SG) := [(.exit 0, ⟨[(7, .o (.int .u64) 63)], [], []⟩)]
abbrev nat_shr_s6_t := (((List Int) × Int × Int × (List Int) × Int × Int × Unit) × Unit)
abbrev nat_shr_s6_u := (((List Int) × Unit) × Unit)
def nat_shr_s6 (g : nat_shr_s6_t → Option nat_shr_s6_u) : nat_shr_s6_t → Option nat_shr_s6_u
 | ((a_0, words_5, s_6, out_7, v_23, v_24, _), _) => bif (decide (v_24 < v_23)) then ((nat_limb a_0 (iadd .i64 (iadd .i64 v_24 words_5) 1)).bind fun r1 => bif decide (0 ≤ (iadd .i64 v_24 words_5)) then (a_0[(iadd .i64 v_24 words_5).toNat]?).bind fun x2 => bif decide (s_6 < 0) then none else (bif decide (0 ≤ v_24) && decide (v_24 < (out_7.length : Int)) then (out_7[v_24.toNat]?).bind fun _ => g ((a_0, words_5, s_6, (out_7.set v_24.toNat (iand .u64 (shrV .u64 (ior .u64 (shlV .u64 r1 32) x2) s_6) 4294967295)), v_23, (iadd .i64 v_24 1), ()), ()) else none) else none) else (some ((out_7, ()), ()))
def nat_shr (a_0 : List Int) (n_1 : Int) : Option (List Int) :=
 bif (decide ((iquo .i64 n_1 32) ≥ (a_0.length : Int))) then (some ([])) else (bif decide ((isub .i64 (a_0.length : Int) (iquo .i64 n_1 32)) = (isub .i64 (a_0.length : Int) (iquo .i64 n_1 32))) && decide (0 ≤ (isub .i64 (a_0.length : Int) (iquo .i64 n_1 32))) && decide (((8 : Nat) : Int) * (isub .i64 (a_0.length : Int) (iquo .i64 n_1 32)) ≤ 281474976710656) && decide ((isub .i64 (a_0.length : Int) (iquo .i64 n_1 32)) ≤ 9223372036854775807) then (lp nat_shr_s6 K0 ((a_0, (iquo .i64 n_1 32), (irem n_1 32), (List.replicate (isub .i64 (a_0.length : Int) (iquo .i64 n_1 32)).toNat (0 : Int)), ((List.replicate (isub .i64 (a_0.length : Int) (iquo .i64 n_1 32)).toNat (0 : Int)).length : Int), 0, ()), ())).bind fun t4 => (nat_trim t4.1.1).bind fun r5 => some r5 else none)
def c146 : Ctr := ⟨[((.sl (.int .u64)), .imm), ((.int .i64), .imm)], [((.sl (.int .u64)), true)], (List Int), fun x => nat_shr x.1 x.2.1, fun r => ((), (r, ())), none⟩
abbrev nat_order_i6 : SG := ⟨[(0, .v (.sl (.int .u64))), (1, .v (.sl (.int .u64))), (5, .v (.int .i64))], [], []⟩
abbrev nat_order_o6 : List (Ex × SG) := [(.exit 1, ⟨[], [], []⟩), (.ret, ⟨[(4, .v (.int .i64))], [], []⟩)]
def nat_order_s6 (g : (((List Int) × (List Int) × Int × Unit) × Unit) → Option ((Unit × Unit) ⊕ ((Int × Unit) × Unit))) : (((List Int) × (List Int) × Int × Unit) × Unit) → Option ((Unit × Unit) ⊕ ((Int × Unit) × Unit))
 | ((a_0, b_1, i_5, _), _) => bif (decide (i_5 ≥ 0)) then (bif decide (0 ≤ i_5) then (a_0[i_5.toNat]?).bind fun x1 => bif decide (0 ≤ i_5) then (b_1[i_5.toNat]?).bind fun x2 => bif (decide (x1 < x2)) then (some (.inr (((-1), ()), ()))) else (bif decide (0 ≤ i_5) then (a_0[i_5.toNat]?).bind fun x3 => bif decide (0 ≤ i_5) then (b_1[i_5.toNat]?).bind fun x4 => bif (decide (x3 > x4)) then (some (.inr ((1, ()), ()))) else (g ((a_0, b_1, (isub .i64 i_5 1), ()), ())) else none else none) else none else none) else (some (.inl ((()), ())))
def nat_order (a_0 : List Int) (b_1 : List Int) : Option Int :=
 bif (decide ((a_0.length : Int) < (b_1.length : Int))) then (some (-1)) else (bif (decide ((a_0.length : Int) > (b_1.length : Int))) then (some 1) else ((lp nat_order_s6 K0 ((a_0, b_1, (isub .i64 (a_0.length : Int) 1), ()), ())).bind fun t5 => (match t5 with | .inl t6 => some 0 | .inr t7 => some t7.1.1)))
def c147 : Ctr := ⟨[((.sl (.int .u64)), .imm), ((.sl (.int .u64)), .imm)], [((.int .i64), false)], Int, fun x => nat_order x.1 x.2.1, fun r => ((), (r, ())), none⟩
abbrev nat_shl_i4 : SG := ⟨[(5, .v (.int .i64)), (6, .v (.int .i64)), (7, .o (.int .u64) 63), (20, .v (.sl (.int .u64))), (21, .v (.int .i64)), (22, .v (.int .i64))], [], []⟩
abbrev nat_shl_o4 : List (Ex × SG) := [(.exit 0, ⟨[(7, .o (.int .u64) 63)], [], []⟩)]
abbrev nat_shl_s4_t := ((Int × Int × (List Int) × (List Int) × Int × Int × Unit) × Unit)
abbrev nat_shl_s4_u := (((List Int) × Unit) × Unit)
def nat_shl_s4 (g : nat_shl_s4_t → Option nat_shl_s4_u) : nat_shl_s4_t → Option nat_shl_s4_u
 | ((words_5, s_6, out_7, v_20, v_21, v_22, _), _) => bif (decide (v_22 < v_21)) then (bif decide (0 ≤ v_22) then (v_20[v_22.toNat]?).bind fun x1 => bif decide (s_6 < 0) then none else (bif decide (0 ≤ (iadd .i64 v_22 words_5)) && decide ((iadd .i64 v_22 words_5) < (out_7.length : Int)) then (out_7[(iadd .i64 v_22 words_5).toNat]?).bind fun x2 => bif decide (0 ≤ (iadd .i64 v_22 words_5)) && decide ((iadd .i64 v_22 words_5) < (out_7.length : Int)) then (out_7[(iadd .i64 v_22 words_5).toNat]?).bind fun _ => bif decide (0 ≤ (iadd .i64 (iadd .i64 v_22 words_5) 1)) && decide ((iadd .i64 (iadd .i64 v_22 words_5) 1) < ((out_7.set ((iadd .i64 v_22 words_5).toNat) (ior .u64 x2 (iand .u64 (shlV .u64 x1 s_6) 4294967295))).length : Int)) then ((out_7.set ((iadd .i64 v_22 words_5).toNat) (ior .u64 x2 (iand .u64 (shlV .u64 x1 s_6) 4294967295)))[(iadd .i64 (iadd .i64 v_22 words_5) 1).toNat]?).bind fun _ => g ((words_5, s_6, ((out_7.set ((iadd .i64 v_22 words_5).toNat) (ior .u64 x2 (iand .u64 (shlV .u64 x1 s_6) 4294967295))).set ((iadd .i64 (iadd .i64 v_22 words_5) 1).toNat) (shrV .u64 (shlV .u64 x1 s_6) 32)), v_20, v_21, (iadd .i64 v_22 1), ()), ()) else none else none else none) else none) else (some ((out_7, ()), ()))
def nat_shl (a_0 : List Int) (n_1 : Int) : Option (List Int) :=
 bif decide ((iadd .i64 (iadd .i64 (a_0.length : Int) (iquo .i64 n_1 32)) 1) = (iadd .i64 (iadd .i64 (a_0.length : Int) (iquo .i64 n_1 32)) 1)) && decide (0 ≤ (iadd .i64 (iadd .i64 (a_0.length : Int) (iquo .i64 n_1 32)) 1)) && decide (((8 : Nat) : Int) * (iadd .i64 (iadd .i64 (a_0.length : Int) (iquo .i64 n_1 32)) 1) ≤ 281474976710656) && decide ((iadd .i64 (iadd .i64 (a_0.length : Int) (iquo .i64 n_1 32)) 1) ≤ 9223372036854775807) then (lp nat_shl_s4 K0 (((iquo .i64 n_1 32), (irem n_1 32), (List.replicate (iadd .i64 (iadd .i64 (a_0.length : Int) (iquo .i64 n_1 32)) 1).toNat (0 : Int)), a_0, (a_0.length : Int), 0, ()), ())).bind fun t5 => (nat_trim t5.1.1).bind fun r6 => some r6 else none
def c148 : Ctr := ⟨[((.sl (.int .u64)), .imm), ((.int .i64), .imm)], [((.sl (.int .u64)), true)], (List Int), fun x => nat_shl x.1 x.2.1, fun r => ((), (r, ())), none⟩
abbrev nat_small_i4 : SG := ⟨[(0, .v (.sl (.int .u64))), (1, .v (.int .u64)), (6, .o (.int .u64) 55), (7, .v (.int .u64)), (8, .v (.int .i64))], [], []⟩
abbrev nat_small_o4 : List (Ex × SG) := [(.exit 0, ⟨[(6, .o (.int .u64) 55), (7, .v (.int .u64))], [], []⟩)]
def nat_small_s4 (g : (((List Int) × Int × (List Int) × Int × Int × Unit) × Unit) → Option (((List Int) × Int × Unit) × Unit)) : (((List Int) × Int × (List Int) × Int × Int × Unit) × Unit) → Option (((List Int) × Int × Unit) × Unit)
 | ((a_0, d_1, out_6, rest_7, i_8, _), _) => bif (decide (i_8 ≥ 0)) then (bif decide (0 ≤ i_8) then (a_0[i_8.toNat]?).bind fun x1 => bif decide (d_1 = 0) then none else (bif decide (0 ≤ i_8) && decide (i_8 < (out_6.length : Int)) then (out_6[i_8.toNat]?).bind fun _ => bif decide (d_1 = 0) then none else (g ((a_0, d_1, (out_6.set i_8.toNat (iquo .u64 (ior .u64 (shlV .u64 rest_7 32) x1) d_1)), (irem (ior .u64 (shlV .u64 rest_7 32) x1) d_1), (isub .i64 i_8 1), ()), ())) else none) else none) else (some ((out_6, rest_7, ()), ()))
def nat_small (a_0 : List Int) (d_1 : Int) : Option ((List Int) × Int) :=
 bif decide ((a_0.length : Int) = (a_0.length : Int)) && decide (0 ≤ (a_0.length : Int)) && decide (((8 : Nat) : Int) * (a_0.length : Int) ≤ 281474976710656) && decide ((a_0.length : Int) ≤ 9223372036854775807) then (lp nat_small_s4 K0 ((a_0, d_1, (List.replicate (a_0.length : Int).toNat (0 : Int)), 0, (isub .i64 (a_0.length : Int) 1), ()), ())).bind fun t3 => (nat_trim t3.1.1).bind fun r4 => some (r4, t3.1.2.1) else none
def c151 : Ctr := ⟨[((.sl (.int .u64)), .imm), ((.int .u64), .imm)], [((.sl (.int .u64)), true), ((.int .u64), false)], (List Int) × Int, fun x => nat_small x.1 x.2.1, fun r => ((), (r.1, r.2, ())), none⟩
def len32 (a0 : Int) : Option Int := bif decide (0 ≤ a0) && decide (a0 < 4294967296) then some ((lenN a0.toNat : Nat) : Int) else none
def c174 : Ctr := ⟨[((.int .u32), .imm)], [((.int .i64), false)], Int, fun x => len32 x.1, fun r => ((), (r, ())), none⟩
def bits_LeadingZeros32 (x_0 : Int) : Option Int :=
 (len32 x_0).bind fun r1 => some (isub .i64 32 r1)
def c168 : Ctr := ⟨[((.int .u32), .imm)], [((.int .i64), false)], Int, fun x => bits_LeadingZeros32 x.1, fun r => ((), (r, ())), none⟩
abbrev nat_take_i3 : SG := ⟨[(0, .l (.int .u64) 0), (1, .v (.sl (.int .u64))), (2, .v (.int .u64)), (7, .v (.int .u64)), (8, .v (.int .u64)), (12, .v (.int .i64)), (13, .v (.int .i64))], [], []⟩
abbrev nat_take_o3 : List (Ex × SG) := [(.exit 0, ⟨[(0, .l (.int .u64) 0), (8, .v (.int .u64))], [], []⟩)]
abbrev nat_take_s3_t := (((List Int) × (List Int) × Int × Int × Int × Int × Int × Unit) × Unit)
abbrev nat_take_s3_u := (((List Int) × Int × Unit) × Unit)
def nat_take_s3 (g : nat_take_s3_t → Option nat_take_s3_u) : nat_take_s3_t → Option nat_take_s3_u
 | ((u_0, v_1, times_2, carry_7, debt_8, v_12, v_13, _), _) => bif (decide (v_13 < v_12)) then ((nat_limb v_1 v_13).bind fun r1 => bif decide (0 ≤ v_13) && decide (v_13 < (u_0.length : Int)) then (u_0[v_13.toNat]?).bind fun x2 => bif decide (0 ≤ v_13) && decide (v_13 < (u_0.length : Int)) then (u_0[v_13.toNat]?).bind fun _ => g (((u_0.set v_13.toNat (iand .u64 (isub .u64 (isub .u64 (iadd .u64 4294967296 x2) (iand .u64 (iadd .u64 carry_7 (imul .u64 times_2 r1)) 4294967295)) debt_8) 4294967295)), v_1, times_2, (shrV .u64 (iadd .u64 carry_7 (imul .u64 times_2 r1)) 32), (isub .u64 1 (shrV .u64 (isub .u64 (isub .u64 (iadd .u64 4294967296 x2) (iand .u64 (iadd .u64 carry_7 (imul .u64 times_2 r1)) 4294967295)) debt_8) 32)), v_12, (iadd .i64 v_13 1), ()), ()) else none else none) else (some ((u_0, debt_8, ()), ()))
def nat_take (u_0 : List Int) (v_1 : List Int) (times_2 : Int) : Option ((List Int) × Bool) :=
 (lp nat_take_s3 K0 ((u_0, v_1, times_2, 0, 0, (u_0.length : Int), 0, ()), ())).bind fun t4 => (bif Nat.beq t4.1.1.length u_0.length then some (t4.1.1, ()) else none).bind fun l5 => some (l5.1, (decide (t4.1.2.1 = 1)))
def c175 : Ctr := ⟨[((.sl (.int .u64)), .lent), ((.sl (.int .u64)), .imm), ((.int .u64), .imm)], [(.bool, false)], (List Int) × Bool, fun x => nat_take x.1 x.2.1 x.2.2.1, fun r => ((r.1, ()), (r.2, ())), none⟩
abbrev nat_give_i2 : SG := ⟨[(0, .l (.int .u64) 0), (1, .v (.sl (.int .u64))), (4, .v (.int .u64)), (7, .v (.int .i64)), (8, .v (.int .i64))], [], []⟩
abbrev nat_give_o2 : List (Ex × SG) := [(.exit 0, ⟨[(0, .l (.int .u64) 0)], [], []⟩)]
def nat_give_s2 (g : (((List Int) × (List Int) × Int × Int × Int × Unit) × Unit) → Option (((List Int) × Unit) × Unit)) : (((List Int) × (List Int) × Int × Int × Int × Unit) × Unit) → Option (((List Int) × Unit) × Unit)
 | ((u_0, v_1, carry_4, v_7, v_8, _), _) => bif (decide (v_8 < v_7)) then (bif decide (0 ≤ v_8) && decide (v_8 < (u_0.length : Int)) then (u_0[v_8.toNat]?).bind fun x1 => (nat_limb v_1 v_8).bind fun r2 => bif decide (0 ≤ v_8) && decide (v_8 < (u_0.length : Int)) then (u_0[v_8.toNat]?).bind fun _ => g (((u_0.set v_8.toNat (iand .u64 (iadd .u64 carry_4 (iadd .u64 x1 r2)) 4294967295)), v_1, (shrV .u64 (iadd .u64 carry_4 (iadd .u64 x1 r2)) 32), v_7, (iadd .i64 v_8 1), ()), ()) else none else none) else (some ((u_0, ()), ()))
def nat_give (u_0 : List Int) (v_1 : List Int) : Option (List Int) :=
 (lp nat_give_s2 K0 ((u_0, v_1, 0, (u_0.length : Int), 0, ()), ())).bind fun t4 => (bif Nat.beq t4.1.1.length u_0.length then some (t4.1.1, ()) else none).bind fun l5 => some l5.1
def c176 : Ctr := ⟨[((.sl (.int .u64)), .lent), ((.sl (.int .u64)), .imm)], [], (List Int), fun x => nat_give x.1 x.2.1, fun r => ((r, ()), ()), none⟩
abbrev nat_digit_i4 : SG := ⟨[(0, .l (.int .u64) 0), (1, .v (.sl (.int .u64))), (5, .v (.int .i64)), (7, .v (.int .u64)), (8, .v (.int .u64))], [], []⟩
abbrev nat_digit_o4 : List (Ex × SG) := [(.exit 0, ⟨[(0, .l (.int .u64) 0), (1, .v (.sl (.int .u64))), (7, .v (.int .u64))], [], []⟩)]
def nat_digit_s4 (g : (((List Int) × (List Int) × Int × Int × Int × Unit) × Unit) → Option (((List Int) × (List Int) × Int × Unit) × Unit)) : (((List Int) × (List Int) × Int × Int × Int × Unit) × Unit) → Option (((List Int) × (List Int) × Int × Unit) × Unit)
 | ((v_0, v_1, v_5, v_7, v_8, _), _) => bif (decide (v_7 ≥ 4294967296)) then (bif decide (0 ≤ (isub .i64 v_5 1)) then (v_1[(isub .i64 v_5 1).toNat]?).bind fun x5 => bif (decide ((iadd .u64 v_8 x5) ≥ 4294967296)) then (some ((v_0, v_1, (isub .u64 v_7 1), ()), ())) else (g ((v_0, v_1, v_5, (isub .u64 v_7 1), (iadd .u64 v_8 x5), ()), ())) else none) else (bif decide (0 ≤ (isub .i64 v_5 2)) then (v_1[(isub .i64 v_5 2).toNat]?).bind fun x6 => bif decide (0 ≤ (isub .i64 v_5 2)) && decide ((isub .i64 v_5 2) < (v_0.length : Int)) then (v_0[(isub .i64 v_5 2).toNat]?).bind fun x7 => bif (decide ((imul .u64 v_7 x6) > (ior .u64 (shlV .u64 v_8 32) x7))) then (bif decide (0 ≤ (isub .i64 v_5 1)) then (v_1[(isub .i64 v_5 1).toNat]?).bind fun x8 => bif (decide ((iadd .u64 v_8 x8) ≥ 4294967296)) then (some ((v_0, v_1, (isub .u64 v_7 1), ()), ())) else (g ((v_0, v_1, v_5, (isub .u64 v_7 1), (iadd .u64 v_8 x8), ()), ())) else none) else (some ((v_0, v_1, v_7, ()), ())) else none else none)
def nat_digit (a_0 : List Int) (a_1 : List Int) : Option ((List Int) × Int) :=
 bif decide (0 ≤ (a_1.length : Int)) && decide ((a_1.length : Int) < (a_0.length : Int)) then (a_0[(a_1.length : Int).toNat]?).bind fun x1 => bif decide (0 ≤ (isub .i64 (a_1.length : Int) 1)) && decide ((isub .i64 (a_1.length : Int) 1) < (a_0.length : Int)) then (a_0[(isub .i64 (a_1.length : Int) 1).toNat]?).bind fun x2 => bif decide (0 ≤ (isub .i64 (a_1.length : Int) 1)) then (a_1[(isub .i64 (a_1.length : Int) 1).toNat]?).bind fun x3 => bif decide (x3 = 0) then none else (bif decide (0 ≤ (isub .i64 (a_1.length : Int) 1)) then (a_1[(isub .i64 (a_1.length : Int) 1).toNat]?).bind fun x4 => bif decide (x4 = 0) then none else ((lp nat_digit_s4 K0 ((a_0, a_1, (a_1.length : Int), (iquo .u64 (ior .u64 (shlV .u64 x1 32) x2) x3), (irem (ior .u64 (shlV .u64 x1 32) x2) x4), ()), ())).bind fun t9 => (nat_take t9.1.1 t9.1.2.1 t9.1.2.2.1).bind fun r10 => bif r10.2 then ((nat_give (over t9.1.1 0 r10.1) t9.1.2.1).bind fun r11 => (bif Nat.beq (over (over t9.1.1 0 r10.1) 0 r11).length a_0.length then some ((over (over t9.1.1 0 r10.1) 0 r11), ()) else none).bind fun l12 => some (l12.1, (isub .u64 t9.1.2.2.1 1))) else ((bif Nat.beq (over t9.1.1 0 r10.1).length a_0.length then some ((over t9.1.1 0 r10.1), ()) else none).bind fun l13 => some (l13.1, t9.1.2.2.1))) else none) else none else none else none
def c169 : Ctr := ⟨[((.sl (.int .u64)), .lent), ((.sl (.int .u64)), .imm)], [((.int .u64), false)], (List Int) × Int, fun x => nat_digit x.1 x.2.1, fun r => ((r.1, ()), (r.2, ())), none⟩
abbrev nat_long_i7 : SG := ⟨[(6, .v (.int .i64)), (7, .v (.sl (.int .u64))), (8, .o (.int .u64) 71), (9, .v (.int .i64)), (10, .o (.int .u64) 87), (11, .v (.int .i64))], [], []⟩
abbrev nat_long_o7 : List (Ex × SG) := [(.exit 0, ⟨[(6, .v (.int .i64)), (8, .o (.int .u64) 71), (10, .o (.int .u64) 87)], [], []⟩)]
abbrev nat_long_s7_t := ((Int × (List Int) × (List Int) × Int × (List Int) × Int × Unit) × Unit)
abbrev nat_long_s7_u := ((Int × (List Int) × (List Int) × Unit) × Unit)
def nat_long_s7 (g : nat_long_s7_t → Option nat_long_s7_u) : nat_long_s7_t → Option nat_long_s7_u
 | ((s_6, v_7, u_8, n_9, q_10, j_11, _), _) => bif (decide (j_11 ≥ 0)) then (bif decide (0 ≤ j_11) && decide ((j_11 : Int) ≤ (iadd .i64 (iadd .i64 j_11 n_9) 1)) && decide (((iadd .i64 (iadd .i64 j_11 n_9) 1) : Int) ≤ (iadd .i64 (iadd .i64 j_11 n_9) 1)) && decide (((iadd .i64 (iadd .i64 j_11 n_9) 1) : Int) ≤ (u_8.length : Int)) then (nat_digit ((u_8.drop j_11.toNat).take (((iadd .i64 (iadd .i64 j_11 n_9) 1) - j_11).toNat)) v_7).bind fun r5 => bif decide (0 ≤ j_11) && decide (j_11 < (q_10.length : Int)) then (q_10[j_11.toNat]?).bind fun _ => g ((s_6, v_7, (over u_8 j_11.toNat r5.1), n_9, (q_10.set j_11.toNat r5.2), (isub .i64 j_11 1), ()), ()) else none else none) else (some ((s_6, u_8, q_10, ()), ()))
def nat_long (a_0 : List Int) (b_1 : List Int) : Option ((List Int) × (List Int)) :=
 bif decide (0 ≤ (isub .i64 (b_1.length : Int) 1)) then (b_1[(isub .i64 (b_1.length : Int) 1).toNat]?).bind fun x1 => (bits_LeadingZeros32 (IntKind.wrap .u32 x1)).bind fun r2 => (nat_shl b_1 r2).bind fun r3 => (nat_shl a_0 r2).bind fun r4 => bif Nat.ble ((r4.length + 2) * 8) 140737488355328 && !false then bif decide ((0 : Int) ≤ (iadd .i64 (a_0.length : Int) 1)) && decide (((iadd .i64 (a_0.length : Int) 1) : Int) ≤ (iadd .i64 (a_0.length : Int) 1)) && decide (((iadd .i64 (a_0.length : Int) 1) : Int) ≤ ((r4 ++ ([0, 0] : List Int)).length : Int)) then bif decide ((isub .i64 (((iadd .i64 (a_0.length : Int) 1) - 0).toNat : Int) (r3.length : Int)) = (isub .i64 (((iadd .i64 (a_0.length : Int) 1) - 0).toNat : Int) (r3.length : Int))) && decide (0 ≤ (isub .i64 (((iadd .i64 (a_0.length : Int) 1) - 0).toNat : Int) (r3.length : Int))) && decide (((8 : Nat) : Int) * (isub .i64 (((iadd .i64 (a_0.length : Int) 1) - 0).toNat : Int) (r3.length : Int)) ≤ 281474976710656) && decide ((isub .i64 (((iadd .i64 (a_0.length : Int) 1) - 0).toNat : Int) (r3.length : Int)) ≤ 9223372036854775807) then (lp nat_long_s7 K0 ((r2, r3, ((r4 ++ ([0, 0] : List Int)).take (((iadd .i64 (a_0.length : Int) 1) - 0).toNat)), (r3.length : Int), (List.replicate (isub .i64 (((iadd .i64 (a_0.length : Int) 1) - 0).toNat : Int) (r3.length : Int)).toNat (0 : Int)), (isub .i64 ((List.replicate (isub .i64 (((iadd .i64 (a_0.length : Int) 1) - 0).toNat : Int) (r3.length : Int)).toNat (0 : Int)).length : Int) 1), ()), ())).bind fun t7 => (nat_trim t7.1.2.2.1).bind fun r8 => (nat_trim t7.1.2.1).bind fun r9 => (nat_shr r9 t7.1.1).bind fun r10 => some (r8, r10) else none else none else none else none
def c152 : Ctr := ⟨[((.sl (.int .u64)), .imm), ((.sl (.int .u64)), .imm)], [((.sl (.int .u64)), true), ((.sl (.int .u64)), true)], (List Int) × (List Int), fun x => nat_long x.1 x.2.1, fun r => ((), (r.1, r.2, ())), none⟩
def nat_DivMod (a_0 : List Int) (b_1 : List Int) : Option ((List Int) × (List Int) × Int) :=
 (nat_Clean a_0).bind fun r1 => (nat_Clean b_1).bind fun r2 => bif (decide ((r2.length : Int) = 0)) then (some ([], [], 2)) else ((nat_order r1 r2).bind fun r3 => bif (decide (r3 < 0)) then (some ([], r1, 0)) else (bif (decide ((r2.length : Int) = 1)) then (bif decide ((0 : Int) < (r2.length : Int)) then (r2[0]?).bind fun x4 => (nat_small r1 x4).bind fun r5 => (nat_Of r5.2).bind fun r6 => some (r5.1, r6, 0) else none) else ((nat_long r1 r2).bind fun r7 => some (r7.1, r7.2, 0))))
def c116 : Ctr := ⟨[((.sl (.int .u64)), .imm), ((.sl (.int .u64)), .imm)], [((.sl (.int .u64)), true), ((.sl (.int .u64)), false), ((.int .i64), false)], (List Int) × (List Int) × Int, fun x => nat_DivMod x.1 x.2.1, fun r => ((), (r.1, r.2.1, r.2.2, ())), none⟩
def nat_rest (a_0 : List Int) (b_1 : List Int) : Option ((List Int) × (List Int)) :=
 (nat_DivMod a_0 b_1).bind fun r1 => some (r1.1, r1.2.1)
def c149 : Ctr := ⟨[((.sl (.int .u64)), .imm), ((.sl (.int .u64)), .imm)], [((.sl (.int .u64)), true), ((.sl (.int .u64)), false)], (List Int) × (List Int), fun x => nat_rest x.1 x.2.1, fun r => ((), (r.1, r.2, ())), none⟩
abbrev nat_minus_i4 : SG := ⟨[(0, .v (.sl (.int .u64))), (1, .v (.sl (.int .u64))), (5, .o (.int .u64) 47), (6, .v (.int .u64)), (13, .v (.int .i64)), (14, .v (.int .i64))], [], []⟩
abbrev nat_minus_o4 : List (Ex × SG) := [(.exit 0, ⟨[(5, .o (.int .u64) 47)], [], []⟩)]
abbrev nat_minus_s4_t := (((List Int) × (List Int) × (List Int) × Int × Int × Int × Unit) × Unit)
abbrev nat_minus_s4_u := (((List Int) × Unit) × Unit)
def nat_minus_s4 (g : nat_minus_s4_t → Option nat_minus_s4_u) : nat_minus_s4_t → Option nat_minus_s4_u
 | ((a_0, b_1, out_5, debt_6, v_13, v_14, _), _) => bif (decide (v_14 < v_13)) then (bif decide (0 ≤ v_14) then (a_0[v_14.toNat]?).bind fun x1 => (nat_limb b_1 v_14).bind fun r2 => bif decide (0 ≤ v_14) && decide (v_14 < (out_5.length : Int)) then (out_5[v_14.toNat]?).bind fun _ => g ((a_0, b_1, (out_5.set v_14.toNat (iand .u64 (isub .u64 (isub .u64 (iadd .u64 4294967296 x1) r2) debt_6) 4294967295)), (isub .u64 1 (shrV .u64 (isub .u64 (isub .u64 (iadd .u64 4294967296 x1) r2) debt_6) 32)), v_13, (iadd .i64 v_14 1), ()), ()) else none else none) else (some ((out_5, ()), ()))
def nat_minus (a_0 : List Int) (b_1 : List Int) : Option (List Int) :=
 bif decide ((a_0.length : Int) = (a_0.length : Int)) && decide (0 ≤ (a_0.length : Int)) && decide (((8 : Nat) : Int) * (a_0.length : Int) ≤ 281474976710656) && decide ((a_0.length : Int) ≤ 9223372036854775807) then (lp nat_minus_s4 K0 ((a_0, b_1, (List.replicate (a_0.length : Int).toNat (0 : Int)), 0, ((List.replicate (a_0.length : Int).toNat (0 : Int)).length : Int), 0, ()), ())).bind fun t4 => (nat_trim t4.1.1).bind fun r5 => some r5 else none
def c150 : Ctr := ⟨[((.sl (.int .u64)), .imm), ((.sl (.int .u64)), .imm)], [((.sl (.int .u64)), true)], (List Int), fun x => nat_minus x.1 x.2.1, fun r => ((), (r, ())), none⟩
abbrev nat_Gcd_i10 : SG := ⟨[(0, .o (.int .u64) 7), (1, .v (.sl (.int .u64))), (5, .v (.int .i64)), (6, .v (.int .i64))], [], []⟩
abbrev nat_Gcd_o10 : List (Ex × SG) := [(.ret, ⟨[(4, .o (.int .u64) 39)], [], []⟩)]
def nat_Gcd_s10 (g : (((List Int) × (List Int) × Int × Int × Unit) × Unit) → Option (((List Int) × Unit) × Unit)) : (((List Int) × (List Int) × Int × Int × Unit) × Unit) → Option (((List Int) × Unit) × Unit)
 | ((v_0, v_1, v_5, v_6, _), _) => (nat_order v_0 v_1).bind fun r8 => bif (decide (r8 = 0)) then ((nat_shl v_0 (mn v_5 v_6)).bind fun r9 => some ((r9, ()), ())) else (bif (decide (r8 < 0)) then (bif (decide ((v_1.length : Int) > (iadd .i64 (v_0.length : Int) 1))) then ((nat_rest v_1 v_0).bind fun r10 => bif (decide ((r10.2.length : Int) = 0)) then ((nat_shl v_0 (mn v_5 v_6)).bind fun r11 => some ((r11, ()), ())) else ((nat_zeros r10.2).bind fun r12 => (nat_shr r10.2 r12).bind fun r13 => g ((r13, v_0, v_5, v_6, ()), ()))) else ((nat_minus v_1 v_0).bind fun r14 => (nat_zeros r14).bind fun r15 => (nat_shr r14 r15).bind fun r16 => g ((r16, v_0, v_5, v_6, ()), ()))) else (bif (decide ((v_0.length : Int) > (iadd .i64 (v_1.length : Int) 1))) then ((nat_rest v_0 v_1).bind fun r17 => bif (decide ((r17.2.length : Int) = 0)) then ((nat_shl v_1 (mn v_5 v_6)).bind fun r18 => some ((r18, ()), ())) else ((nat_zeros r17.2).bind fun r19 => (nat_shr r17.2 r19).bind fun r20 => g ((r20, v_1, v_5, v_6, ()), ()))) else ((nat_minus v_0 v_1).bind fun r21 => (nat_zeros r21).bind fun r22 => (nat_shr r21 r22).bind fun r23 => g ((r23, v_1, v_5, v_6, ()), ()))))
def nat_Gcd (a_0 : List Int) (a_1 : List Int) : Option (List Int) :=
 (nat_Clean a_0).bind fun r1 => (nat_Clean a_1).bind fun r2 => bif (decide ((r1.length : Int) = 0)) then (some r2) else (bif (decide ((r2.length : Int) = 0)) then (some r1) else (bif (decide ((r1.length : Int) ≤ 2)) then (bif (decide ((r2.length : Int) ≤ 2)) then ((nat_euclid r1 r2).bind fun r3 => some r3) else ((nat_zeros r1).bind fun r4 => (nat_zeros r2).bind fun r5 => (nat_shr r1 r4).bind fun r6 => (nat_shr r2 r5).bind fun r7 => (lp nat_Gcd_s10 K0 ((r6, r7, r4, r5, ()), ())).bind fun t24 => some t24.1.1)) else ((nat_zeros r1).bind fun r25 => (nat_zeros r2).bind fun r26 => (nat_shr r1 r25).bind fun r27 => (nat_shr r2 r26).bind fun r28 => (lp nat_Gcd_s10 K0 ((r27, r28, r25, r26, ()), ())).bind fun t29 => some t29.1.1)))
def c115 : Ctr := ⟨[((.sl (.int .u64)), .imm), ((.sl (.int .u64)), .imm)], [((.sl (.int .u64)), true)], (List Int), fun x => nat_Gcd x.1 x.2.1, fun r => ((), (r, ())), none⟩
def ratio_form (num_0 : WH) (den_1 : List Int) : Option RAT :=
 bif (decide ((num_0.2.length : Int) = 0)) then ((nat_Of 1).bind fun r1 => some ((false, []), r1)) else ((nat_Gcd num_0.2 den_1).bind fun r2 => bif (decide ((r2.length : Int) = 1)) then (bif decide ((0 : Int) < (r2.length : Int)) then (r2[0]?).bind fun x3 => bif (decide (x3 = 1)) then (some (num_0, den_1)) else ((nat_DivMod num_0.2 r2).bind fun r4 => (nat_DivMod den_1 r2).bind fun r5 => some ((num_0.1, r4.1), r5.1)) else none) else ((nat_DivMod num_0.2 r2).bind fun r6 => (nat_DivMod den_1 r2).bind fun r7 => some ((num_0.1, r6.1), r7.1)))
def c72 : Ctr := ⟨[(tWH, .imm), ((.sl (.int .u64)), .imm)], [(tRAT, false)], RAT, fun x => ratio_form x.1 x.2.1, fun r => ((), (r, ())), none⟩
def whole_Clean (a_0 : WH) : Option WH :=
 (nat_Clean a_0.2).bind fun r1 => (whole_sign a_0.1 r1).bind fun r2 => some r2
def c100 : Ctr := ⟨[(tWH, .imm)], [(tWH, false)], WH, fun x => whole_Clean x.1, fun r => ((), (r, ())), none⟩
def ratio_Clean (a_0 : RAT) : Option RAT :=
 (nat_Clean a_0.2).bind fun r1 => bif (decide ((r1.length : Int) = 0)) then ((ratio_Zero ).bind fun r2 => some r2) else ((whole_Clean a_0.1).bind fun r3 => (ratio_form r3 r1).bind fun r4 => some r4)
def c55 : Ctr := ⟨[(tRAT, .imm)], [(tRAT, false)], RAT, fun x => ratio_Clean x.1, fun r => ((), (r, ())), none⟩
abbrev nat_Add_i5 : SG := ⟨[(0, .v (.sl (.int .u64))), (1, .v (.sl (.int .u64))), (5, .o (.int .u64) 47), (6, .v (.int .u64)), (20, .v (.int .i64)), (21, .v (.int .i64))], [], []⟩
abbrev nat_Add_o5 : List (Ex × SG) := [(.exit 0, ⟨[(5, .o (.int .u64) 47)], [], []⟩)]
abbrev nat_Add_s5_t := (((List Int) × (List Int) × (List Int) × Int × Int × Int × Unit) × Unit)
abbrev nat_Add_s5_u := (((List Int) × Unit) × Unit)
def nat_Add_s5 (g : nat_Add_s5_t → Option nat_Add_s5_u) : nat_Add_s5_t → Option nat_Add_s5_u
 | ((a_0, b_1, out_5, carry_6, v_20, v_21, _), _) => bif (decide (v_21 < v_20)) then ((nat_limb a_0 v_21).bind fun r3 => (nat_limb b_1 v_21).bind fun r4 => bif decide (0 ≤ v_21) && decide (v_21 < (out_5.length : Int)) then (out_5[v_21.toNat]?).bind fun _ => g ((a_0, b_1, (out_5.set v_21.toNat (iand .u64 (iadd .u64 carry_6 (iadd .u64 r3 r4)) 4294967295)), (shrV .u64 (iadd .u64 carry_6 (iadd .u64 r3 r4)) 32), v_20, (iadd .i64 v_21 1), ()), ()) else none) else (some ((out_5, ()), ()))
def nat_Add (a_0 : List Int) (b_1 : List Int) : Option (List Int) :=
 (nat_Clean a_0).bind fun r1 => (nat_Clean b_1).bind fun r2 => bif decide ((iadd .i64 (mx (r1.length : Int) (r2.length : Int)) 1) = (iadd .i64 (mx (r1.length : Int) (r2.length : Int)) 1)) && decide (0 ≤ (iadd .i64 (mx (r1.length : Int) (r2.length : Int)) 1)) && decide (((8 : Nat) : Int) * (iadd .i64 (mx (r1.length : Int) (r2.length : Int)) 1) ≤ 281474976710656) && decide ((iadd .i64 (mx (r1.length : Int) (r2.length : Int)) 1) ≤ 9223372036854775807) then (lp nat_Add_s5 K0 ((r1, r2, (List.replicate (iadd .i64 (mx (r1.length : Int) (r2.length : Int)) 1).toNat (0 : Int)), 0, ((List.replicate (iadd .i64 (mx (r1.length : Int) (r2.length : Int)) 1).toNat (0 : Int)).length : Int), 0, ()), ())).bind fun t6 => (nat_trim t6.1.1).bind fun r7 => some r7 else none
def c118 : Ctr := ⟨[((.sl (.int .u64)), .imm), ((.sl (.int .u64)), .imm)], [((.sl (.int .u64)), true)], (List Int), fun x => nat_Add x.1 x.2.1, fun r => ((), (r, ())), none⟩
def nat_Cmp (a_0 : List Int) (b_1 : List Int) : Option Int :=
 (nat_Clean a_0).bind fun r1 => (nat_Clean b_1).bind fun r2 => (nat_order r1 r2).bind fun r3 => some r3
def c119 : Ctr := ⟨[((.sl (.int .u64)), .imm), ((.sl (.int .u64)), .imm)], [((.int .i64), false)], Int, fun x => nat_Cmp x.1 x.2.1, fun r => ((), (r, ())), none⟩
def nat_Sub (a_0 : List Int) (b_1 : List Int) : Option ((List Int) × Int) :=
 (nat_Clean a_0).bind fun r1 => (nat_Clean b_1).bind fun r2 => (nat_order r1 r2).bind fun r3 => bif (decide (r3 < 0)) then (some ([], 3)) else ((nat_minus r1 r2).bind fun r4 => some (r4, 0))
def c120 : Ctr := ⟨[((.sl (.int .u64)), .imm), ((.sl (.int .u64)), .imm)], [((.sl (.int .u64)), true), ((.int .i64), false)], (List Int) × Int, fun x => nat_Sub x.1 x.2.1, fun r => ((), (r.1, r.2, ())), none⟩
def whole_Add (a_0 : WH) (b_1 : WH) : Option WH :=
 (whole_Clean a_0).bind fun r1 => (whole_Clean b_1).bind fun r2 => bif (r1.1 == r2.1) then ((nat_Add r1.2 r2.2).bind fun r3 => (whole_sign r1.1 r3).bind fun r4 => some r4) else ((nat_Cmp r1.2 r2.2).bind fun r5 => bif (decide (r5 < 0)) then ((nat_Sub r2.2 r1.2).bind fun r6 => (whole_sign r2.1 r6.1).bind fun r7 => some r7) else ((nat_Sub r1.2 r2.2).bind fun r8 => (whole_sign r1.1 r8.1).bind fun r9 => some r9))
def c73 : Ctr := ⟨[(tWH, .imm), (tWH, .imm)], [(tWH, false)], WH, fun x => whole_Add x.1 x.2.1, fun r => ((), (r, ())), none⟩
abbrev nat_Mul_i8 : SG := ⟨[(1, .v (.sl (.int .u64))), (5, .o (.int .u64) 47), (6, .v (.int .i64)), (7, .v (.int .u64)), (8, .v (.int .u64)), (21, .o (.int .u64) 175), (22, .v (.int .i64)), (23, .v (.int .i64)), (28, .v (.sl (.int .u64))), (29, .v (.int .i64)), (30, .v (.int .i64))], [], []⟩
abbrev nat_Mul_o8 : List (Ex × SG) := [(.exit 2, ⟨[(1, .v (.sl (.int .u64))), (5, .o (.int .u64) 47), (6, .v (.int .i64)), (8, .v (.int .u64)), (21, .o (.int .u64) 175), (22, .v (.int .i64)), (23, .v (.int .i64))], [], []⟩)]
abbrev nat_Mul_s8_t := (((List Int) × (List Int) × Int × Int × Int × (List Int) × Int × Int × (List Int) × Int × Int × Unit) × Unit)
abbrev nat_Mul_s8_u := (((List Int) × (List Int) × Int × Int × (List Int) × Int × Int × Unit) × Unit)
def nat_Mul_s8 (g : nat_Mul_s8_t → Option nat_Mul_s8_u) : nat_Mul_s8_t → Option nat_Mul_s8_u
 | ((v_1, v_5, v_6, v_7, v_8, v_21, v_22, v_23, v_28, v_29, v_30, _), _) => bif (decide (v_30 < v_29)) then (bif decide (0 ≤ v_30) then (v_28[v_30.toNat]?).bind fun x4 => bif decide (0 ≤ (iadd .i64 v_6 v_30)) && decide ((iadd .i64 v_6 v_30) < (v_5.length : Int)) then (v_5[(iadd .i64 v_6 v_30).toNat]?).bind fun x5 => bif decide (0 ≤ (iadd .i64 v_6 v_30)) && decide ((iadd .i64 v_6 v_30) < (v_5.length : Int)) then (v_5[(iadd .i64 v_6 v_30).toNat]?).bind fun _ => g ((v_1, (v_5.set ((iadd .i64 v_6 v_30).toNat) (iand .u64 (iadd .u64 v_8 (iadd .u64 x5 (imul .u64 v_7 x4))) 4294967295)), v_6, v_7, (shrV .u64 (iadd .u64 v_8 (iadd .u64 x5 (imul .u64 v_7 x4))) 32), v_21, v_22, v_23, v_28, v_29, (iadd .i64 v_30 1), ()), ()) else none else none else none) else (some ((v_1, v_5, v_6, v_8, v_21, v_22, v_23, ()), ()))
abbrev nat_Mul_i4 : SG := ⟨[(1, .v (.sl (.int .u64))), (5, .o (.int .u64) 47), (21, .o (.int .u64) 175), (22, .v (.int .i64)), (23, .v (.int .i64))], [], []⟩
abbrev nat_Mul_o4 : List (Ex × SG) := [(.exit 0, ⟨[(5, .o (.int .u64) 47)], [], []⟩)]
abbrev nat_Mul_s4_t := (((List Int) × (List Int) × (List Int) × Int × Int × Unit) × Unit)
abbrev nat_Mul_s4_u := (((List Int) × Unit) × Unit)
def nat_Mul_s4 (g : nat_Mul_s4_t → Option nat_Mul_s4_u) : nat_Mul_s4_t → Option nat_Mul_s4_u
 | ((v_1, v_5, v_21, v_22, v_23, _), _) => bif (decide (v_23 < v_22)) then (bif decide (0 ≤ v_23) && decide (v_23 < (v_21.length : Int)) then (v_21[v_23.toNat]?).bind fun x3 => (lp nat_Mul_s8 K0 ((v_1, v_5, v_23, x3, 0, v_21, v_22, v_23, v_1, (v_1.length : Int), 0, ()), ())).bind fun t7 => bif decide (0 ≤ (iadd .i64 t7.1.2.2.1 (t7.1.1.length : Int))) && decide ((iadd .i64 t7.1.2.2.1 (t7.1.1.length : Int)) < (t7.1.2.1.length : Int)) then (t7.1.2.1[(iadd .i64 t7.1.2.2.1 (t7.1.1.length : Int)).toNat]?).bind fun _ => g ((t7.1.1, (t7.1.2.1.set ((iadd .i64 t7.1.2.2.1 (t7.1.1.length : Int)).toNat) t7.1.2.2.2.1), t7.1.2.2.2.2.1, t7.1.2.2.2.2.2.1, (iadd .i64 t7.1.2.2.2.2.2.2.1 1), ()), ()) else none else none) else (some ((v_5, ()), ()))
def nat_Mul (a_0 : List Int) (a_1 : List Int) : Option (List Int) :=
 (nat_Clean a_0).bind fun r1 => (nat_Clean a_1).bind fun r2 => bif decide ((iadd .i64 (r1.length : Int) (r2.length : Int)) = (iadd .i64 (r1.length : Int) (r2.length : Int))) && decide (0 ≤ (iadd .i64 (r1.length : Int) (r2.length : Int))) && decide (((8 : Nat) : Int) * (iadd .i64 (r1.length : Int) (r2.length : Int)) ≤ 281474976710656) && decide ((iadd .i64 (r1.length : Int) (r2.length : Int)) ≤ 9223372036854775807) then (lp nat_Mul_s4 K0 ((r2, (List.replicate (iadd .i64 (r1.length : Int) (r2.length : Int)).toNat (0 : Int)), r1, (r1.length : Int), 0, ()), ())).bind fun t9 => (nat_trim t9.1.1).bind fun r10 => some r10 else none
def c76 : Ctr := ⟨[((.sl (.int .u64)), .imm), ((.sl (.int .u64)), .imm)], [((.sl (.int .u64)), true)], (List Int), fun x => nat_Mul x.1 x.2.1, fun r => ((), (r, ())), none⟩
def whole_Mul (a_0 : WH) (b_1 : WH) : Option WH :=
 (whole_Clean a_0).bind fun r1 => (whole_Clean b_1).bind fun r2 => (nat_Mul r1.2 r2.2).bind fun r3 => (whole_sign (!(r1.1 == r2.1)) r3).bind fun r4 => some r4
def c74 : Ctr := ⟨[(tWH, .imm), (tWH, .imm)], [(tWH, false)], WH, fun x => whole_Mul x.1 x.2.1, fun r => ((), (r, ())), none⟩
def ratio_den (a_0 : RAT) : Option WH :=
 some (false, a_0.2)
def c75 : Ctr := ⟨[(tRAT, .imm)], [(tWH, false)], WH, fun x => ratio_den x.1, fun r => ((), (r, ())), none⟩
def ratio_Add (a_0 : RAT) (b_1 : RAT) : Option RAT :=
 (ratio_Clean a_0).bind fun r1 => (ratio_Clean b_1).bind fun r2 => (ratio_den r2).bind fun r3 => (whole_Mul r1.1 r3).bind fun r4 => (ratio_den r1).bind fun r5 => (whole_Mul r2.1 r5).bind fun r6 => (whole_Add r4 r6).bind fun r7 => (nat_Mul r1.2 r2.2).bind fun r8 => (ratio_form r7 r8).bind fun r9 => some r9
def c26 : Ctr := ⟨[(tRAT, .imm), (tRAT, .imm)], [(tRAT, false)], RAT, fun x => ratio_Add x.1 x.2.1, fun r => ((), (r, ())), none⟩
def ratio_Mul (a_0 : RAT) (b_1 : RAT) : Option RAT :=
 (ratio_Clean a_0).bind fun r1 => (ratio_Clean b_1).bind fun r2 => (whole_Mul r1.1 r2.1).bind fun r3 => (nat_Mul r1.2 r2.2).bind fun r4 => (ratio_form r3 r4).bind fun r5 => some r5
def c27 : Ctr := ⟨[(tRAT, .imm), (tRAT, .imm)], [(tRAT, false)], RAT, fun x => ratio_Mul x.1 x.2.1, fun r => ((), (r, ())), none⟩
def whole_Sign (a_0 : WH) : Option Int :=
 (whole_Clean a_0).bind fun r1 => bif r1.1 then (some (-1)) else (bif (decide ((r1.2.length : Int) = 0)) then (some 0) else (some 1))
def c54 : Ctr := ⟨[(tWH, .imm)], [((.int .i64), false)], Int, fun x => whole_Sign x.1, fun r => ((), (r, ())), none⟩
def ratio_Sign (a_0 : RAT) : Option Int :=
 (ratio_Clean a_0).bind fun r1 => (whole_Sign r1.1).bind fun r2 => some r2
def c15 : Ctr := ⟨[(tRAT, .imm)], [((.int .i64), false)], Int, fun x => ratio_Sign x.1, fun r => ((), (r, ())), none⟩
abbrev poly_trim_i2 : SG := ⟨[(0, .o tRAT 7), (3, .v (.int .i64))], [], []⟩
abbrev poly_trim_o2 : List (Ex × SG) := [(.exit 0, ⟨[(0, .o tRAT 7), (3, .v (.int .i64))], [], []⟩)]
def poly_trim_s2 (g : (((List RAT) × Int × Unit) × Unit) → Option (((List RAT) × Int × Unit) × Unit)) : (((List RAT) × Int × Unit) × Unit) → Option (((List RAT) × Int × Unit) × Unit)
 | ((p_0, n_3, _), _) => bif (decide (n_3 > 0)) then (bif decide (0 ≤ (isub .i64 n_3 1)) && decide ((isub .i64 n_3 1) < (p_0.length : Int)) then (p_0[(isub .i64 n_3 1).toNat]?).bind fun x1 => (ratio_Sign x1).bind fun r2 => bif (decide (r2 = 0)) then (g ((p_0, (isub .i64 n_3 1), ()), ())) else (some ((p_0, n_3, ()), ())) else none) else (some ((p_0, n_3, ()), ()))
def poly_trim (p_0 : List RAT) : Option (List RAT) :=
 (lp poly_trim_s2 K0 ((p_0, (p_0.length : Int), ()), ())).bind fun t3 => bif decide ((0 : Int) ≤ t3.1.2.1) && decide ((t3.1.2.1 : Int) ≤ t3.1.2.1) && decide ((t3.1.2.1 : Int) ≤ (t3.1.1.length : Int)) then some (t3.1.1.take ((t3.1.2.1 - 0).toNat)) else none
def c99 : Ctr := ⟨[((.sl tRAT), .own)], [((.sl tRAT), true)], (List RAT), fun x => poly_trim x.1, fun r => ((), (r, ())), none⟩
abbrev poly_Clean_i3 : SG := ⟨[(3, .o tRAT 31), (9, .v (.sl tRAT)), (10, .v (.int .i64)), (11, .v (.int .i64))], [], []⟩
abbrev poly_Clean_o3 : List (Ex × SG) := [(.exit 0, ⟨[(3, .o tRAT 31)], [], []⟩)]
def poly_Clean_s3 (g : (((List RAT) × (List RAT) × Int × Int × Unit) × Unit) → Option (((List RAT) × Unit) × Unit)) : (((List RAT) × (List RAT) × Int × Int × Unit) × Unit) → Option (((List RAT) × Unit) × Unit)
 | ((out_3, v_9, v_10, v_11, _), _) => bif (decide (v_11 < v_10)) then (bif decide (0 ≤ v_11) then (v_9[v_11.toNat]?).bind fun x1 => (ratio_Clean x1).bind fun r2 => bif decide (0 ≤ v_11) && decide (v_11 < (out_3.length : Int)) then (out_3[v_11.toNat]?).bind fun _ => g (((out_3.set v_11.toNat r2), v_9, v_10, (iadd .i64 v_11 1), ()), ()) else none else none) else (some ((out_3, ()), ()))
def poly_Clean (p_0 : List RAT) : Option (List RAT) :=
 bif decide ((p_0.length : Int) = (p_0.length : Int)) && decide (0 ≤ (p_0.length : Int)) && decide (((56 : Nat) : Int) * (p_0.length : Int) ≤ 281474976710656) && decide ((p_0.length : Int) ≤ 9223372036854775807) then (lp poly_Clean_s3 K0 (((List.replicate (p_0.length : Int).toNat (((false, []), []) : RAT)), p_0, (p_0.length : Int), 0, ()), ())).bind fun t4 => (poly_trim t4.1.1).bind fun r5 => some r5 else none
def c97 : Ctr := ⟨[((.sl tRAT), .imm)], [((.sl tRAT), true)], (List RAT), fun x => poly_Clean x.1, fun r => ((), (r, ())), none⟩
abbrev poly_Mul_i14 : SG := ⟨[(1, .v (.sl tRAT)), (5, .o tRAT 47), (7, .v (.int .i64)), (8, .p 64 0 0), (40, .o tRAT 327), (41, .v (.int .i64)), (42, .v (.int .i64)), (47, .v (.sl tRAT)), (48, .v (.int .i64)), (49, .v (.int .i64))], [(64, [.v .bool, .v (.sl (.int .u64)), .v (.sl (.int .u64))])], []⟩
abbrev poly_Mul_o14 : List (Ex × SG) := [(.exit 4, ⟨[(1, .v (.sl tRAT)), (5, .o tRAT 47), (40, .o tRAT 327), (41, .v (.int .i64)), (42, .v (.int .i64))], [], []⟩)]
abbrev poly_Mul_s14_t := (((List RAT) × (List RAT) × Int × (List RAT) × Int × Int × (List RAT) × Int × Int × Unit) × ((Bool × (List Int) × (List Int) × Unit) × Unit))
abbrev poly_Mul_s14_u := (((List RAT) × (List RAT) × (List RAT) × Int × Int × Unit) × Unit)
def poly_Mul_s14 (g : poly_Mul_s14_t → Option poly_Mul_s14_u) : poly_Mul_s14_t → Option poly_Mul_s14_u
 | ((v_1, v_5, v_7, v_40, v_41, v_42, v_47, v_48, v_49, _), ((b64_0, b64_1, b64_2, _), _)) => bif (decide (v_49 < v_48)) then (bif decide (0 ≤ v_49) then (v_47[v_49.toNat]?).bind fun x7 => bif decide (0 ≤ (iadd .i64 v_7 v_49)) && decide ((iadd .i64 v_7 v_49) < (v_5.length : Int)) then (v_5[(iadd .i64 v_7 v_49).toNat]?).bind fun x8 => (ratio_Mul ((b64_0, b64_1), b64_2) x7).bind fun r9 => (ratio_Add x8 r9).bind fun r10 => bif decide (0 ≤ (iadd .i64 v_7 v_49)) && decide ((iadd .i64 v_7 v_49) < (v_5.length : Int)) then (v_5[(iadd .i64 v_7 v_49).toNat]?).bind fun _ => g ((v_1, (v_5.set ((iadd .i64 v_7 v_49).toNat) r10), v_7, v_40, v_41, v_42, v_47, v_48, (iadd .i64 v_49 1), ()), ((b64_0, b64_1, b64_2, ()), ())) else none else none else none) else (some ((v_1, v_5, v_40, v_41, v_42, ()), ()))
abbrev poly_Mul_i6 : SG := ⟨[(0, .o tRAT 7), (1, .o tRAT 15), (5, .o tRAT 47), (31, .v (.int .i64)), (32, .v (.int .i64))], [], []⟩
abbrev poly_Mul_o6 : List (Ex × SG) := [(.exit 0, ⟨[(0, .o tRAT 7), (1, .o tRAT 15), (5, .o tRAT 47)], [], []⟩)]
abbrev poly_Mul_s6_t := (((List RAT) × (List RAT) × (List RAT) × Int × Int × Unit) × Unit)
abbrev poly_Mul_s6_u := (((List RAT) × (List RAT) × (List RAT) × Unit) × Unit)
def poly_Mul_s6 (g : poly_Mul_s6_t → Option poly_Mul_s6_u) : poly_Mul_s6_t → Option poly_Mul_s6_u
 | ((v_0, v_1, v_5, v_31, v_32, _), _) => bif (decide (v_32 < v_31)) then ((ratio_Zero ).bind fun r3 => bif decide (0 ≤ v_32) && decide (v_32 < (v_5.length : Int)) then (v_5[v_32.toNat]?).bind fun _ => g ((v_0, v_1, (v_5.set v_32.toNat r3), v_31, (iadd .i64 v_32 1), ()), ()) else none) else (some ((v_0, v_1, v_5, ()), ()))
abbrev poly_Mul_i11 : SG := ⟨[(1, .v (.sl tRAT)), (5, .o tRAT 47), (40, .o tRAT 327), (41, .v (.int .i64)), (42, .v (.int .i64))], [], []⟩
abbrev poly_Mul_o11 : List (Ex × SG) := [(.exit 2, ⟨[(5, .o tRAT 47)], [], []⟩)]
abbrev poly_Mul_s11_t := (((List RAT) × (List RAT) × (List RAT) × Int × Int × Unit) × Unit)
abbrev poly_Mul_s11_u := (((List RAT) × Unit) × Unit)
def poly_Mul_s11 (g : poly_Mul_s11_t → Option poly_Mul_s11_u) : poly_Mul_s11_t → Option poly_Mul_s11_u
 | ((v_1, v_5, v_40, v_41, v_42, _), _) => bif (decide (v_42 < v_41)) then (bif decide (0 ≤ v_42) && decide (v_42 < (v_40.length : Int)) then (v_40[v_42.toNat]?).bind fun x6 => (lp poly_Mul_s14 K0 ((v_1, v_5, v_42, v_40, v_41, v_42, v_1, (v_1.length : Int), 0, ()), ((x6.1.1, x6.1.2, x6.2, ()), ()))).bind fun t12 => g ((t12.1.1, t12.1.2.1, t12.1.2.2.1, t12.1.2.2.2.1, (iadd .i64 t12.1.2.2.2.2.1 1), ()), ()) else none) else (some ((v_5, ()), ()))
def poly_Mul (a_0 : List RAT) (a_1 : List RAT) : Option (List RAT) :=
 (poly_Clean a_0).bind fun r1 => (poly_Clean a_1).bind fun r2 => bif (decide ((r1.length : Int) = 0)) then (some ([])) else (bif (decide ((r2.length : Int) = 0)) then (some ([])) else (bif decide ((isub .i64 (iadd .i64 (r1.length : Int) (r2.length : Int)) 1) = (isub .i64 (iadd .i64 (r1.length : Int) (r2.length : Int)) 1)) && decide (0 ≤ (isub .i64 (iadd .i64 (r1.length : Int) (r2.length : Int)) 1)) && decide (((56 : Nat) : Int) * (isub .i64 (iadd .i64 (r1.length : Int) (r2.length : Int)) 1) ≤ 281474976710656) && decide ((isub .i64 (iadd .i64 (r1.length : Int) (r2.length : Int)) 1) ≤ 9223372036854775807) then (lp poly_Mul_s6 K0 ((r1, r2, (List.replicate (isub .i64 (iadd .i64 (r1.length : Int) (r2.length : Int)) 1).toNat (((false, []), []) : RAT)), ((List.replicate (isub .i64 (iadd .i64 (r1.length : Int) (r2.length : Int)) 1).toNat (((false, []), []) : RAT)).length : Int), 0, ()), ())).bind fun t5 => (lp poly_Mul_s11 K0 ((t5.1.2.1, t5.1.2.2.1, t5.1.1, (t5.1.1.length : Int), 0, ()), ())).bind fun t13 => (poly_trim t13.1.1).bind fun r14 => some r14 else none))
def c71 : Ctr := ⟨[((.sl tRAT), .imm), ((.sl tRAT), .imm)], [((.sl tRAT), true)], (List RAT), fun x => poly_Mul x.1 x.2.1, fun r => ((), (r, ())), none⟩
def whole_Neg (a_0 : WH) : Option WH :=
 (whole_Clean a_0).bind fun r1 => (whole_sign (!r1.1) r1.2).bind fun r2 => some r2
def c84 : Ctr := ⟨[(tWH, .imm)], [(tWH, false)], WH, fun x => whole_Neg x.1, fun r => ((), (r, ())), none⟩
def ratio_Neg (a_0 : RAT) : Option RAT :=
 (ratio_Clean a_0).bind fun r1 => (whole_Neg r1.1).bind fun r2 => some (r2, r1.2)
def c35 : Ctr := ⟨[(tRAT, .imm)], [(tRAT, false)], RAT, fun x => ratio_Neg x.1, fun r => ((), (r, ())), none⟩
def ratio_Sub (a_0 : RAT) (b_1 : RAT) : Option RAT :=
 (ratio_Neg b_1).bind fun r1 => (ratio_Add a_0 r1).bind fun r2 => some r2
def c50 : Ctr := ⟨[(tRAT, .imm), (tRAT, .imm)], [(tRAT, false)], RAT, fun x => ratio_Sub x.1 x.2.1, fun r => ((), (r, ())), none⟩
def ratio_Make (num_0 : WH) (den_1 : WH) : Option (RAT × Int) :=
 (whole_Clean num_0).bind fun r1 => (whole_Clean den_1).bind fun r2 => (whole_Sign r2).bind fun r3 => bif (decide (r3 = 0)) then (some (((false, []), []), 2)) else (bif r2.1 then ((whole_Neg r1).bind fun r4 => (ratio_form r4 r2.2).bind fun r5 => some (r5, 0)) else ((ratio_form r1 r2.2).bind fun r6 => some (r6, 0)))
def c86 : Ctr := ⟨[(tWH, .imm), (tWH, .imm)], [(tRAT, false), ((.int .i64), false)], RAT × Int, fun x => ratio_Make x.1 x.2.1, fun r => ((), (r.1, r.2, ())), none⟩
def weigh_New  : Option (Int × Int × Int × (List WH)) :=
 some (0, 0, 0, [])
abbrev w63 : Wir := ⟨[], [], 0, some 4, [], [], 0⟩
def c63 : Ctr := ⟨[], [((.int .u32), false), ((.int .i32), false), ((.int .u32), false), ((.sl tWH), false)], Int × Int × Int × (List WH), fun x => weigh_New , fun r => ((), (r.1, r.2.1, r.2.2.1, r.2.2.2, ())), some w63⟩
abbrev weigh_products_i4 : SG := ⟨[(1, .p 8 0 0), (2, .o tWH 23), (7, .v (.int .i64))], [(8, [.v .bool, .v (.sl (.int .u64))])], []⟩
abbrev weigh_products_o4 : List (Ex × SG) := [(.exit 0, ⟨[(2, .o tWH 23)], [], []⟩)]
abbrev weigh_products_s4_t := (((List WH) × Int × Unit) × ((Bool × (List Int) × Unit) × Unit))
abbrev weigh_products_s4_u := (((List WH) × Unit) × Unit)
def weigh_products_s4 (g : weigh_products_s4_t → Option weigh_products_s4_u) : weigh_products_s4_t → Option weigh_products_s4_u
 | ((out_2, v_7, _), ((b8_0, b8_1, _), _)) => bif (decide (v_7 < 64)) then ((whole_Of (iadd .i64 v_7 1)).bind fun r2 => (whole_Mul (b8_0, b8_1) r2).bind fun r3 => bif Nat.ble ((out_2.length + 1) * 32) 140737488355328 && !false then g (((out_2 ++ ([r3] : List WH)), (iadd .i64 v_7 1), ()), ((r3.1, r3.2, ()), ())) else none) else (some ((out_2, ()), ()))
def weigh_products  : Option (List WH) :=
 (whole_Of 1).bind fun r1 => (lp weigh_products_s4 K0 ((([r1] : List WH), 0, ()), ((r1.1, r1.2, ()), ()))).bind fun t4 => some t4.1.1
def c172 : Ctr := ⟨[], [((.sl tWH), true)], (List WH), fun x => weigh_products , fun r => ((), (r, ())), none⟩
def weigh_Table_at_c1 (b_0 : Int) (b_1 : Int) (b_2 : Int) (b_3 : List WH) : Option (Int × Int × Int × (List WH)) :=
 (weigh_products ).bind fun r1 => some (b_0, b_1, b_2, r1)
abbrev w171 : Wir := ⟨[.b], [[.b], [.x, .x, .x, .x]], 0, none, [], [], 0⟩
def c171 : Ctr := ⟨[((.int .u32), .imm), ((.int .i32), .imm), ((.int .u32), .imm), ((.sl tWH), .imm)], [((.int .u32), false), ((.int .i32), false), ((.int .u32), false), ((.sl tWH), false)], Int × Int × Int × (List WH), fun x => weigh_Table_at_c1 x.1 x.2.1 x.2.2.1 x.2.2.2.1, fun r => ((), (r.1, r.2.1, r.2.2.1, r.2.2.2, ())), some w171⟩
def weigh_at (a0 : Int) (a1 : Int) (a2 : Int) (a3 : Int) (a4 : List WH) : Option (WH × Int × Int × Int × (List WH)) := bif decide (0 ≤ a0) then (bif decide (a1 = 0) then (bif decide (a2 = 0) then (weigh_products).bind fun p => (p[a0.toNat]?).bind fun x => some (x, 1, 0, a3, p) else none) else (a4[a0.toNat]?).bind fun x => some (x, a1, a2, a3, a4)) else none
abbrev w161 : Wir := ⟨[.b, .x], [[.x, .x, .x, .x]], 1, none, [], [], 0⟩
def c161 : Ctr := ⟨[((.int .i64), .imm), ((.int .u32), .imm), ((.int .i32), .imm), ((.int .u32), .imm), ((.sl tWH), .imm)], [(tWH, false), ((.int .u32), false), ((.int .i32), false), ((.int .u32), false), ((.sl tWH), false)], WH × Int × Int × Int × (List WH), fun x => weigh_at x.1 x.2.1 x.2.2.1 x.2.2.2.1 x.2.2.2.2.1, fun r => ((), (r.1, r.2.1, r.2.2.1, r.2.2.2.1, r.2.2.2.2, ())), some w161⟩
def weigh_Table_quotient (a_0 : Int) (b_1 : Int) (c_2 : Int) (b_3 : Int) (b_4 : Int) (b_5 : Int) (b_6 : List WH) : Option (RAT × Int × Int × Int × (List WH)) :=
 (weigh_at a_0 b_3 b_4 b_5 b_6).bind fun r1 => (weigh_at b_1 r1.2.1 r1.2.2.1 r1.2.2.2.1 r1.2.2.2.2).bind fun r2 => (whole_Mul r1.1 r2.1).bind fun r3 => (weigh_at c_2 r2.2.1 r2.2.2.1 r2.2.2.2.1 r2.2.2.2.2).bind fun r4 => (ratio_Make r3 r4.1).bind fun r5 => some (r5.1, r4.2.1, r4.2.2.1, r4.2.2.2.1, r4.2.2.2.2)
abbrev w127 : Wir := ⟨[.b, .x, .x, .x], [[.x, .x, .x, .x]], 1, none, [], [], 0⟩
def c127 : Ctr := ⟨[((.int .i64), .imm), ((.int .i64), .imm), ((.int .i64), .imm), ((.int .u32), .imm), ((.int .i32), .imm), ((.int .u32), .imm), ((.sl tWH), .imm)], [(tRAT, false), ((.int .u32), false), ((.int .i32), false), ((.int .u32), false), ((.sl tWH), false)], RAT × Int × Int × Int × (List WH), fun x => weigh_Table_quotient x.1 x.2.1 x.2.2.1 x.2.2.2.1 x.2.2.2.2.1 x.2.2.2.2.2.1 x.2.2.2.2.2.2.1, fun r => ((), (r.1, r.2.1, r.2.2.1, r.2.2.2.1, r.2.2.2.2, ())), some w127⟩
def weigh_Table_Weight (s_0 : Int) (n_1 : Int) (b_2 : Int) (b_3 : Int) (b_4 : Int) (b_5 : List WH) : Option (RAT × Int × Int × Int × Int × (List WH)) :=
 bif (decide (n_1 < 1)) then (some (((false, []), []), 8, b_2, b_3, b_4, b_5)) else (bif (decide (n_1 > 64)) then (some (((false, []), []), 8, b_2, b_3, b_4, b_5)) else (bif (decide (s_0 < 0)) then (some (((false, []), []), 8, b_2, b_3, b_4, b_5)) else (bif (decide (s_0 ≥ n_1)) then (some (((false, []), []), 8, b_2, b_3, b_4, b_5)) else ((weigh_Table_quotient s_0 (isub .i64 (isub .i64 n_1 s_0) 1) n_1 b_2 b_3 b_4 b_5).bind fun r1 => some (r1.1, 0, r1.2.1, r1.2.2.1, r1.2.2.2.1, r1.2.2.2.2)))))
abbrev w91 : Wir := ⟨[.b, .x, .x], [[.x, .x, .x, .x]], 2, none, [], [], 0⟩
def c91 : Ctr := ⟨[((.int .i64), .imm), ((.int .i64), .imm), ((.int .u32), .imm), ((.int .i32), .imm), ((.int .u32), .imm), ((.sl tWH), .imm)], [(tRAT, false), ((.int .i64), false), ((.int .u32), false), ((.int .i32), false), ((.int .u32), false), ((.sl tWH), false)], RAT × Int × Int × Int × Int × (List WH), fun x => weigh_Table_Weight x.1 x.2.1 x.2.2.1 x.2.2.2.1 x.2.2.2.2.1 x.2.2.2.2.2.1, fun r => ((), (r.1, r.2.1, r.2.2.1, r.2.2.2.1, r.2.2.2.2.1, r.2.2.2.2.2, ())), some w91⟩
abbrev weigh_Table_All_i7 : SG := ⟨[(0, .p 280 0 0), (1, .v (.int .i64)), (6, .o tRAT 55), (18, .v (.int .i64)), (19, .v (.int .i64))], [(280, [.v (.int .u32), .v (.int .i32), .v (.int .u32), .v (.sl tWH)])], []⟩
abbrev weigh_Table_All_o7 : List (Ex × SG) := [(.exit 0, ⟨[(0, .p 280 0 0), (6, .o tRAT 55)], [(280, [.v (.int .u32), .v (.int .i32), .v (.int .u32), .v (.sl tWH)])], []⟩)]
abbrev weigh_Table_All_s7_t := ((Int × (List RAT) × Int × Int × Unit) × ((Int × Int × Int × (List WH) × Unit) × Unit))
abbrev weigh_Table_All_s7_u := (((List RAT) × Unit) × ((Int × Int × Int × (List WH) × Unit) × Unit))
def weigh_Table_All_s7 (g : weigh_Table_All_s7_t → Option weigh_Table_All_s7_u) : weigh_Table_All_s7_t → Option weigh_Table_All_s7_u
 | ((n_1, out_6, v_18, v_19, _), ((b280_0, b280_1, b280_2, b280_3, _), _)) => bif (decide (v_19 < v_18)) then ((weigh_Table_Weight v_19 n_1 b280_0 b280_1 b280_2 b280_3).bind fun r1 => bif Nat.ble ((out_6.length + 1) * 56) 140737488355328 && !false then g ((n_1, (out_6 ++ ([r1.1] : List RAT)), v_18, (iadd .i64 v_19 1), ()), ((r1.2.2.1, r1.2.2.2.1, r1.2.2.2.2.1, r1.2.2.2.2.2, ()), ())) else none) else (some ((out_6, ()), ((b280_0, b280_1, b280_2, b280_3, ()), ())))
def weigh_Table_All (n_0 : Int) (b_1 : Int) (b_2 : Int) (b_3 : Int) (b_4 : List WH) : Option ((List RAT) × Int × Int × Int × Int × (List WH)) :=
 bif (decide (n_0 < 1)) then (some ([], 8, b_1, b_2, b_3, b_4)) else (bif (decide (n_0 > 64)) then (some ([], 8, b_1, b_2, b_3, b_4)) else ((lp weigh_Table_All_s7 K0 ((n_0, [], n_0, 0, ()), ((b_1, b_2, b_3, b_4, ()), ()))).bind fun t2 => some (t2.1.1, 0, t2.2.1.1, t2.2.1.2.1, t2.2.1.2.2.1, t2.2.1.2.2.2.1)))
abbrev w64 : Wir := ⟨[.b, .x], [[.x, .x, .x, .x]], 2, none, [], [], 0⟩
def c64 : Ctr := ⟨[((.int .i64), .imm), ((.int .u32), .imm), ((.int .i32), .imm), ((.int .u32), .imm), ((.sl tWH), .imm)], [((.sl tRAT), true), ((.int .i64), false), ((.int .u32), false), ((.int .i32), false), ((.int .u32), false), ((.sl tWH), false)], (List RAT) × Int × Int × Int × Int × (List WH), fun x => weigh_Table_All x.1 x.2.1 x.2.2.1 x.2.2.2.1 x.2.2.2.2.1, fun r => ((), (r.1, r.2.1, r.2.2.1, r.2.2.2.1, r.2.2.2.2.1, r.2.2.2.2.2, ())), some w64⟩
abbrev linear_Weigh_i8 : SG := ⟨[(4, .p 32 0 0), (6, .o tRAT 55), (8, .p 64 0 0), (27, .v (.sl tRAT)), (28, .v (.int .i64)), (29, .v (.int .i64))], [(32, [.v .bool, .o (.int .u64) 34, .o (.int .u64) 35]), (64, [.v .bool, .v (.sl (.int .u64)), .v (.sl (.int .u64))])], []⟩
abbrev linear_Weigh_o8 : List (Ex × SG) := [(.exit 0, ⟨[(4, .p 32 0 0), (8, .p 64 0 0)], [(32, [.v .bool, .o (.int .u64) 34, .o (.int .u64) 35]), (64, [.v .bool, .v (.sl (.int .u64)), .v (.sl (.int .u64))])], []⟩)]
abbrev linear_Weigh_s8_t := (((List RAT) × (List RAT) × Int × Int × Unit) × ((Bool × (List Int) × (List Int) × Unit) × (Bool × (List Int) × (List Int) × Unit) × Unit))
abbrev linear_Weigh_s8_u := (Unit × ((Bool × (List Int) × (List Int) × Unit) × (Bool × (List Int) × (List Int) × Unit) × Unit))
def linear_Weigh_s8 (g : linear_Weigh_s8_t → Option linear_Weigh_s8_u) : linear_Weigh_s8_t → Option linear_Weigh_s8_u
 | ((w_6, v_27, v_28, v_29, _), ((b32_0, b32_1, b32_2, _), (b64_0, b64_1, b64_2, _), _)) => bif (decide (v_29 < v_28)) then (bif decide (0 ≤ v_29) then (v_27[v_29.toNat]?).bind fun x4 => bif decide (0 ≤ v_29) && decide (v_29 < (w_6.length : Int)) then (w_6[v_29.toNat]?).bind fun x5 => (ratio_Mul x5 x4).bind fun r6 => (ratio_Add ((b64_0, b64_1), b64_2) r6).bind fun r7 => g ((w_6, v_27, v_28, (iadd .i64 v_29 1), ()), ((b32_0, b32_1, b32_2, ()), (r7.1.1, r7.1.2, r7.2, ()), ())) else none else none) else (some ((()), ((b32_0, b32_1, b32_2, ()), (b64_0, b64_1, b64_2, ()), ())))
def linear_Weigh (p_0 : List RAT) (n_1 : Int) : Option (RAT × Int) :=
 (weigh_New ).bind fun r1 => (weigh_Table_All n_1 r1.1 r1.2.1 r1.2.2.1 r1.2.2.2).bind fun r2 => bif (!decide (r2.2.1 = 0)) then (some (((false, []), []), r2.2.1)) else (bif (decide ((p_0.length : Int) > n_1)) then (some (((false, []), []), 6)) else ((ratio_Zero ).bind fun r3 => (lp linear_Weigh_s8 K0 ((r2.1, p_0, (p_0.length : Int), 0, ()), ((false, [], [], ()), (r3.1.1, r3.1.2, r3.2, ()), ()))).bind fun t8 => some (((t8.2.2.1.1, t8.2.2.1.2.1), t8.2.2.1.2.2.1), 0)))
def c20 : Ctr := ⟨[((.sl tRAT), .imm), ((.int .i64), .imm)], [(tRAT, false), ((.int .i64), false)], RAT × Int, fun x => linear_Weigh x.1 x.2.1, fun r => ((), (r.1, r.2, ())), none⟩
def whole_Cmp (a_0 : WH) (b_1 : WH) : Option Int :=
 (whole_Clean a_0).bind fun r1 => (whole_Clean b_1).bind fun r2 => bif (!(r1.1 == r2.1)) then (bif r1.1 then (some (-1)) else (bif (!(r1.1 == r2.1)) then (some 1) else (bif r1.1 then ((nat_Cmp r2.2 r1.2).bind fun r3 => some r3) else ((nat_Cmp r1.2 r2.2).bind fun r4 => some r4)))) else (bif (!(r1.1 == r2.1)) then (some 1) else (bif r1.1 then ((nat_Cmp r2.2 r1.2).bind fun r5 => some r5) else ((nat_Cmp r1.2 r2.2).bind fun r6 => some r6)))
def c124 : Ctr := ⟨[(tWH, .imm), (tWH, .imm)], [((.int .i64), false)], Int, fun x => whole_Cmp x.1 x.2.1, fun r => ((), (r, ())), none⟩
def ratio_Cmp (a_0 : RAT) (b_1 : RAT) : Option Int :=
 (ratio_Clean a_0).bind fun r1 => (ratio_Clean b_1).bind fun r2 => (ratio_den r2).bind fun r3 => (whole_Mul r1.1 r3).bind fun r4 => (ratio_den r1).bind fun r5 => (whole_Mul r2.1 r5).bind fun r6 => (whole_Cmp r4 r6).bind fun r7 => some r7
def c80 : Ctr := ⟨[(tRAT, .imm), (tRAT, .imm)], [((.int .i64), false)], Int, fun x => ratio_Cmp x.1 x.2.1, fun r => ((), (r, ())), none⟩
def ratio_Same (a_0 : RAT) (b_1 : RAT) : Option Bool :=
 (ratio_Cmp a_0 b_1).bind fun r1 => some (decide (r1 = 0))
def c30 : Ctr := ⟨[(tRAT, .imm), (tRAT, .imm)], [(.bool, false)], Bool, fun x => ratio_Same x.1 x.2.1, fun r => ((), (r, ())), none⟩
def dendronlaw16_awake  : Option Bool :=
 (ratio_One ).bind fun r1 => (ratio_One ).bind fun r2 => (linear_Weigh ([r1, r2] : List RAT) 2).bind fun r3 => bif (decide (r3.2 = 0)) then ((ratio_One ).bind fun r4 => (ratio_Same r3.1 r4).bind fun r5 => some r5) else (some false)
def c14 : Ctr := ⟨[], [(.bool, false)], Bool, fun x => dendronlaw16_awake , fun r => ((), (r, ())), none⟩
def poly_at (p_0 : List RAT) (i_1 : Int) : Option RAT :=
 bif (decide (i_1 < (p_0.length : Int))) then (bif decide (0 ≤ i_1) then (p_0[i_1.toNat]?).bind fun x1 => some x1 else none) else ((ratio_Zero ).bind fun r2 => some r2)
def c102 : Ctr := ⟨[((.sl tRAT), .imm), ((.int .i64), .imm)], [(tRAT, false)], RAT, fun x => poly_at x.1 x.2.1, fun r => ((), (r, ())), none⟩
abbrev poly_Add_i3 : SG := ⟨[(0, .v (.sl tRAT)), (1, .v (.sl tRAT)), (5, .o tRAT 47), (11, .v (.int .i64)), (12, .v (.int .i64))], [], []⟩
abbrev poly_Add_o3 : List (Ex × SG) := [(.exit 0, ⟨[(5, .o tRAT 47)], [], []⟩)]
abbrev poly_Add_s3_t := (((List RAT) × (List RAT) × (List RAT) × Int × Int × Unit) × Unit)
abbrev poly_Add_s3_u := (((List RAT) × Unit) × Unit)
def poly_Add_s3 (g : poly_Add_s3_t → Option poly_Add_s3_u) : poly_Add_s3_t → Option poly_Add_s3_u
 | ((a_0, b_1, out_5, v_11, v_12, _), _) => bif (decide (v_12 < v_11)) then ((poly_at a_0 v_12).bind fun r1 => (poly_at b_1 v_12).bind fun r2 => (ratio_Add r1 r2).bind fun r3 => bif Nat.ble ((out_5.length + 1) * 56) 140737488355328 && !false then g ((a_0, b_1, (out_5 ++ ([r3] : List RAT)), v_11, (iadd .i64 v_12 1), ()), ()) else none) else (some ((out_5, ()), ()))
def poly_Add (a_0 : List RAT) (b_1 : List RAT) : Option (List RAT) :=
 (lp poly_Add_s3 K0 ((a_0, b_1, [], (mx (a_0.length : Int) (b_1.length : Int)), 0, ()), ())).bind fun t4 => (poly_trim t4.1.1).bind fun r5 => some r5
def c60 : Ctr := ⟨[((.sl tRAT), .imm), ((.sl tRAT), .imm)], [((.sl tRAT), true)], (List RAT), fun x => poly_Add x.1 x.2.1, fun r => ((), (r, ())), none⟩
abbrev poly_Scale_i3 : SG := ⟨[(3, .p 24 0 0), (5, .o tRAT 47), (8, .v (.sl tRAT)), (9, .v (.int .i64)), (10, .v (.int .i64))], [(24, [.v .bool, .v (.sl (.int .u64)), .v (.sl (.int .u64))])], []⟩
abbrev poly_Scale_o3 : List (Ex × SG) := [(.exit 0, ⟨[(5, .o tRAT 47)], [], []⟩)]
abbrev poly_Scale_s3_t := (((List RAT) × (List RAT) × Int × Int × Unit) × ((Bool × (List Int) × (List Int) × Unit) × Unit))
abbrev poly_Scale_s3_u := (((List RAT) × Unit) × Unit)
def poly_Scale_s3 (g : poly_Scale_s3_t → Option poly_Scale_s3_u) : poly_Scale_s3_t → Option poly_Scale_s3_u
 | ((out_5, v_8, v_9, v_10, _), ((b24_0, b24_1, b24_2, _), _)) => bif (decide (v_10 < v_9)) then (bif decide (0 ≤ v_10) then (v_8[v_10.toNat]?).bind fun x1 => (ratio_Mul x1 ((b24_0, b24_1), b24_2)).bind fun r2 => bif Nat.ble ((out_5.length + 1) * 56) 140737488355328 && !false then g (((out_5 ++ ([r2] : List RAT)), v_8, v_9, (iadd .i64 v_10 1), ()), ((b24_0, b24_1, b24_2, ()), ())) else none else none) else (some ((out_5, ()), ()))
def poly_Scale (p_0 : List RAT) (by_1 : RAT) : Option (List RAT) :=
 (lp poly_Scale_s3 K0 (([], p_0, (p_0.length : Int), 0, ()), ((by_1.1.1, by_1.1.2, by_1.2, ()), ()))).bind fun t3 => (poly_trim t3.1.1).bind fun r4 => some r4
def c61 : Ctr := ⟨[((.sl tRAT), .imm), (tRAT, .imm)], [((.sl tRAT), true)], (List RAT), fun x => poly_Scale x.1 x.2.1, fun r => ((), (r, ())), none⟩
abbrev dendronlaw16_few_i3 : SG := ⟨[(0, .v (.sl tRAT)), (3, .o tRAT 31), (4, .v (.int .i64))], [], []⟩
abbrev dendronlaw16_few_o3 : List (Ex × SG) := [(.exit 0, ⟨[(3, .o tRAT 31)], [], []⟩)]
def dendronlaw16_few_s3 (g : (((List RAT) × (List RAT) × Int × Unit) × Unit) → Option (((List RAT) × Unit) × Unit)) : (((List RAT) × (List RAT) × Int × Unit) × Unit) → Option (((List RAT) × Unit) × Unit)
 | ((p_0, out_3, i_4, _), _) => bif (decide (i_4 < (p_0.length : Int))) then (bif (decide (i_4 < 8)) then (bif decide (0 ≤ i_4) then (p_0[i_4.toNat]?).bind fun x1 => (dendronlaw09_Few ([(false, x1)] : List CELL) 1).bind fun r2 => bif decide ((0 : Int) < (r2.length : Int)) then (r2[0]?).bind fun x3 => bif Nat.ble ((out_3.length + 1) * 56) 140737488355328 && !false then g ((p_0, (out_3 ++ ([x3.2] : List RAT)), (iadd .i64 i_4 1), ()), ()) else none else none else none) else (some ((out_3, ()), ()))) else (some ((out_3, ()), ()))
def dendronlaw16_few (p_0 : List RAT) : Option (List RAT) :=
 (lp dendronlaw16_few_s3 K0 ((p_0, [], 0, ()), ())).bind fun t4 => some t4.1.1
def c18 : Ctr := ⟨[((.sl tRAT), .imm)], [((.sl tRAT), true)], (List RAT), fun x => dendronlaw16_few x.1, fun r => ((), (r, ())), none⟩
abbrev poly_Pow_i5 : SG := ⟨[(0, .v (.sl tRAT)), (6, .o tRAT 55), (15, .v (.int .i64)), (16, .v (.int .i64))], [], []⟩
abbrev poly_Pow_o5 : List (Ex × SG) := [(.exit 0, ⟨[(6, .o tRAT 55)], [], []⟩)]
def poly_Pow_s5 (g : (((List RAT) × (List RAT) × Int × Int × Unit) × Unit) → Option (((List RAT) × Unit) × Unit)) : (((List RAT) × (List RAT) × Int × Int × Unit) × Unit) → Option (((List RAT) × Unit) × Unit)
 | ((p_0, out_6, v_15, v_16, _), _) => bif (decide (v_16 < v_15)) then ((poly_Mul out_6 p_0).bind fun r2 => g ((p_0, r2, v_15, (iadd .i64 v_16 1), ()), ())) else (some ((out_6, ()), ()))
def poly_Pow (p_0 : List RAT) (n_1 : Int) : Option ((List RAT) × Int) :=
 bif (decide (n_1 < 0)) then (some ([], 8)) else (bif (decide (n_1 > 64)) then (some ([], 8)) else ((ratio_One ).bind fun r1 => (lp poly_Pow_s5 K0 ((p_0, ([r1] : List RAT), n_1, 0, ()), ())).bind fun t3 => some (t3.1.1, 0)))
def c59 : Ctr := ⟨[((.sl tRAT), .imm), ((.int .i64), .imm)], [((.sl tRAT), true), ((.int .i64), false)], (List RAT) × Int, fun x => poly_Pow x.1 x.2.1, fun r => ((), (r.1, r.2, ())), none⟩
def ratio_Frac (n_0 : Int) (d_1 : Int) : Option RAT :=
 (whole_Of n_0).bind fun r1 => (whole_Of d_1).bind fun r2 => (ratio_Make r1 r2).bind fun r3 => (ratio_Clean r3.1).bind fun r4 => some r4
def c39 : Ctr := ⟨[((.int .i64), .imm), ((.int .i64), .imm)], [(tRAT, false)], RAT, fun x => ratio_Frac x.1 x.2.1, fun r => ((), (r, ())), none⟩
abbrev poly_Area_i3 : SG := ⟨[(3, .o tRAT 31), (8, .v (.sl tRAT)), (9, .v (.int .i64)), (10, .v (.int .i64))], [], []⟩
abbrev poly_Area_o3 : List (Ex × SG) := [(.exit 0, ⟨[(3, .o tRAT 31)], [], []⟩)]
def poly_Area_s3 (g : (((List RAT) × (List RAT) × Int × Int × Unit) × Unit) → Option (((List RAT) × Unit) × Unit)) : (((List RAT) × (List RAT) × Int × Int × Unit) × Unit) → Option (((List RAT) × Unit) × Unit)
 | ((out_3, v_8, v_9, v_10, _), _) => bif (decide (v_10 < v_9)) then (bif decide (0 ≤ v_10) then (v_8[v_10.toNat]?).bind fun x2 => (ratio_Frac 1 (iadd .i64 v_10 1)).bind fun r3 => (ratio_Mul x2 r3).bind fun r4 => bif Nat.ble ((out_3.length + 1) * 56) 140737488355328 && !false then g (((out_3 ++ ([r4] : List RAT)), v_8, v_9, (iadd .i64 v_10 1), ()), ()) else none else none) else (some ((out_3, ()), ()))
def poly_Area (p_0 : List RAT) : Option (List RAT) :=
 (ratio_Zero ).bind fun r1 => (lp poly_Area_s3 K0 ((([r1] : List RAT), p_0, (p_0.length : Int), 0, ()), ())).bind fun t5 => (poly_trim t5.1.1).bind fun r6 => some r6
def c103 : Ctr := ⟨[((.sl tRAT), .imm)], [((.sl tRAT), true)], (List RAT), fun x => poly_Area x.1, fun r => ((), (r, ())), none⟩
abbrev poly_Eval_i3 : SG := ⟨[(0, .v (.sl tRAT)), (3, .p 24 0 0), (4, .p 32 0 0), (5, .p 40 0 0), (6, .v (.int .i64))], [(24, [.v .bool, .v (.sl (.int .u64)), .v (.sl (.int .u64))]), (32, [.v .bool, .o (.int .u64) 34, .o (.int .u64) 35]), (40, [.v .bool, .v (.sl (.int .u64)), .v (.sl (.int .u64))])], []⟩
abbrev poly_Eval_o3 : List (Ex × SG) := [(.exit 0, ⟨[(4, .p 32 0 0), (5, .p 40 0 0)], [(32, [.v .bool, .o (.int .u64) 34, .o (.int .u64) 35]), (40, [.v .bool, .v (.sl (.int .u64)), .v (.sl (.int .u64))])], []⟩)]
abbrev poly_Eval_s3_t := (((List RAT) × Int × Unit) × ((Bool × (List Int) × (List Int) × Unit) × (Bool × (List Int) × (List Int) × Unit) × (Bool × (List Int) × (List Int) × Unit) × Unit))
abbrev poly_Eval_s3_u := (Unit × ((Bool × (List Int) × (List Int) × Unit) × (Bool × (List Int) × (List Int) × Unit) × Unit))
def poly_Eval_s3 (g : poly_Eval_s3_t → Option poly_Eval_s3_u) : poly_Eval_s3_t → Option poly_Eval_s3_u
 | ((p_0, i_6, _), ((b24_0, b24_1, b24_2, _), (b32_0, b32_1, b32_2, _), (b40_0, b40_1, b40_2, _), _)) => bif (decide (i_6 ≥ 0)) then ((ratio_Mul ((b40_0, b40_1), b40_2) ((b24_0, b24_1), b24_2)).bind fun r2 => bif decide (0 ≤ i_6) then (p_0[i_6.toNat]?).bind fun x3 => (ratio_Add r2 x3).bind fun r4 => g ((p_0, (isub .i64 i_6 1), ()), ((b24_0, b24_1, b24_2, ()), (b32_0, b32_1, b32_2, ()), (r4.1.1, r4.1.2, r4.2, ()), ())) else none) else (some ((()), ((b32_0, b32_1, b32_2, ()), (b40_0, b40_1, b40_2, ()), ())))
def poly_Eval (p_0 : List RAT) (x_1 : RAT) : Option RAT :=
 (ratio_Zero ).bind fun r1 => (lp poly_Eval_s3 K0 ((p_0, (isub .i64 (p_0.length : Int) 1), ()), ((x_1.1.1, x_1.1.2, x_1.2, ()), (false, [], [], ()), (r1.1.1, r1.1.2, r1.2, ()), ()))).bind fun t5 => some ((t5.2.2.1.1, t5.2.2.1.2.1), t5.2.2.1.2.2.1)
def c104 : Ctr := ⟨[((.sl tRAT), .imm), (tRAT, .imm)], [(tRAT, false)], RAT, fun x => poly_Eval x.1 x.2.1, fun r => ((), (r, ())), none⟩
def poly_Between (p_0 : List RAT) (from_1 : RAT) (to_2 : RAT) : Option RAT :=
 (poly_Area p_0).bind fun r1 => (poly_Eval r1 to_2).bind fun r2 => (poly_Eval r1 from_1).bind fun r3 => (ratio_Sub r2 r3).bind fun r4 => some r4
def c62 : Ctr := ⟨[((.sl tRAT), .imm), (tRAT, .imm), (tRAT, .imm)], [(tRAT, false)], RAT, fun x => poly_Between x.1 x.2.1 x.2.2.1, fun r => ((), (r, ())), none⟩
abbrev linear_ByArea_i8 : SG := ⟨[(1, .v (.int .i64)), (4, .p 32 0 0), (6, .o tRAT 55), (7, .v (.sl tRAT)), (28, .v (.sl tRAT)), (29, .v (.int .i64)), (30, .v (.int .i64))], [(32, [.v .bool, .o (.int .u64) 34, .o (.int .u64) 35])], []⟩
abbrev linear_ByArea_o8 : List (Ex × SG) := [(.exit 0, ⟨[(4, .p 32 0 0), (6, .o tRAT 55)], [(32, [.v .bool, .o (.int .u64) 34, .o (.int .u64) 35])], []⟩)]
abbrev linear_ByArea_s8_t := ((Int × (List RAT) × (List RAT) × (List RAT) × Int × Int × Unit) × ((Bool × (List Int) × (List Int) × Unit) × Unit))
abbrev linear_ByArea_s8_u := (((List RAT) × Unit) × ((Bool × (List Int) × (List Int) × Unit) × Unit))
def linear_ByArea_s8 (g : linear_ByArea_s8_t → Option linear_ByArea_s8_u) : linear_ByArea_s8_t → Option linear_ByArea_s8_u
 | ((n_1, all_6, rest_7, v_28, v_29, v_30, _), ((b32_0, b32_1, b32_2, _), _)) => bif (decide (v_30 < v_29)) then (bif decide (0 ≤ v_30) then (v_28[v_30.toNat]?).bind fun x3 => (poly_Pow rest_7 (isub .i64 (isub .i64 n_1 1) v_30)).bind fun r4 => bif decide (v_30 = v_30) && decide (0 ≤ v_30) && decide (((56 : Nat) : Int) * v_30 ≤ 281474976710656) && decide (v_30 ≤ 9223372036854775807) then bif Nat.ble (((List.replicate v_30.toNat (((false, []), []) : RAT)).length + r4.1.length) * 56) 140737488355328 && !false then (poly_Scale ((List.replicate v_30.toNat (((false, []), []) : RAT)) ++ r4.1) x3).bind fun r5 => (poly_Add all_6 r5).bind fun r6 => g ((n_1, r6, rest_7, v_28, v_29, (iadd .i64 v_30 1), ()), ((b32_0, b32_1, b32_2, ()), ())) else none else none else none) else (some ((all_6, ()), ((b32_0, b32_1, b32_2, ()), ())))
def linear_ByArea (p_0 : List RAT) (n_1 : Int) : Option (RAT × Int) :=
 bif (decide (n_1 < 1)) then (some (((false, []), []), 8)) else (bif (decide (n_1 > 64)) then (some (((false, []), []), 8)) else (bif (decide ((p_0.length : Int) > n_1)) then (some (((false, []), []), 6)) else ((ratio_One ).bind fun r1 => (ratio_Of (-1)).bind fun r2 => (lp linear_ByArea_s8 K0 ((n_1, [], ([r1, r2] : List RAT), p_0, (p_0.length : Int), 0, ()), ((false, [], [], ()), ()))).bind fun t7 => (ratio_Zero ).bind fun r8 => (ratio_One ).bind fun r9 => (poly_Between t7.1.1 r8 r9).bind fun r10 => some (r10, 0))))
def c19 : Ctr := ⟨[((.sl tRAT), .imm), ((.int .i64), .imm)], [(tRAT, false), ((.int .i64), false)], RAT × Int, fun x => linear_ByArea x.1 x.2.1, fun r => ((), (r.1, r.2, ())), none⟩
abbrev dendronref01_Small_i2 : SG := ⟨[(0, .v (.int .i64)), (3, .o (.int .i64) 31)], [], []⟩
abbrev dendronref01_Small_o2 : List (Ex × SG) := [(.exit 0, ⟨[(3, .o (.int .i64) 31)], [], []⟩)]
def dendronref01_Small_s2 (g : ((Int × (List Int) × Unit) × Unit) → Option (((List Int) × Unit) × Unit)) : ((Int × (List Int) × Unit) × Unit) → Option (((List Int) × Unit) × Unit)
 | ((n_0, out_3, _), _) => bif (decide (n_0 > 0)) then (bif Nat.ble ((out_3.length + 1) * 8) 140737488355328 && !false then g (((iquo .i64 n_0 10000), (out_3 ++ ([(irem n_0 10000)] : List Int)), ()), ()) else none) else (some ((out_3, ()), ()))
def dendronref01_Small (n_0 : Int) : Option (List Int) :=
 (lp dendronref01_Small_s2 K0 ((n_0, [], ()), ())).bind fun t1 => some t1.1.1
def c134 : Ctr := ⟨[((.int .i64), .imm)], [((.sl (.int .i64)), true)], (List Int), fun x => dendronref01_Small x.1, fun r => ((), (r, ())), none⟩
def dendronref01_digit (a_0 : List Int) (i_1 : Int) : Option Int :=
 bif (decide (i_1 < (a_0.length : Int))) then (bif decide (0 ≤ i_1) then (a_0[i_1.toNat]?).bind fun x1 => some x1 else none) else (some 0)
def c164 : Ctr := ⟨[((.sl (.int .i64)), .imm), ((.int .i64), .imm)], [((.int .i64), false)], Int, fun x => dendronref01_digit x.1 x.2.1, fun r => ((), (r, ())), none⟩
abbrev dendronref01_Plus_i4 : SG := ⟨[(0, .v (.sl (.int .i64))), (1, .v (.sl (.int .i64))), (5, .o (.int .i64) 47), (6, .v (.int .i64)), (7, .v (.int .i64))], [], []⟩
abbrev dendronref01_Plus_o4 : List (Ex × SG) := [(.exit 0, ⟨[(5, .o (.int .i64) 47)], [], []⟩)]
abbrev dendronref01_Plus_s4_t := (((List Int) × (List Int) × (List Int) × Int × Int × Unit) × Unit)
abbrev dendronref01_Plus_s4_u := (((List Int) × Unit) × Unit)
def dendronref01_Plus_s4 (g : dendronref01_Plus_s4_t → Option dendronref01_Plus_s4_u) : dendronref01_Plus_s4_t → Option dendronref01_Plus_s4_u
 | ((a_0, b_1, out_5, c_6, i_7, _), _) => bif (decide (i_7 < (a_0.length : Int))) then ((dendronref01_digit a_0 i_7).bind fun r1 => (dendronref01_digit b_1 i_7).bind fun r2 => bif Nat.ble ((out_5.length + 1) * 8) 140737488355328 && !false then g ((a_0, b_1, (out_5 ++ ([(irem (iadd .i64 (iadd .i64 c_6 r1) r2) 10000)] : List Int)), (iquo .i64 (iadd .i64 (iadd .i64 c_6 r1) r2) 10000), (iadd .i64 i_7 1), ()), ()) else none) else (bif (decide (i_7 < (b_1.length : Int))) then ((dendronref01_digit a_0 i_7).bind fun r3 => (dendronref01_digit b_1 i_7).bind fun r4 => bif Nat.ble ((out_5.length + 1) * 8) 140737488355328 && !false then g ((a_0, b_1, (out_5 ++ ([(irem (iadd .i64 (iadd .i64 c_6 r3) r4) 10000)] : List Int)), (iquo .i64 (iadd .i64 (iadd .i64 c_6 r3) r4) 10000), (iadd .i64 i_7 1), ()), ()) else none) else (bif (decide (c_6 > 0)) then ((dendronref01_digit a_0 i_7).bind fun r5 => (dendronref01_digit b_1 i_7).bind fun r6 => bif Nat.ble ((out_5.length + 1) * 8) 140737488355328 && !false then g ((a_0, b_1, (out_5 ++ ([(irem (iadd .i64 (iadd .i64 c_6 r5) r6) 10000)] : List Int)), (iquo .i64 (iadd .i64 (iadd .i64 c_6 r5) r6) 10000), (iadd .i64 i_7 1), ()), ()) else none) else (some ((out_5, ()), ()))))
def dendronref01_Plus (a_0 : List Int) (b_1 : List Int) : Option (List Int) :=
 (lp dendronref01_Plus_s4 K0 ((a_0, b_1, [], 0, 0, ()), ())).bind fun t7 => some t7.1.1
def c138 : Ctr := ⟨[((.sl (.int .i64)), .imm), ((.sl (.int .i64)), .imm)], [((.sl (.int .i64)), true)], (List Int), fun x => dendronref01_Plus x.1 x.2.1, fun r => ((), (r, ())), none⟩
abbrev dendronref01_Trim_i2 : SG := ⟨[(0, .v (.sl (.int .i64))), (3, .v (.int .i64))], [], []⟩
abbrev dendronref01_Trim_o2 : List (Ex × SG) := [(.exit 0, ⟨[(0, .v (.sl (.int .i64))), (3, .v (.int .i64))], [], []⟩)]
def dendronref01_Trim_s2 (g : (((List Int) × Int × Unit) × Unit) → Option (((List Int) × Int × Unit) × Unit)) : (((List Int) × Int × Unit) × Unit) → Option (((List Int) × Int × Unit) × Unit)
 | ((a_0, n_3, _), _) => bif (decide (n_3 > 0)) then (bif decide (0 ≤ (isub .i64 n_3 1)) then (a_0[(isub .i64 n_3 1).toNat]?).bind fun x1 => bif (decide (x1 = 0)) then (g ((a_0, (isub .i64 n_3 1), ()), ())) else (some ((a_0, n_3, ()), ())) else none) else (some ((a_0, n_3, ()), ()))
def dendronref01_Trim (a_0 : List Int) : Option (List Int) :=
 (lp dendronref01_Trim_s2 K0 ((a_0, (a_0.length : Int), ()), ())).bind fun t2 => bif decide (0 ≤ t2.1.2.1) && decide ((t2.1.2.1 : Int) ≤ (t2.1.1.length : Int)) then some (t2.1.1.take t2.1.2.1.toNat) else none
def c165 : Ctr := ⟨[((.sl (.int .i64)), .imm)], [((.sl (.int .i64)), false)], (List Int), fun x => dendronref01_Trim x.1, fun r => ((), (r, ())), none⟩
abbrev dendronref01_Times_i7 : SG := ⟨[(0, .v (.sl (.int .i64))), (1, .v (.sl (.int .i64))), (5, .o (.int .i64) 47), (6, .v (.int .i64)), (7, .v (.int .i64)), (8, .v (.int .i64))], [], []⟩
abbrev dendronref01_Times_o7 : List (Ex × SG) := [(.exit 2, ⟨[(0, .v (.sl (.int .i64))), (1, .v (.sl (.int .i64))), (5, .o (.int .i64) 47), (6, .v (.int .i64)), (7, .v (.int .i64))], [], []⟩)]
abbrev dendronref01_Times_s7_t := (((List Int) × (List Int) × (List Int) × Int × Int × Int × Unit) × Unit)
abbrev dendronref01_Times_s7_u := (((List Int) × (List Int) × (List Int) × Int × Int × Unit) × Unit)
def dendronref01_Times_s7 (g : dendronref01_Times_s7_t → Option dendronref01_Times_s7_u) : dendronref01_Times_s7_t → Option dendronref01_Times_s7_u
 | ((a_0, b_1, out_5, i_6, c_7, k_8, _), _) => bif (decide (k_8 < (b_1.length : Int))) then (bif decide (0 ≤ (iadd .i64 i_6 k_8)) && decide ((iadd .i64 i_6 k_8) < (out_5.length : Int)) then (out_5[(iadd .i64 i_6 k_8).toNat]?).bind fun x1 => bif decide (0 ≤ i_6) then (a_0[i_6.toNat]?).bind fun x2 => bif decide (0 ≤ k_8) then (b_1[k_8.toNat]?).bind fun x3 => bif decide (0 ≤ (iadd .i64 i_6 k_8)) && decide ((iadd .i64 i_6 k_8) < (out_5.length : Int)) then (out_5[(iadd .i64 i_6 k_8).toNat]?).bind fun _ => g ((a_0, b_1, (out_5.set ((iadd .i64 i_6 k_8).toNat) (irem (iadd .i64 (iadd .i64 c_7 x1) (imul .i64 x2 x3)) 10000)), i_6, (iquo .i64 (iadd .i64 (iadd .i64 c_7 x1) (imul .i64 x2 x3)) 10000), (iadd .i64 k_8 1), ()), ()) else none else none else none else none) else (some ((a_0, b_1, out_5, i_6, c_7, ()), ()))
abbrev dendronref01_Times_i3 : SG := ⟨[(0, .v (.sl (.int .i64))), (1, .v (.sl (.int .i64))), (5, .o (.int .i64) 47), (6, .v (.int .i64))], [], []⟩
abbrev dendronref01_Times_o3 : List (Ex × SG) := [(.exit 0, ⟨[(5, .o (.int .i64) 47)], [], []⟩)]
abbrev dendronref01_Times_s3_t := (((List Int) × (List Int) × (List Int) × Int × Unit) × Unit)
abbrev dendronref01_Times_s3_u := (((List Int) × Unit) × Unit)
def dendronref01_Times_s3 (g : dendronref01_Times_s3_t → Option dendronref01_Times_s3_u) : dendronref01_Times_s3_t → Option dendronref01_Times_s3_u
 | ((a_0, b_1, out_5, i_6, _), _) => bif (decide (i_6 < (a_0.length : Int))) then ((lp dendronref01_Times_s7 K0 ((a_0, b_1, out_5, i_6, 0, 0, ()), ())).bind fun t5 => bif decide (0 ≤ (iadd .i64 t5.1.2.2.2.1 (t5.1.2.1.length : Int))) && decide ((iadd .i64 t5.1.2.2.2.1 (t5.1.2.1.length : Int)) < (t5.1.2.2.1.length : Int)) then (t5.1.2.2.1[(iadd .i64 t5.1.2.2.2.1 (t5.1.2.1.length : Int)).toNat]?).bind fun _ => g ((t5.1.1, t5.1.2.1, (t5.1.2.2.1.set ((iadd .i64 t5.1.2.2.2.1 (t5.1.2.1.length : Int)).toNat) t5.1.2.2.2.2.1), (iadd .i64 t5.1.2.2.2.1 1), ()), ()) else none) else (some ((out_5, ()), ()))
def dendronref01_Times (a_0 : List Int) (b_1 : List Int) : Option (List Int) :=
 bif decide ((iadd .i64 (a_0.length : Int) (b_1.length : Int)) = (iadd .i64 (a_0.length : Int) (b_1.length : Int))) && decide (0 ≤ (iadd .i64 (a_0.length : Int) (b_1.length : Int))) && decide (((8 : Nat) : Int) * (iadd .i64 (a_0.length : Int) (b_1.length : Int)) ≤ 281474976710656) && decide ((iadd .i64 (a_0.length : Int) (b_1.length : Int)) ≤ 9223372036854775807) then (lp dendronref01_Times_s3 K0 ((a_0, b_1, (List.replicate (iadd .i64 (a_0.length : Int) (b_1.length : Int)).toNat (0 : Int)), 0, ()), ())).bind fun t7 => (dendronref01_Trim t7.1.1).bind fun r8 => some r8 else none
def c139 : Ctr := ⟨[((.sl (.int .i64)), .imm), ((.sl (.int .i64)), .imm)], [((.sl (.int .i64)), false)], (List Int), fun x => dendronref01_Times x.1 x.2.1, fun r => ((), (r, ())), none⟩
abbrev dendronref01_From_i4 : SG := ⟨[(0, .v (.sl (.int .u64))), (3, .o (.int .i64) 31), (4, .v (.sl (.int .i64))), (5, .v (.int .i64))], [], []⟩
abbrev dendronref01_From_o4 : List (Ex × SG) := [(.exit 0, ⟨[(3, .o (.int .i64) 31)], [], []⟩)]
abbrev dendronref01_From_s4_t := (((List Int) × (List Int) × (List Int) × Int × Unit) × Unit)
abbrev dendronref01_From_s4_u := (((List Int) × Unit) × Unit)
def dendronref01_From_s4 (g : dendronref01_From_s4_t → Option dendronref01_From_s4_u) : dendronref01_From_s4_t → Option dendronref01_From_s4_u
 | ((a_0, out_3, unit_4, i_5, _), _) => bif (decide (i_5 ≥ 0)) then ((dendronref01_Times out_3 unit_4).bind fun r2 => bif decide (0 ≤ i_5) then (a_0[i_5.toNat]?).bind fun x3 => (dendronref01_Small (IntKind.wrap .i64 (iand .u64 x3 4294967295))).bind fun r4 => (dendronref01_Plus r2 r4).bind fun r5 => g ((a_0, r5, unit_4, (isub .i64 i_5 1), ()), ()) else none) else (some ((out_3, ()), ()))
def dendronref01_From (a_0 : List Int) : Option (List Int) :=
 (dendronref01_Small 4294967296).bind fun r1 => (lp dendronref01_From_s4 K0 ((a_0, [], r1, (isub .i64 (a_0.length : Int) 1), ()), ())).bind fun t6 => some t6.1.1
def c107 : Ctr := ⟨[((.sl (.int .u64)), .imm)], [((.sl (.int .i64)), true)], (List Int), fun x => dendronref01_From x.1, fun r => ((), (r, ())), none⟩
def dendronref02_Make (neg_0 : Bool) (n_1 : List Int) : Option (Bool × List Int) :=
 bif neg_0 then (some ((decide ((n_1.length : Int) > 0)), n_1)) else (some (false, n_1))
def c141 : Ctr := ⟨[(.bool, .imm), ((.sl (.int .i64)), .imm)], [((.pair .bool (.sl (.int .i64))), false)], (Bool × List Int), fun x => dendronref02_Make x.1 x.2.1, fun r => ((), (r, ())), none⟩
def dendronref02_Small (n_0 : Int) : Option (Bool × List Int) :=
 bif (decide (n_0 < 0)) then ((dendronref01_Small (isub .i64 0 (iadd .i64 n_0 1))).bind fun r1 => (dendronref01_Small 1).bind fun r2 => (dendronref01_Plus r1 r2).bind fun r3 => (dendronref02_Make true r3).bind fun r4 => some r4) else ((dendronref01_Small n_0).bind fun r5 => (dendronref02_Make false r5).bind fun r6 => some r6)
def c140 : Ctr := ⟨[((.int .i64), .imm)], [((.pair .bool (.sl (.int .i64))), false)], (Bool × List Int), fun x => dendronref02_Small x.1, fun r => ((), (r, ())), none⟩
def dendronref03_Small (n_0 : Int) (d_1 : Int) : Option ((Bool × List Int) × List Int) :=
 (dendronref02_Small n_0).bind fun r1 => (dendronref01_Small d_1).bind fun r2 => some (r1, r2)
def c108 : Ctr := ⟨[((.int .i64), .imm), ((.int .i64), .imm)], [((.pair (.pair .bool (.sl (.int .i64))) (.sl (.int .i64))), false)], ((Bool × List Int) × List Int), fun x => dendronref03_Small x.1 x.2.1, fun r => ((), (r, ())), none⟩
def dendronref02_From (a_0 : WH) : Option (Bool × List Int) :=
 (dendronref01_From a_0.2).bind fun r1 => (dendronref02_Make a_0.1 r1).bind fun r2 => some r2
def c109 : Ctr := ⟨[(tWH, .imm)], [((.pair .bool (.sl (.int .i64))), false)], (Bool × List Int), fun x => dendronref02_From x.1, fun r => ((), (r, ())), none⟩
def dendronref03_From (a_0 : RAT) : Option ((Bool × List Int) × List Int) :=
 (dendronref01_From a_0.2).bind fun r1 => bif (decide ((r1.length : Int) = 0)) then ((dendronref03_Small 0 1).bind fun r2 => some r2) else ((dendronref02_From a_0.1).bind fun r3 => some (r3, r1))
def c66 : Ctr := ⟨[(tRAT, .imm)], [((.pair (.pair .bool (.sl (.int .i64))) (.sl (.int .i64))), false)], ((Bool × List Int) × List Int), fun x => dendronref03_From x.1, fun r => ((), (r, ())), none⟩
abbrev dendronref01_Right_i2 : SG := ⟨[(0, .v (.sl (.int .u64))), (3, .v (.int .i64))], [], []⟩
abbrev dendronref01_Right_o2 : List (Ex × SG) := [(.exit 0, ⟨[(0, .v (.sl (.int .u64)))], [], []⟩), (.ret, ⟨[(2, .v .bool)], [], []⟩)]
def dendronref01_Right_s2 (g : (((List Int) × Int × Unit) × Unit) → Option ((((List Int) × Unit) × Unit) ⊕ ((Bool × Unit) × Unit))) : (((List Int) × Int × Unit) × Unit) → Option ((((List Int) × Unit) × Unit) ⊕ ((Bool × Unit) × Unit))
 | ((a_0, i_3, _), _) => bif (decide (i_3 < (a_0.length : Int))) then (bif decide (0 ≤ i_3) then (a_0[i_3.toNat]?).bind fun x1 => bif (decide (x1 > 4294967295)) then (some (.inr ((false, ()), ()))) else (g ((a_0, (iadd .i64 i_3 1), ()), ())) else none) else (some (.inl ((a_0, ()), ())))
def dendronref01_Right (a_0 : List Int) : Option Bool :=
 (lp dendronref01_Right_s2 K0 ((a_0, 0, ()), ())).bind fun t2 => (match t2 with | .inl t3 => bif (decide ((t3.1.1.length : Int) = 0)) then (some true) else (bif decide (0 ≤ (isub .i64 (t3.1.1.length : Int) 1)) then (t3.1.1[(isub .i64 (t3.1.1.length : Int) 1).toNat]?).bind fun x5 => some (!decide (x5 = 0)) else none) | .inr t4 => some t4.1.1)
def c131 : Ctr := ⟨[((.sl (.int .u64)), .imm)], [(.bool, false)], Bool, fun x => dendronref01_Right x.1, fun r => ((), (r, ())), none⟩
abbrev dendronref01_Order_i6 : SG := ⟨[(0, .v (.sl (.int .i64))), (1, .v (.sl (.int .i64))), (5, .v (.int .i64))], [], []⟩
abbrev dendronref01_Order_o6 : List (Ex × SG) := [(.exit 0, ⟨[], [], []⟩), (.ret, ⟨[(4, .v (.int .i64))], [], []⟩)]
def dendronref01_Order_s6 (g : (((List Int) × (List Int) × Int × Unit) × Unit) → Option ((Unit × Unit) ⊕ ((Int × Unit) × Unit))) : (((List Int) × (List Int) × Int × Unit) × Unit) → Option ((Unit × Unit) ⊕ ((Int × Unit) × Unit))
 | ((a_0, b_1, i_5, _), _) => bif (decide (i_5 ≥ 0)) then (bif decide (0 ≤ i_5) then (a_0[i_5.toNat]?).bind fun x1 => bif decide (0 ≤ i_5) then (b_1[i_5.toNat]?).bind fun x2 => bif (decide (x1 < x2)) then (some (.inr (((-1), ()), ()))) else (bif decide (0 ≤ i_5) then (a_0[i_5.toNat]?).bind fun x3 => bif decide (0 ≤ i_5) then (b_1[i_5.toNat]?).bind fun x4 => bif (decide (x3 > x4)) then (some (.inr ((1, ()), ()))) else (g ((a_0, b_1, (isub .i64 i_5 1), ()), ())) else none else none) else none else none) else (some (.inl ((()), ())))
def dendronref01_Order (a_0 : List Int) (b_1 : List Int) : Option Int :=
 bif (!decide ((a_0.length : Int) = (b_1.length : Int))) then (bif (decide ((a_0.length : Int) < (b_1.length : Int))) then (some (-1)) else (some 1)) else ((lp dendronref01_Order_s6 K0 ((a_0, b_1, (isub .i64 (a_0.length : Int) 1), ()), ())).bind fun t5 => (match t5 with | .inl t6 => some 0 | .inr t7 => some t7.1.1))
def c133 : Ctr := ⟨[((.sl (.int .i64)), .imm), ((.sl (.int .i64)), .imm)], [((.int .i64), false)], Int, fun x => dendronref01_Order x.1 x.2.1, fun r => ((), (r, ())), none⟩
abbrev dendronref01_Minus_i4 : SG := ⟨[(0, .v (.sl (.int .i64))), (1, .v (.sl (.int .i64))), (5, .o (.int .i64) 47), (6, .v (.int .i64)), (7, .v (.int .i64))], [], []⟩
abbrev dendronref01_Minus_o4 : List (Ex × SG) := [(.exit 0, ⟨[(5, .o (.int .i64) 47)], [], []⟩)]
abbrev dendronref01_Minus_s4_t := (((List Int) × (List Int) × (List Int) × Int × Int × Unit) × Unit)
abbrev dendronref01_Minus_s4_u := (((List Int) × Unit) × Unit)
def dendronref01_Minus_s4 (g : dendronref01_Minus_s4_t → Option dendronref01_Minus_s4_u) : dendronref01_Minus_s4_t → Option dendronref01_Minus_s4_u
 | ((a_0, b_1, out_5, c_6, i_7, _), _) => bif (decide (i_7 < (a_0.length : Int))) then (bif decide (0 ≤ i_7) then (a_0[i_7.toNat]?).bind fun x1 => (dendronref01_digit b_1 i_7).bind fun r2 => bif (decide ((isub .i64 (isub .i64 x1 r2) c_6) < 0)) then (bif Nat.ble ((out_5.length + 1) * 8) 140737488355328 && !false then g ((a_0, b_1, (out_5 ++ ([(iadd .i64 (isub .i64 (isub .i64 x1 r2) c_6) 10000)] : List Int)), 1, (iadd .i64 i_7 1), ()), ()) else none) else (bif Nat.ble ((out_5.length + 1) * 8) 140737488355328 && !false then g ((a_0, b_1, (out_5 ++ ([(isub .i64 (isub .i64 x1 r2) c_6)] : List Int)), 0, (iadd .i64 i_7 1), ()), ()) else none) else none) else (some ((out_5, ()), ()))
def dendronref01_Minus (a_0 : List Int) (b_1 : List Int) : Option (List Int) :=
 (lp dendronref01_Minus_s4 K0 ((a_0, b_1, [], 0, 0, ()), ())).bind fun t3 => (dendronref01_Trim t3.1.1).bind fun r4 => some r4
def c173 : Ctr := ⟨[((.sl (.int .i64)), .imm), ((.sl (.int .i64)), .imm)], [((.sl (.int .i64)), false)], (List Int), fun x => dendronref01_Minus x.1 x.2.1, fun r => ((), (r, ())), none⟩
abbrev dendronref01_Over_i12 : SG := ⟨[(0, .v (.sl (.int .i64))), (1, .v (.sl (.int .i64))), (6, .o (.int .i64) 55), (7, .v (.sl (.int .i64))), (8, .v (.int .i64)), (10, .v (.int .i64)), (11, .v (.int .i64))], [], []⟩
abbrev dendronref01_Over_o12 : List (Ex × SG) := [(.exit 2, ⟨[(0, .v (.sl (.int .i64))), (1, .v (.sl (.int .i64))), (6, .o (.int .i64) 55), (7, .v (.sl (.int .i64))), (8, .v (.int .i64)), (10, .v (.int .i64))], [], []⟩)]
abbrev dendronref01_Over_s12_t := (((List Int) × (List Int) × (List Int) × (List Int) × Int × Int × Int × Unit) × Unit)
abbrev dendronref01_Over_s12_u := (((List Int) × (List Int) × (List Int) × (List Int) × Int × Int × Unit) × Unit)
def dendronref01_Over_s12 (g : dendronref01_Over_s12_t → Option dendronref01_Over_s12_u) : dendronref01_Over_s12_t → Option dendronref01_Over_s12_u
 | ((v_0, v_1, v_6, v_7, v_8, v_10, v_11, _), _) => bif (decide ((isub .i64 v_11 v_10) > 1)) then ((dendronref01_Small (iquo .i64 (iadd .i64 v_10 v_11) 2)).bind fun r3 => (dendronref01_Times v_1 r3).bind fun r4 => (dendronref01_Order r4 v_7).bind fun r5 => bif (decide (r5 ≤ 0)) then (g ((v_0, v_1, v_6, v_7, v_8, (iquo .i64 (iadd .i64 v_10 v_11) 2), v_11, ()), ())) else (g ((v_0, v_1, v_6, v_7, v_8, v_10, (iquo .i64 (iadd .i64 v_10 v_11) 2), ()), ()))) else (some ((v_0, v_1, v_6, v_7, v_8, v_10, ()), ()))
abbrev dendronref01_Over_i4 : SG := ⟨[(0, .v (.sl (.int .i64))), (1, .v (.sl (.int .i64))), (6, .o (.int .i64) 55), (7, .v (.sl (.int .i64))), (8, .v (.int .i64))], [], []⟩
abbrev dendronref01_Over_o4 : List (Ex × SG) := [(.exit 0, ⟨[(6, .o (.int .i64) 55), (7, .v (.sl (.int .i64)))], [], []⟩)]
abbrev dendronref01_Over_s4_t := (((List Int) × (List Int) × (List Int) × (List Int) × Int × Unit) × Unit)
abbrev dendronref01_Over_s4_u := (((List Int) × (List Int) × Unit) × Unit)
def dendronref01_Over_s4 (g : dendronref01_Over_s4_t → Option dendronref01_Over_s4_u) : dendronref01_Over_s4_t → Option dendronref01_Over_s4_u
 | ((v_0, v_1, v_6, v_7, v_8, _), _) => bif (decide (v_8 ≥ 0)) then (bif decide (0 ≤ v_8) then (v_0[v_8.toNat]?).bind fun x1 => bif Nat.ble ((([x1] : List Int).length + v_7.length) * 8) 140737488355328 && !false then (dendronref01_Trim (([x1] : List Int) ++ v_7)).bind fun r2 => (lp dendronref01_Over_s12 K0 ((v_0, v_1, v_6, r2, v_8, 0, 10000, ()), ())).bind fun t6 => bif decide (0 ≤ t6.1.2.2.2.2.1) && decide (t6.1.2.2.2.2.1 < (t6.1.2.2.1.length : Int)) then (t6.1.2.2.1[t6.1.2.2.2.2.1.toNat]?).bind fun _ => (dendronref01_Small t6.1.2.2.2.2.2.1).bind fun r8 => (dendronref01_Times t6.1.2.1 r8).bind fun r9 => (dendronref01_Minus t6.1.2.2.2.1 r9).bind fun r10 => g ((t6.1.1, t6.1.2.1, (t6.1.2.2.1.set t6.1.2.2.2.2.1.toNat t6.1.2.2.2.2.2.1), r10, (isub .i64 t6.1.2.2.2.2.1 1), ()), ()) else none else none else none) else (some ((v_6, v_7, ()), ()))
def dendronref01_Over (a_0 : List Int) (a_1 : List Int) : Option ((List Int) × (List Int)) :=
 bif decide ((a_0.length : Int) = (a_0.length : Int)) && decide (0 ≤ (a_0.length : Int)) && decide (((8 : Nat) : Int) * (a_0.length : Int) ≤ 281474976710656) && decide ((a_0.length : Int) ≤ 9223372036854775807) then (lp dendronref01_Over_s4 K0 ((a_0, a_1, (List.replicate (a_0.length : Int).toNat (0 : Int)), [], (isub .i64 (a_0.length : Int) 1), ()), ())).bind fun t11 => (dendronref01_Trim t11.1.1).bind fun r12 => some (r12, t11.1.2.1) else none
def c163 : Ctr := ⟨[((.sl (.int .i64)), .imm), ((.sl (.int .i64)), .imm)], [((.sl (.int .i64)), false), ((.sl (.int .i64)), false)], (List Int) × (List Int), fun x => dendronref01_Over x.1 x.2.1, fun r => ((), (r.1, r.2, ())), none⟩
abbrev dendronref01_Gcd_i1 : SG := ⟨[(0, .v (.sl (.int .i64))), (1, .v (.sl (.int .i64)))], [], []⟩
abbrev dendronref01_Gcd_o1 : List (Ex × SG) := [(.exit 0, ⟨[(0, .v (.sl (.int .i64)))], [], []⟩)]
def dendronref01_Gcd_s1 (g : (((List Int) × (List Int) × Unit) × Unit) → Option (((List Int) × Unit) × Unit)) : (((List Int) × (List Int) × Unit) × Unit) → Option (((List Int) × Unit) × Unit)
 | ((a_0, b_1, _), _) => bif (decide ((b_1.length : Int) > 0)) then ((dendronref01_Over a_0 b_1).bind fun r1 => g ((b_1, r1.2, ()), ())) else (some ((a_0, ()), ()))
def dendronref01_Gcd (a_0 : List Int) (b_1 : List Int) : Option (List Int) :=
 (lp dendronref01_Gcd_s1 K0 ((a_0, b_1, ()), ())).bind fun t2 => some t2.1.1
def c132 : Ctr := ⟨[((.sl (.int .i64)), .imm), ((.sl (.int .i64)), .imm)], [((.sl (.int .i64)), false)], (List Int), fun x => dendronref01_Gcd x.1 x.2.1, fun r => ((), (r, ())), none⟩
def dendronref03_Right (a_0 : RAT) : Option Bool :=
 (dendronref01_Right a_0.1.2).bind fun r1 => bif (!r1) then (some false) else ((dendronref01_Right a_0.2).bind fun r2 => bif (!r2) then (some false) else (bif (decide ((a_0.2.length : Int) = 0)) then (some false) else (bif (decide ((a_0.1.2.length : Int) = 0)) then (bif a_0.1.1 then (some false) else ((dendronref01_From a_0.1.2).bind fun r3 => (dendronref01_From a_0.2).bind fun r4 => (dendronref01_Gcd r3 r4).bind fun r5 => (dendronref01_Small 1).bind fun r6 => (dendronref01_Order r5 r6).bind fun r7 => some (decide (r7 = 0)))) else ((dendronref01_From a_0.1.2).bind fun r8 => (dendronref01_From a_0.2).bind fun r9 => (dendronref01_Gcd r8 r9).bind fun r10 => (dendronref01_Small 1).bind fun r11 => (dendronref01_Order r10 r11).bind fun r12 => some (decide (r12 = 0))))))
def c105 : Ctr := ⟨[(tRAT, .imm)], [(.bool, false)], Bool, fun x => dendronref03_Right x.1, fun r => ((), (r, ())), none⟩
def dendronref02_Order (a_0 : Bool × List Int) (b_1 : Bool × List Int) : Option Int :=
 bif a_0.1 then (bif (!b_1.1) then (some (-1)) else (bif (!a_0.1) then (bif b_1.1 then (some 1) else (bif a_0.1 then ((dendronref01_Order b_1.2 a_0.2).bind fun r1 => some r1) else ((dendronref01_Order a_0.2 b_1.2).bind fun r2 => some r2))) else (bif a_0.1 then ((dendronref01_Order b_1.2 a_0.2).bind fun r3 => some r3) else ((dendronref01_Order a_0.2 b_1.2).bind fun r4 => some r4)))) else (bif (!a_0.1) then (bif b_1.1 then (some 1) else (bif a_0.1 then ((dendronref01_Order b_1.2 a_0.2).bind fun r5 => some r5) else ((dendronref01_Order a_0.2 b_1.2).bind fun r6 => some r6))) else (bif a_0.1 then ((dendronref01_Order b_1.2 a_0.2).bind fun r7 => some r7) else ((dendronref01_Order a_0.2 b_1.2).bind fun r8 => some r8)))
def c135 : Ctr := ⟨[((.pair .bool (.sl (.int .i64))), .imm), ((.pair .bool (.sl (.int .i64))), .imm)], [((.int .i64), false)], Int, fun x => dendronref02_Order x.1 x.2.1, fun r => ((), (r, ())), none⟩
def dendronref02_Times (a_0 : Bool × List Int) (b_1 : Bool × List Int) : Option (Bool × List Int) :=
 (dendronref01_Times a_0.2 b_1.2).bind fun r1 => (dendronref02_Make (!(a_0.1 == b_1.1)) r1).bind fun r2 => some r2
def c136 : Ctr := ⟨[((.pair .bool (.sl (.int .i64))), .imm), ((.pair .bool (.sl (.int .i64))), .imm)], [((.pair .bool (.sl (.int .i64))), false)], (Bool × List Int), fun x => dendronref02_Times x.1 x.2.1, fun r => ((), (r, ())), none⟩
def dendronref03_den (a_0 : (Bool × List Int) × List Int) : Option (Bool × List Int) :=
 (dendronref02_Make false a_0.2).bind fun r1 => some r1
def c137 : Ctr := ⟨[((.pair (.pair .bool (.sl (.int .i64))) (.sl (.int .i64))), .imm)], [((.pair .bool (.sl (.int .i64))), false)], (Bool × List Int), fun x => dendronref03_den x.1, fun r => ((), (r, ())), none⟩
def dendronref03_Order (a_0 : (Bool × List Int) × List Int) (b_1 : (Bool × List Int) × List Int) : Option Int :=
 (dendronref03_den b_1).bind fun r1 => (dendronref02_Times a_0.1 r1).bind fun r2 => (dendronref03_den a_0).bind fun r3 => (dendronref02_Times b_1.1 r3).bind fun r4 => (dendronref02_Order r2 r4).bind fun r5 => some r5
def c106 : Ctr := ⟨[((.pair (.pair .bool (.sl (.int .i64))) (.sl (.int .i64))), .imm), ((.pair (.pair .bool (.sl (.int .i64))) (.sl (.int .i64))), .imm)], [((.int .i64), false)], Int, fun x => dendronref03_Order x.1 x.2.1, fun r => ((), (r, ())), none⟩
def dendronref03_Is (a_0 : RAT) (x_1 : (Bool × List Int) × List Int) : Option Bool :=
 (dendronref03_Right a_0).bind fun r1 => bif r1 then ((dendronref03_From a_0).bind fun r2 => (dendronref03_Order r2 x_1).bind fun r3 => some (decide (r3 = 0))) else (some false)
def c65 : Ctr := ⟨[(tRAT, .imm), ((.pair (.pair .bool (.sl (.int .i64))) (.sl (.int .i64))), .imm)], [(.bool, false)], Bool, fun x => dendronref03_Is x.1 x.2.1, fun r => ((), (r, ())), none⟩
def dendronref10_Is (a_0 : RAT) (b_1 : RAT) : Option Bool :=
 (dendronref03_From b_1).bind fun r1 => (dendronref03_Is a_0 r1).bind fun r2 => some r2
def c21 : Ctr := ⟨[(tRAT, .imm), (tRAT, .imm)], [(.bool, false)], Bool, fun x => dendronref10_Is x.1 x.2.1, fun r => ((), (r, ())), none⟩
def dendronlaw16_LinearAreas (p_0 : List RAT) (n_1 : Int) : Option Bool :=
 (dendronlaw16_few p_0).bind fun r1 => bif (decide (n_1 > 12)) then (bif (decide (n_1 ≤ 64)) then ((dendronlaw16_awake ).bind fun r2 => some r2) else ((linear_ByArea r1 n_1).bind fun r3 => (linear_Weigh r1 n_1).bind fun r4 => bif (!decide (r3.2 = r4.2)) then (some false) else (bif (!decide (r3.2 = 0)) then (bif (decide ((r3.1.2.length : Int) = 0)) then ((dendronlaw16_awake ).bind fun r5 => some r5) else (some false)) else ((dendronref10_Is r3.1 r4.1).bind fun r6 => bif r6 then ((dendronlaw16_awake ).bind fun r7 => some r7) else (some false))))) else ((linear_ByArea r1 n_1).bind fun r8 => (linear_Weigh r1 n_1).bind fun r9 => bif (!decide (r8.2 = r9.2)) then (some false) else (bif (!decide (r8.2 = 0)) then (bif (decide ((r8.1.2.length : Int) = 0)) then ((dendronlaw16_awake ).bind fun r10 => some r10) else (some false)) else ((dendronref10_Is r8.1 r9.1).bind fun r11 => bif r11 then ((dendronlaw16_awake ).bind fun r12 => some r12) else (some false))))
def c4 : Ctr := ⟨[((.sl tRAT), .imm), ((.int .i64), .imm)], [(.bool, false)], Bool, fun x => dendronlaw16_LinearAreas x.1 x.2.1, fun r => ((), (r, ())), none⟩
end Go.Proofs.YtaonkcmflkmncaaGreatDoor.X
