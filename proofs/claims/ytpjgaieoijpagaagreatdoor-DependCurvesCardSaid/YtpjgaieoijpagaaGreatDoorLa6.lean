/- What each function answers. Printed by a program of our own. -/
import Derived.Test.YtpjgaieoijpagaaGreatDoorLa4
import Derived.Test.YtpjgaieoijpagaaGreatDoorProg

namespace Go.Proofs.YtpjgaieoijpagaaGreatDoor.X
open Go
set_option linter.unusedSimpArgs false
set_option linter.unusedVariables false
set_option maxRecDepth 100000

def tb : Tb := [(2, .sc (.int .i64)), (3, .sc (.int .i64)), (4, .sc .bool), (5, .sc (.int .u8)), (6, .sc (.int .u8)), (7, .stc (.pair (.int .i64) (.pair (.int .i64) (.pair .bool (.int .u8)))) [(0, 2), (1, 3), (2, 4), (3, 6)] false), (22, .slc 81 (.sl tNODE) 24), (24, .stc tMODEL [(0, 3), (1, 22)] false), (25, .slc 52 tCELL 64), (26, .sc (.int .u64)), (29, .sc (.int .i64)), (36, .slc 45 tRAT 56), (41, .slc 26 (.int .u64) 8), (43, .stc tWH [(0, 4), (1, 41)] false), (45, .stc tRAT [(0, 43), (2, 41)] false), (48, .slc 3 (.int .i64) 8), (52, .stc tCELL [(0, 4), (1, 45)] false), (81, .slc 89 tNODE 208), (86, .stc (.pair (.int .i64) (.pair (.int .i64) (.pair (.int .i64) (.int .i64)))) [(0, 29), (1, 3), (2, 3), (3, 3)] true), (89, .stc tNODE [(0, 4), (1, 3), (2, 45), (5, 3), (6, 3), (7, 4), (8, 45), (11, 45)] false), (94, .slc 4 .bool 1), (98, .slc 3 (.int .i64) 8), (100, .stc (.pair .bool (.sl (.int .i64))) [(0, 4), (1, 98)] false), (102, .stc (.pair (.pair .bool (.sl (.int .i64))) (.sl (.int .i64))) [(0, 100), (2, 98)] false), (142, .sc (.int .u64)), (206, .sc (.int .u32))]

def dendronlaw09_number (a_0 : RAT) : Option RAT :=
  bif (decide ((a_0.1.2.length : Int) > 3)) then (bif decide ((3 : Int) ≤ (a_0.1.2.length : Int)) then bif (decide ((a_0.2.length : Int) > 3)) then (bif decide ((3 : Int) ≤ (a_0.2.length : Int)) then some ((a_0.1.1, (a_0.1.2.take 3)), (a_0.2.take 3)) else none) else (some ((a_0.1.1, (a_0.1.2.take 3)), a_0.2)) else none) else (bif (decide ((a_0.2.length : Int) > 3)) then (bif decide ((3 : Int) ≤ (a_0.2.length : Int)) then some (a_0.1, (a_0.2.take 3)) else none) else (some a_0))

def c56 : Ctr := ⟨[(tRAT, .imm)], [(tRAT, false)], RAT, fun x => dendronlaw09_number x.1, fun r => ((), (r, ())), none⟩

abbrev dendronlaw09_Few_i3 : SG := ⟨[(0, .v (.sl tCELL)), (1, .v (.int .i64)), (5, .o tCELL 47), (6, .v (.int .i64))], []⟩
abbrev dendronlaw09_Few_o3 : List (Ex × SG) := [(.exit 0, ⟨[(5, .o tCELL 47)], []⟩)]

def dendronlaw09_Few_s3 (g : (((List CELL) × Int × (List CELL) × Int × Unit) × Unit) → Option (((List CELL) × Unit) × Unit)) : (((List CELL) × Int × (List CELL) × Int × Unit) × Unit) → Option (((List CELL) × Unit) × Unit)
  | ((l_0, n_1, out_5, i_6, _), _) => bif (decide (i_6 < (l_0.length : Int))) then (bif (decide (i_6 < n_1)) then (bif decide (0 ≤ i_6) then (l_0[i_6.toNat]?).bind fun x1 => (dendronlaw09_number x1.2).bind fun r2 => bif Nat.ble ((out_5.length + 1) * 64) 140737488355328 && !false then g ((l_0, n_1, (out_5 ++ ([(x1.1, r2)] : List CELL)), (iadd .i64 i_6 1), ()), ()) else none else none) else (some ((out_5, ()), ()))) else (some ((out_5, ()), ()))

def dendronlaw09_Few (l_0 : List CELL) (n_1 : Int) : Option (List CELL) :=
  (lp dendronlaw09_Few_s3 K0 ((l_0, n_1, [], 0, ()), ())).bind fun t3 => some t3.1.1

def c20 : Ctr := ⟨[((.sl tCELL), .imm), ((.int .i64), .imm)], [((.sl tCELL), true)], (List CELL), fun x => dendronlaw09_Few x.1 x.2.1, fun r => ((), (r, ())), none⟩

def dendronlaw07_number (a_0 : RAT) : Option RAT :=
  bif (decide ((a_0.1.2.length : Int) > 4)) then (bif decide ((4 : Int) ≤ (a_0.1.2.length : Int)) then bif (decide ((a_0.2.length : Int) > 4)) then (bif decide ((4 : Int) ≤ (a_0.2.length : Int)) then some ((a_0.1.1, (a_0.1.2.take 4)), (a_0.2.take 4)) else none) else (some ((a_0.1.1, (a_0.1.2.take 4)), a_0.2)) else none) else (bif (decide ((a_0.2.length : Int) > 4)) then (bif decide ((4 : Int) ≤ (a_0.2.length : Int)) then some (a_0.1, (a_0.2.take 4)) else none) else (some a_0))

def c78 : Ctr := ⟨[(tRAT, .imm)], [(tRAT, false)], RAT, fun x => dendronlaw07_number x.1, fun r => ((), (r, ())), none⟩

abbrev dendronlaw07_Few_i7 : SG := ⟨[(1, .p 8 0 0), (2, .p 16 0 0), (3, .p 24 0 0), (4, .v (.int .i64)), (5, .o tNODE 47), (6, .v (.int .i64))], [(8, [.v (.int .i64), .v (.sl (.sl tNODE))]), (16, [.v (.int .i64), .o (.sl tNODE) 18]), (24, [.v (.int .i64), .o (.sl tNODE) 26])]⟩
abbrev dendronlaw07_Few_o7 : List (Ex × SG) := [(.exit 2, ⟨[(1, .p 8 0 0), (2, .p 16 0 0), (3, .p 24 0 0), (4, .v (.int .i64)), (5, .o tNODE 47)], [(8, [.v (.int .i64), .v (.sl (.sl tNODE))]), (16, [.v (.int .i64), .o (.sl tNODE) 18]), (24, [.v (.int .i64), .o (.sl tNODE) 26])]⟩)]

def dendronlaw07_Few_s7 (g : ((Int × (List NODE) × Int × Unit) × ((Int × (List (List NODE)) × Unit) × (Int × (List (List NODE)) × Unit) × (Int × (List (List NODE)) × Unit) × Unit)) → Option ((Int × (List NODE) × Unit) × ((Int × (List (List NODE)) × Unit) × (Int × (List (List NODE)) × Unit) × (Int × (List (List NODE)) × Unit) × Unit))) : ((Int × (List NODE) × Int × Unit) × ((Int × (List (List NODE)) × Unit) × (Int × (List (List NODE)) × Unit) × (Int × (List (List NODE)) × Unit) × Unit)) → Option ((Int × (List NODE) × Unit) × ((Int × (List (List NODE)) × Unit) × (Int × (List (List NODE)) × Unit) × (Int × (List (List NODE)) × Unit) × Unit))
  | ((v_4, v_5, v_6, _), ((b8_0, b8_1, _), (b16_0, b16_1, _), (b24_0, b24_1, _), _)) => bif decide (0 ≤ v_4) then (b8_1[v_4.toNat]?).bind fun x1 => bif (decide (v_6 < (x1.length : Int))) then (bif (decide (v_6 < 15)) then (bif decide (0 ≤ v_4) then (b8_1[v_4.toNat]?).bind fun x2 => bif decide (0 ≤ v_6) then (x2[v_6.toNat]?).bind fun x3 => (dendronlaw07_number x3.2.2.1).bind fun r4 => (dendronlaw07_number x3.2.2.2.2.2.2.1).bind fun r5 => (dendronlaw07_number x3.2.2.2.2.2.2.2).bind fun r6 => bif Nat.ble ((v_5.length + 1) * 208) 140737488355328 && !false then g ((v_4, (v_5 ++ ([(x3.1, (x3.2.1, (r4, (x3.2.2.2.1, (x3.2.2.2.2.1, (x3.2.2.2.2.2.1, (r5, r6)))))))] : List NODE)), (iadd .i64 v_6 1), ()), ((b8_0, b8_1, ()), (b16_0, b16_1, ()), (b24_0, b24_1, ()), ())) else none else none else none) else (some ((v_4, v_5, ()), ((b8_0, b8_1, ()), (b16_0, b16_1, ()), (b24_0, b24_1, ()), ())))) else (some ((v_4, v_5, ()), ((b8_0, b8_1, ()), (b16_0, b16_1, ()), (b24_0, b24_1, ()), ()))) else none

abbrev dendronlaw07_Few_i3 : SG := ⟨[(1, .p 8 0 0), (2, .p 16 0 0), (3, .p 24 0 0), (4, .v (.int .i64))], [(8, [.v (.int .i64), .v (.sl (.sl tNODE))]), (16, [.v (.int .i64), .o (.sl tNODE) 18]), (24, [.v (.int .i64), .o (.sl tNODE) 26])]⟩
abbrev dendronlaw07_Few_o3 : List (Ex × SG) := [(.exit 0, ⟨[(2, .p 16 0 0), (3, .p 24 0 0)], [(16, [.v (.int .i64), .o (.sl tNODE) 18]), (24, [.v (.int .i64), .o (.sl tNODE) 26])]⟩)]

def dendronlaw07_Few_s3 (g : ((Int × Unit) × ((Int × (List (List NODE)) × Unit) × (Int × (List (List NODE)) × Unit) × (Int × (List (List NODE)) × Unit) × Unit)) → Option (Unit × ((Int × (List (List NODE)) × Unit) × (Int × (List (List NODE)) × Unit) × Unit))) : ((Int × Unit) × ((Int × (List (List NODE)) × Unit) × (Int × (List (List NODE)) × Unit) × (Int × (List (List NODE)) × Unit) × Unit)) → Option (Unit × ((Int × (List (List NODE)) × Unit) × (Int × (List (List NODE)) × Unit) × Unit))
  | ((v_4, _), ((b8_0, b8_1, _), (b16_0, b16_1, _), (b24_0, b24_1, _), _)) => bif (decide (v_4 < (b8_1.length : Int))) then (bif (decide (v_4 < 6)) then ((lp dendronlaw07_Few_s7 K0 ((v_4, [], 0, ()), ((b8_0, b8_1, ()), (b16_0, b16_1, ()), (b24_0, b24_1, ()), ()))).bind fun t7 => bif Nat.ble ((t7.2.2.2.1.2.1.length + 1) * 24) 140737488355328 && !false then g (((iadd .i64 t7.1.1 1), ()), ((t7.2.1.1, t7.2.1.2.1, ()), (t7.2.2.1.1, t7.2.2.1.2.1, ()), (t7.2.2.2.1.1, (t7.2.2.2.1.2.1 ++ ([t7.1.2.1] : List (List NODE))), ()), ())) else none) else (some ((()), ((b16_0, b16_1, ()), (b24_0, b24_1, ()), ())))) else (some ((()), ((b16_0, b16_1, ()), (b24_0, b24_1, ()), ())))

def dendronlaw07_Few (a_0 : MODEL) : Option MODEL :=
  (lp dendronlaw07_Few_s3 K0 ((0, ()), ((a_0.1, a_0.2, ()), (0, [], ()), (a_0.1, [], ()), ()))).bind fun t8 => some (t8.2.2.1.1, t8.2.2.1.2.1)

def c42 : Ctr := ⟨[(tMODEL, .imm)], [(tMODEL, false)], MODEL, fun x => dendronlaw07_Few x.1, fun r => ((), (r, ())), none⟩

def dendronlaw11_Small (m_0 : MODEL) (row_1 : List CELL) : Option (MODEL × (List CELL)) :=
  (dendronlaw07_Few m_0).bind fun r1 => bif (decide ((r1.2.length : Int) > 3)) then (bif decide ((3 : Int) ≤ (r1.2.length : Int)) then (dendronlaw09_Few row_1 70).bind fun r2 => some ((r1.1, (r1.2.take 3)), r2) else none) else ((dendronlaw09_Few row_1 70).bind fun r3 => some (r1, r3))

def c8 : Ctr := ⟨[(tMODEL, .imm), ((.sl tCELL), .imm)], [(tMODEL, false), ((.sl tCELL), true)], MODEL × (List CELL), fun x => dendronlaw11_Small x.1 x.2.1, fun r => ((), (r.1, r.2, ())), none⟩

abbrev nat_trim_i2 : SG := ⟨[(0, .o (.int .u64) 7), (3, .v (.int .i64))], []⟩
abbrev nat_trim_o2 : List (Ex × SG) := [(.exit 0, ⟨[(0, .o (.int .u64) 7), (3, .v (.int .i64))], []⟩)]

def nat_trim_s2 (g : (((List Int) × Int × Unit) × Unit) → Option (((List Int) × Int × Unit) × Unit)) : (((List Int) × Int × Unit) × Unit) → Option (((List Int) × Int × Unit) × Unit)
  | ((a_0, n_3, _), _) => bif (decide (n_3 > 0)) then (bif decide (0 ≤ (isub .i64 n_3 1)) && decide ((isub .i64 n_3 1) < (a_0.length : Int)) then (a_0[(isub .i64 n_3 1).toNat]?).bind fun x1 => bif (decide (x1 = 0)) then (g ((a_0, (isub .i64 n_3 1), ()), ())) else (some ((a_0, n_3, ()), ())) else none) else (some ((a_0, n_3, ()), ()))

def nat_trim (a_0 : List Int) : Option (List Int) :=
  (lp nat_trim_s2 K0 ((a_0, (a_0.length : Int), ()), ())).bind fun t2 => bif (decide (t2.1.2.1 = 0)) then (some ([])) else (bif decide ((0 : Int) ≤ t2.1.2.1) && decide ((t2.1.2.1 : Int) ≤ t2.1.2.1) && decide ((t2.1.2.1 : Int) ≤ (t2.1.1.length : Int)) then some (t2.1.1.take ((t2.1.2.1 - 0).toNat)) else none)

def c107 : Ctr := ⟨[((.sl (.int .u64)), .own)], [((.sl (.int .u64)), true)], (List Int), fun x => nat_trim x.1, fun r => ((), (r, ())), none⟩

def nat_Of (n_0 : Int) : Option (List Int) :=
  (nat_trim ([(iand .u64 n_0 4294967295), (shrV .u64 n_0 32)] : List Int)).bind fun r1 => some r1

def c69 : Ctr := ⟨[((.int .u64), .imm)], [((.sl (.int .u64)), true)], (List Int), fun x => nat_Of x.1, fun r => ((), (r, ())), none⟩

def ratio_Zero  : Option RAT :=
  (nat_Of 1).bind fun r1 => some ((false, []), r1)

def c36 : Ctr := ⟨[], [(tRAT, false)], RAT, fun x => ratio_Zero , fun r => ((), (r, ())), none⟩

def whole_sign (neg_0 : Bool) (abs_1 : List Int) : Option WH :=
  bif neg_0 then (some ((decide ((abs_1.length : Int) > 0)), abs_1)) else (some (false, abs_1))

def c112 : Ctr := ⟨[(.bool, .imm), ((.sl (.int .u64)), .imm)], [(tWH, false)], WH, fun x => whole_sign x.1 x.2.1, fun r => ((), (r, ())), none⟩

def whole_Of (n_0 : Int) : Option WH :=
  bif (decide (n_0 < 0)) then ((nat_Of (ineg .u64 (IntKind.wrap .u64 n_0))).bind fun r1 => (whole_sign true r1).bind fun r2 => some r2) else ((nat_Of (IntKind.wrap .u64 n_0)).bind fun r3 => (whole_sign false r3).bind fun r4 => some r4)

def c77 : Ctr := ⟨[((.int .i64), .imm)], [(tWH, false)], WH, fun x => whole_Of x.1, fun r => ((), (r, ())), none⟩

def ratio_Of (n_0 : Int) : Option RAT :=
  (whole_Of n_0).bind fun r1 => (nat_Of 1).bind fun r2 => some (r1, r2)

def c49 : Ctr := ⟨[((.int .i64), .imm)], [(tRAT, false)], RAT, fun x => ratio_Of x.1, fun r => ((), (r, ())), none⟩

def ratio_One  : Option RAT :=
  (ratio_Of 1).bind fun r1 => some r1

def c48 : Ctr := ⟨[], [(tRAT, false)], RAT, fun x => ratio_One , fun r => ((), (r, ())), none⟩

abbrev model_Fits_i9 : SG := ⟨[(22, .v (.sl (.sl tNODE))), (23, .v (.int .i64)), (24, .v (.int .i64)), (36, .v (.sl tNODE)), (37, .v (.int .i64)), (38, .v (.int .i64))], []⟩
abbrev model_Fits_o9 : List (Ex × SG) := [(.exit 2, ⟨[(22, .v (.sl (.sl tNODE))), (23, .v (.int .i64)), (24, .v (.int .i64))], []⟩), (.ret, ⟨[(2, .v .bool)], []⟩)]

def model_Fits_s9 (g : (((List (List NODE)) × Int × Int × (List NODE) × Int × Int × Unit) × Unit) → Option ((((List (List NODE)) × Int × Int × Unit) × Unit) ⊕ ((Bool × Unit) × Unit))) : (((List (List NODE)) × Int × Int × (List NODE) × Int × Int × Unit) × Unit) → Option ((((List (List NODE)) × Int × Int × Unit) × Unit) ⊕ ((Bool × Unit) × Unit))
  | ((v_22, v_23, v_24, v_36, v_37, v_38, _), _) => bif (decide (v_38 < v_37)) then (bif decide (0 ≤ v_38) then (v_36[v_38.toNat]?).bind fun x2 => bif (decide (x2.2.1 < 0)) then (some (.inr ((false, ()), ()))) else (bif (decide (x2.2.1 > 64)) then (some (.inr ((false, ()), ()))) else (bif (decide (x2.2.2.2.1 < 0)) then (some (.inr ((false, ()), ()))) else (bif (decide (x2.2.2.2.1 > 255)) then (some (.inr ((false, ()), ()))) else (bif (decide (x2.2.2.2.2.1 < 0)) then (some (.inr ((false, ()), ()))) else (bif (decide (x2.2.2.2.2.1 > 255)) then (some (.inr ((false, ()), ()))) else (g ((v_22, v_23, v_24, v_36, v_37, (iadd .i64 v_38 1), ()), ()))))))) else none) else (some (.inl ((v_22, v_23, v_24, ()), ())))

abbrev model_Fits_i4 : SG := ⟨[(22, .v (.sl (.sl tNODE))), (23, .v (.int .i64)), (24, .v (.int .i64))], []⟩
abbrev model_Fits_o4 : List (Ex × SG) := [(.exit 0, ⟨[], []⟩), (.ret, ⟨[(2, .v .bool)], []⟩)]

def model_Fits_s4 (g : (((List (List NODE)) × Int × Int × Unit) × Unit) → Option ((Unit × Unit) ⊕ ((Bool × Unit) × Unit))) : (((List (List NODE)) × Int × Int × Unit) × Unit) → Option ((Unit × Unit) ⊕ ((Bool × Unit) × Unit))
  | ((v_22, v_23, v_24, _), _) => bif (decide (v_24 < v_23)) then (bif decide (0 ≤ v_24) then (v_22[v_24.toNat]?).bind fun x1 => bif (decide ((x1.length : Int) < 1)) then (some (.inr ((false, ()), ()))) else (bif (decide ((x1.length : Int) > 255)) then (some (.inr ((false, ()), ()))) else ((lp model_Fits_s9 K0 ((v_22, v_23, v_24, x1, (x1.length : Int), 0, ()), ())).bind fun t3 => (match t3 with | .inl t4 => g ((t4.1.1, t4.1.2.1, (iadd .i64 t4.1.2.2.1 1), ()), ()) | .inr t5 => some (.inr ((t5.1.1, ()), ()))))) else none) else (some (.inl ((()), ())))

def model_Fits (a_0 : MODEL) : Option Bool :=
  bif (decide (a_0.1 < 0)) then (some false) else (bif (decide (a_0.1 > 64)) then (some false) else (bif (decide ((a_0.2.length : Int) > 64)) then (some false) else ((lp model_Fits_s4 K0 ((a_0.2, (a_0.2.length : Int), 0, ()), ())).bind fun t6 => (match t6 with | .inl t7 => some true | .inr t8 => some t8.1.1))))

def c83 : Ctr := ⟨[(tMODEL, .imm)], [(.bool, false)], Bool, fun x => model_Fits x.1, fun r => ((), (r, ())), none⟩

abbrev valid_ranges_i2 : SG := ⟨[(0, .v (.sl tNODE)), (1, .v (.int .i64)), (8, .v (.sl tNODE)), (9, .v (.int .i64)), (10, .v (.int .i64))], []⟩
abbrev valid_ranges_o2 : List (Ex × SG) := [(.exit 0, ⟨[], []⟩), (.ret, ⟨[(4, .v (.int .i64)), (5, .v (.int .i64))], []⟩)]

def valid_ranges_s2 (g : (((List NODE) × Int × (List NODE) × Int × Int × Unit) × Unit) → Option ((Unit × Unit) ⊕ ((Int × Int × Unit) × Unit))) : (((List NODE) × Int × (List NODE) × Int × Int × Unit) × Unit) → Option ((Unit × Unit) ⊕ ((Int × Int × Unit) × Unit))
  | ((t_0, features_1, v_8, v_9, v_10, _), _) => bif (decide (v_10 < v_9)) then (bif decide (0 ≤ v_10) then (v_8[v_10.toNat]?).bind fun x1 => bif x1.1 then (g ((t_0, features_1, v_8, v_9, (iadd .i64 v_10 1), ()), ())) else (bif (decide (x1.2.1 < 0)) then (some (.inr ((v_10, 8, ()), ()))) else (bif (decide (x1.2.1 ≥ features_1)) then (some (.inr ((v_10, 8, ()), ()))) else (bif (decide (x1.2.2.2.1 < 1)) then (some (.inr ((v_10, 8, ()), ()))) else (bif (decide (x1.2.2.2.1 ≥ (t_0.length : Int))) then (some (.inr ((v_10, 8, ()), ()))) else (bif (decide (x1.2.2.2.2.1 < 1)) then (some (.inr ((v_10, 8, ()), ()))) else (bif (decide (x1.2.2.2.2.1 ≥ (t_0.length : Int))) then (some (.inr ((v_10, 8, ()), ()))) else (g ((t_0, features_1, v_8, v_9, (iadd .i64 v_10 1), ()), ())))))))) else none) else (some (.inl ((()), ())))

def valid_ranges (t_0 : List NODE) (features_1 : Int) : Option (Int × Int) :=
  (lp valid_ranges_s2 K0 ((t_0, features_1, t_0, (t_0.length : Int), 0, ()), ())).bind fun t2 => (match t2 with | .inl t3 => some (0, 0) | .inr t4 => some (t4.1.1, t4.1.2.1))

def c84 : Ctr := ⟨[((.sl tNODE), .imm), ((.int .i64), .imm)], [((.int .i64), false), ((.int .i64), false)], Int × Int, fun x => valid_ranges x.1 x.2.1, fun r => ((), (r.1, r.2, ())), none⟩

abbrev valid_shape_i3 : SG := ⟨[(0, .v (.sl tNODE)), (4, .o (.int .i64) 39), (18, .v (.sl tNODE)), (19, .v (.int .i64)), (20, .v (.int .i64))], []⟩
abbrev valid_shape_o3 : List (Ex × SG) := [(.exit 0, ⟨[(0, .v (.sl tNODE)), (4, .o (.int .i64) 39)], []⟩)]

def valid_shape_s3 (g : (((List NODE) × (List Int) × (List NODE) × Int × Int × Unit) × Unit) → Option (((List NODE) × (List Int) × Unit) × Unit)) : (((List NODE) × (List Int) × (List NODE) × Int × Int × Unit) × Unit) → Option (((List NODE) × (List Int) × Unit) × Unit)
  | ((v_0, v_4, v_18, v_19, v_20, _), _) => bif (decide (v_20 < v_19)) then (bif decide (0 ≤ v_20) then (v_18[v_20.toNat]?).bind fun x1 => bif (!x1.1) then (bif decide (0 ≤ x1.2.2.2.1) && decide (x1.2.2.2.1 < (v_4.length : Int)) then (v_4[x1.2.2.2.1.toNat]?).bind fun x2 => bif decide (0 ≤ x1.2.2.2.1) && decide (x1.2.2.2.1 < (v_4.length : Int)) then (v_4[x1.2.2.2.1.toNat]?).bind fun _ => bif decide (0 ≤ x1.2.2.2.2.1) && decide (x1.2.2.2.2.1 < ((v_4.set x1.2.2.2.1.toNat (iadd .i64 x2 1)).length : Int)) then ((v_4.set x1.2.2.2.1.toNat (iadd .i64 x2 1))[x1.2.2.2.2.1.toNat]?).bind fun x4 => bif decide (0 ≤ x1.2.2.2.2.1) && decide (x1.2.2.2.2.1 < ((v_4.set x1.2.2.2.1.toNat (iadd .i64 x2 1)).length : Int)) then ((v_4.set x1.2.2.2.1.toNat (iadd .i64 x2 1))[x1.2.2.2.2.1.toNat]?).bind fun _ => g ((v_0, ((v_4.set x1.2.2.2.1.toNat (iadd .i64 x2 1)).set x1.2.2.2.2.1.toNat (iadd .i64 x4 1)), v_18, v_19, (iadd .i64 v_20 1), ()), ()) else none else none else none else none) else (g ((v_0, v_4, v_18, v_19, (iadd .i64 v_20 1), ()), ())) else none) else (some ((v_0, v_4, ()), ()))

abbrev valid_shape_i10 : SG := ⟨[(0, .v (.sl tNODE)), (42, .o (.int .i64) 343), (43, .v (.int .i64)), (44, .v (.int .i64))], []⟩
abbrev valid_shape_o10 : List (Ex × SG) := [(.exit 2, ⟨[(0, .v (.sl tNODE))], []⟩), (.ret, ⟨[(2, .v (.int .i64)), (3, .v (.int .i64))], []⟩)]

def valid_shape_s10 (g : (((List NODE) × (List Int) × Int × Int × Unit) × Unit) → Option ((((List NODE) × Unit) × Unit) ⊕ ((Int × Int × Unit) × Unit))) : (((List NODE) × (List Int) × Int × Int × Unit) × Unit) → Option ((((List NODE) × Unit) × Unit) ⊕ ((Int × Int × Unit) × Unit))
  | ((v_0, v_42, v_43, v_44, _), _) => bif (decide (v_44 < v_43)) then (bif decide (0 ≤ v_44) && decide (v_44 < (v_42.length : Int)) then (v_42[v_44.toNat]?).bind fun x7 => bif (decide (v_44 > 0)) then (bif (!decide (x7 = 1)) then (some (.inr ((v_44, 11, ()), ()))) else (g ((v_0, v_42, v_43, (iadd .i64 v_44 1), ()), ()))) else (g ((v_0, v_42, v_43, (iadd .i64 v_44 1), ()), ())) else none) else (some (.inl ((v_0, ()), ())))

abbrev valid_shape_i17 : SG := ⟨[(0, .v (.sl tNODE)), (9, .o .bool 79), (10, .o (.int .i64) 87)], []⟩
abbrev valid_shape_o17 : List (Ex × SG) := [(.exit 4, ⟨[(9, .o .bool 79)], []⟩)]

def valid_shape_s17 (g : (((List NODE) × (List Bool) × (List Int) × Unit) × Unit) → Option (((List Bool) × Unit) × Unit)) : (((List NODE) × (List Bool) × (List Int) × Unit) × Unit) → Option (((List Bool) × Unit) × Unit)
  | ((v_0, v_9, v_10, _), _) => bif (decide ((v_10.length : Int) > 0)) then (bif decide (0 ≤ (isub .i64 (v_10.length : Int) 1)) && decide ((isub .i64 (v_10.length : Int) 1) < (v_10.length : Int)) then (v_10[(isub .i64 (v_10.length : Int) 1).toNat]?).bind fun x11 => bif decide ((0 : Int) ≤ (isub .i64 (v_10.length : Int) 1)) && decide (((isub .i64 (v_10.length : Int) 1) : Int) ≤ (isub .i64 (v_10.length : Int) 1)) && decide (((isub .i64 (v_10.length : Int) 1) : Int) ≤ (v_10.length : Int)) then bif decide (0 ≤ x11) && decide (x11 < (v_9.length : Int)) then (v_9[x11.toNat]?).bind fun _ => bif decide (0 ≤ x11) then (v_0[x11.toNat]?).bind fun x13 => bif (!x13.1) then (bif Nat.ble (((v_10.take (((isub .i64 (v_10.length : Int) 1) - 0).toNat)).length + 2) * 8) 140737488355328 && !false then g ((v_0, (v_9.set x11.toNat true), ((v_10.take (((isub .i64 (v_10.length : Int) 1) - 0).toNat)) ++ ([x13.2.2.2.1, x13.2.2.2.2.1] : List Int)), ()), ()) else none) else (g ((v_0, (v_9.set x11.toNat true), (v_10.take (((isub .i64 (v_10.length : Int) 1) - 0).toNat)), ()), ())) else none else none else none else none) else (some ((v_9, ()), ()))

abbrev valid_shape_i25 : SG := ⟨[(92, .o .bool 743), (93, .v (.int .i64)), (94, .v (.int .i64))], []⟩
abbrev valid_shape_o25 : List (Ex × SG) := [(.exit 6, ⟨[], []⟩), (.ret, ⟨[(2, .v (.int .i64)), (3, .v (.int .i64))], []⟩)]

def valid_shape_s25 (g : (((List Bool) × Int × Int × Unit) × Unit) → Option ((Unit × Unit) ⊕ ((Int × Int × Unit) × Unit))) : (((List Bool) × Int × Int × Unit) × Unit) → Option ((Unit × Unit) ⊕ ((Int × Int × Unit) × Unit))
  | ((v_92, v_93, v_94, _), _) => bif (decide (v_94 < v_93)) then (bif decide (0 ≤ v_94) && decide (v_94 < (v_92.length : Int)) then (v_92[v_94.toNat]?).bind fun x15 => bif (!x15) then (some (.inr ((v_94, 11, ()), ()))) else (g ((v_92, v_93, (iadd .i64 v_94 1), ()), ())) else none) else (some (.inl ((()), ())))

def valid_shape (a_0 : List NODE) : Option (Int × Int) :=
  bif decide ((a_0.length : Int) = (a_0.length : Int)) && decide (0 ≤ (a_0.length : Int)) && decide (((8 : Nat) : Int) * (a_0.length : Int) ≤ 281474976710656) && decide ((a_0.length : Int) ≤ 9223372036854775807) then (lp valid_shape_s3 K0 ((a_0, (List.replicate (a_0.length : Int).toNat (0 : Int)), a_0, (a_0.length : Int), 0, ()), ())).bind fun t6 => (lp valid_shape_s10 K0 ((t6.1.1, t6.1.2.1, (t6.1.2.1.length : Int), 0, ()), ())).bind fun t8 => (match t8 with | .inl t9 => bif decide ((t9.1.1.length : Int) = (t9.1.1.length : Int)) && decide (0 ≤ (t9.1.1.length : Int)) && decide (((1 : Nat) : Int) * (t9.1.1.length : Int) ≤ 281474976710656) && decide ((t9.1.1.length : Int) ≤ 9223372036854775807) then (lp valid_shape_s17 K0 ((t9.1.1, (List.replicate (t9.1.1.length : Int).toNat (false : Bool)), ([0] : List Int), ()), ())).bind fun t14 => (lp valid_shape_s25 K0 ((t14.1.1, (t14.1.1.length : Int), 0, ()), ())).bind fun t16 => (match t16 with | .inl t17 => some (0, 0) | .inr t18 => some (t18.1.1, t18.1.2.1)) else none | .inr t10 => some (t10.1.1, t10.1.2.1)) else none

def c85 : Ctr := ⟨[((.sl tNODE), .imm)], [((.int .i64), false), ((.int .i64), false)], Int × Int, fun x => valid_shape x.1, fun r => ((), (r.1, r.2, ())), none⟩

abbrev nat_Clean_i3 : SG := ⟨[(3, .o (.int .u64) 31), (9, .v (.sl (.int .u64))), (10, .v (.int .i64)), (11, .v (.int .i64))], []⟩
abbrev nat_Clean_o3 : List (Ex × SG) := [(.exit 0, ⟨[(3, .o (.int .u64) 31)], []⟩)]

def nat_Clean_s3 (g : (((List Int) × (List Int) × Int × Int × Unit) × Unit) → Option (((List Int) × Unit) × Unit)) : (((List Int) × (List Int) × Int × Int × Unit) × Unit) → Option (((List Int) × Unit) × Unit)
  | ((out_3, v_9, v_10, v_11, _), _) => bif (decide (v_11 < v_10)) then (bif decide (0 ≤ v_11) then (v_9[v_11.toNat]?).bind fun x1 => bif decide (0 ≤ v_11) && decide (v_11 < (out_3.length : Int)) then (out_3[v_11.toNat]?).bind fun _ => g (((out_3.set v_11.toNat (iand .u64 x1 4294967295)), v_9, v_10, (iadd .i64 v_11 1), ()), ()) else none else none) else (some ((out_3, ()), ()))

def nat_Clean (a_0 : List Int) : Option (List Int) :=
  bif decide ((a_0.length : Int) = (a_0.length : Int)) && decide (0 ≤ (a_0.length : Int)) && decide (((8 : Nat) : Int) * (a_0.length : Int) ≤ 281474976710656) && decide ((a_0.length : Int) ≤ 9223372036854775807) then (lp nat_Clean_s3 K0 (((List.replicate (a_0.length : Int).toNat (0 : Int)), a_0, (a_0.length : Int), 0, ()), ())).bind fun t3 => (nat_trim t3.1.1).bind fun r4 => some r4 else none

def c108 : Ctr := ⟨[((.sl (.int .u64)), .imm)], [((.sl (.int .u64)), true)], (List Int), fun x => nat_Clean x.1, fun r => ((), (r, ())), none⟩

def nat_To (a_0 : List Int) : Option (Int × Bool) :=
  (nat_Clean a_0).bind fun r1 => bif (decide ((r1.length : Int) = 0)) then (some (0, true)) else (bif (decide ((r1.length : Int) = 1)) then (bif decide ((0 : Int) < (r1.length : Int)) then (r1[0]?).bind fun x2 => some (x2, true) else none) else (bif (decide ((r1.length : Int) = 2)) then (bif decide ((1 : Int) < (r1.length : Int)) then (r1[1]?).bind fun x3 => bif decide ((0 : Int) < (r1.length : Int)) then (r1[0]?).bind fun x4 => some ((ior .u64 (shlV .u64 x3 32) x4), true) else none else none) else (some (0, false))))

def c164 : Ctr := ⟨[((.sl (.int .u64)), .imm)], [((.int .u64), false), (.bool, false)], Int × Bool, fun x => nat_To x.1, fun r => ((), (r.1, r.2, ())), none⟩

abbrev nat_euclid_i3 : SG := ⟨[(5, .v (.int .u64)), (7, .v (.int .u64))], []⟩
abbrev nat_euclid_o3 : List (Ex × SG) := [(.exit 0, ⟨[(5, .v (.int .u64))], []⟩)]

def nat_euclid_s3 (g : ((Int × Int × Unit) × Unit) → Option ((Int × Unit) × Unit)) : ((Int × Int × Unit) × Unit) → Option ((Int × Unit) × Unit)
  | ((x_5, y_7, _), _) => bif (!decide (y_7 = 0)) then (bif decide (y_7 = 0) then none else (g ((y_7, (irem x_5 y_7), ()), ()))) else (some ((x_5, ()), ()))

def nat_euclid (a_0 : List Int) (b_1 : List Int) : Option (List Int) :=
  (nat_To a_0).bind fun r1 => (nat_To b_1).bind fun r2 => (lp nat_euclid_s3 K0 ((r1.1, r2.1, ()), ())).bind fun t3 => (nat_Of t3.1.1).bind fun r4 => some r4

def c141 : Ctr := ⟨[((.sl (.int .u64)), .imm), ((.sl (.int .u64)), .imm)], [((.sl (.int .u64)), true)], (List Int), fun x => nat_euclid x.1 x.2.1, fun r => ((), (r, ())), none⟩

def tz64 (a0 : Int) : Option Int := bif decide (0 < a0) && decide (a0 < 18446744073709551616) then some ((tzN 64 a0.toNat : Nat) : Int) else none
def c165 : Ctr := ⟨[((.int .u64), .imm)], [((.int .i64), false)], Int, fun x => tz64 x.1, fun r => ((), (r, ())), none⟩

abbrev nat_zeros_i3 : SG := ⟨[(3, .v (.int .i64)), (6, .v (.sl (.int .u64))), (7, .v (.int .i64)), (8, .v (.int .i64))], []⟩
abbrev nat_zeros_o3 : List (Ex × SG) := [(.exit 0, ⟨[(3, .v (.int .i64))], []⟩), (.ret, ⟨[(2, .v (.int .i64))], []⟩)]

def nat_zeros_s3 (g : ((Int × (List Int) × Int × Int × Unit) × Unit) → Option (((Int × Unit) × Unit) ⊕ ((Int × Unit) × Unit))) : ((Int × (List Int) × Int × Int × Unit) × Unit) → Option (((Int × Unit) × Unit) ⊕ ((Int × Unit) × Unit))
  | ((n_3, v_6, v_7, v_8, _), _) => bif (decide (v_8 < v_7)) then (bif decide (0 ≤ v_8) then (v_6[v_8.toNat]?).bind fun x1 => bif (!decide (x1 = 0)) then ((tz64 x1).bind fun r2 => some (.inr (((iadd .i64 (imul .i64 32 v_8) r2), ()), ()))) else (g (((iadd .i64 n_3 32), v_6, v_7, (iadd .i64 v_8 1), ()), ())) else none) else (some (.inl ((n_3, ()), ())))

def nat_zeros (a_0 : List Int) : Option Int :=
  (lp nat_zeros_s3 K0 ((0, a_0, (a_0.length : Int), 0, ()), ())).bind fun t3 => (match t3 with | .inl t4 => some t4.1.1 | .inr t5 => some t5.1.1)

def c142 : Ctr := ⟨[((.sl (.int .u64)), .imm)], [((.int .i64), false)], Int, fun x => nat_zeros x.1, fun r => ((), (r, ())), none⟩

def nat_limb (a_0 : List Int) (i_1 : Int) : Option Int :=
  bif (decide (i_1 < (a_0.length : Int))) then (bif decide (0 ≤ i_1) then (a_0[i_1.toNat]?).bind fun x1 => some x1 else none) else (some 0)

def c150 : Ctr := ⟨[((.sl (.int .u64)), .imm), ((.int .i64), .imm)], [((.int .u64), false)], Int, fun x => nat_limb x.1 x.2.1, fun r => ((), (r, ())), none⟩

abbrev nat_shr_i6 : SG := ⟨[(0, .v (.sl (.int .u64))), (5, .v (.int .i64)), (6, .v (.int .i64)), (7, .o (.int .u64) 63), (23, .v (.int .i64)), (24, .v (.int .i64))], []⟩
abbrev nat_shr_o6 : List (Ex × SG) := [(.exit 0, ⟨[(7, .o (.int .u64) 63)], []⟩)]

def nat_shr_s6 (g : (((List Int) × Int × Int × (List Int) × Int × Int × Unit) × Unit) → Option (((List Int) × Unit) × Unit)) : (((List Int) × Int × Int × (List Int) × Int × Int × Unit) × Unit) → Option (((List Int) × Unit) × Unit)
  | ((a_0, words_5, s_6, out_7, v_23, v_24, _), _) => bif (decide (v_24 < v_23)) then ((nat_limb a_0 (iadd .i64 (iadd .i64 v_24 words_5) 1)).bind fun r1 => bif decide (0 ≤ (iadd .i64 v_24 words_5)) then (a_0[(iadd .i64 v_24 words_5).toNat]?).bind fun x2 => bif decide (s_6 < 0) then none else (bif decide (0 ≤ v_24) && decide (v_24 < (out_7.length : Int)) then (out_7[v_24.toNat]?).bind fun _ => g ((a_0, words_5, s_6, (out_7.set v_24.toNat (iand .u64 (shrV .u64 (ior .u64 (shlV .u64 r1 32) x2) s_6) 4294967295)), v_23, (iadd .i64 v_24 1), ()), ()) else none) else none) else (some ((out_7, ()), ()))

def nat_shr (a_0 : List Int) (n_1 : Int) : Option (List Int) :=
  bif (decide ((iquo .i64 n_1 32) ≥ (a_0.length : Int))) then (some ([])) else (bif decide ((isub .i64 (a_0.length : Int) (iquo .i64 n_1 32)) = (isub .i64 (a_0.length : Int) (iquo .i64 n_1 32))) && decide (0 ≤ (isub .i64 (a_0.length : Int) (iquo .i64 n_1 32))) && decide (((8 : Nat) : Int) * (isub .i64 (a_0.length : Int) (iquo .i64 n_1 32)) ≤ 281474976710656) && decide ((isub .i64 (a_0.length : Int) (iquo .i64 n_1 32)) ≤ 9223372036854775807) then (lp nat_shr_s6 K0 ((a_0, (iquo .i64 n_1 32), (irem n_1 32), (List.replicate (isub .i64 (a_0.length : Int) (iquo .i64 n_1 32)).toNat (0 : Int)), ((List.replicate (isub .i64 (a_0.length : Int) (iquo .i64 n_1 32)).toNat (0 : Int)).length : Int), 0, ()), ())).bind fun t4 => (nat_trim t4.1.1).bind fun r5 => some r5 else none)

def c143 : Ctr := ⟨[((.sl (.int .u64)), .imm), ((.int .i64), .imm)], [((.sl (.int .u64)), true)], (List Int), fun x => nat_shr x.1 x.2.1, fun r => ((), (r, ())), none⟩

abbrev nat_order_i6 : SG := ⟨[(0, .v (.sl (.int .u64))), (1, .v (.sl (.int .u64))), (5, .v (.int .i64))], []⟩
abbrev nat_order_o6 : List (Ex × SG) := [(.exit 1, ⟨[], []⟩), (.ret, ⟨[(4, .v (.int .i64))], []⟩)]

def nat_order_s6 (g : (((List Int) × (List Int) × Int × Unit) × Unit) → Option ((Unit × Unit) ⊕ ((Int × Unit) × Unit))) : (((List Int) × (List Int) × Int × Unit) × Unit) → Option ((Unit × Unit) ⊕ ((Int × Unit) × Unit))
  | ((a_0, b_1, i_5, _), _) => bif (decide (i_5 ≥ 0)) then (bif decide (0 ≤ i_5) then (a_0[i_5.toNat]?).bind fun x1 => bif decide (0 ≤ i_5) then (b_1[i_5.toNat]?).bind fun x2 => bif (decide (x1 < x2)) then (some (.inr (((-1), ()), ()))) else (bif decide (0 ≤ i_5) then (a_0[i_5.toNat]?).bind fun x3 => bif decide (0 ≤ i_5) then (b_1[i_5.toNat]?).bind fun x4 => bif (decide (x3 > x4)) then (some (.inr ((1, ()), ()))) else (g ((a_0, b_1, (isub .i64 i_5 1), ()), ())) else none else none) else none else none) else (some (.inl ((()), ())))

def nat_order (a_0 : List Int) (b_1 : List Int) : Option Int :=
  bif (decide ((a_0.length : Int) < (b_1.length : Int))) then (some (-1)) else (bif (decide ((a_0.length : Int) > (b_1.length : Int))) then (some 1) else ((lp nat_order_s6 K0 ((a_0, b_1, (isub .i64 (a_0.length : Int) 1), ()), ())).bind fun t5 => (match t5 with | .inl t6 => some 0 | .inr t7 => some t7.1.1)))

def c144 : Ctr := ⟨[((.sl (.int .u64)), .imm), ((.sl (.int .u64)), .imm)], [((.int .i64), false)], Int, fun x => nat_order x.1 x.2.1, fun r => ((), (r, ())), none⟩

abbrev nat_shl_i4 : SG := ⟨[(5, .v (.int .i64)), (6, .v (.int .i64)), (7, .o (.int .u64) 63), (20, .v (.sl (.int .u64))), (21, .v (.int .i64)), (22, .v (.int .i64))], []⟩
abbrev nat_shl_o4 : List (Ex × SG) := [(.exit 0, ⟨[(7, .o (.int .u64) 63)], []⟩)]

def nat_shl_s4 (g : ((Int × Int × (List Int) × (List Int) × Int × Int × Unit) × Unit) → Option (((List Int) × Unit) × Unit)) : ((Int × Int × (List Int) × (List Int) × Int × Int × Unit) × Unit) → Option (((List Int) × Unit) × Unit)
  | ((words_5, s_6, out_7, v_20, v_21, v_22, _), _) => bif (decide (v_22 < v_21)) then (bif decide (0 ≤ v_22) then (v_20[v_22.toNat]?).bind fun x1 => bif decide (s_6 < 0) then none else (bif decide (0 ≤ (iadd .i64 v_22 words_5)) && decide ((iadd .i64 v_22 words_5) < (out_7.length : Int)) then (out_7[(iadd .i64 v_22 words_5).toNat]?).bind fun x2 => bif decide (0 ≤ (iadd .i64 v_22 words_5)) && decide ((iadd .i64 v_22 words_5) < (out_7.length : Int)) then (out_7[(iadd .i64 v_22 words_5).toNat]?).bind fun _ => bif decide (0 ≤ (iadd .i64 (iadd .i64 v_22 words_5) 1)) && decide ((iadd .i64 (iadd .i64 v_22 words_5) 1) < ((out_7.set ((iadd .i64 v_22 words_5).toNat) (ior .u64 x2 (iand .u64 (shlV .u64 x1 s_6) 4294967295))).length : Int)) then ((out_7.set ((iadd .i64 v_22 words_5).toNat) (ior .u64 x2 (iand .u64 (shlV .u64 x1 s_6) 4294967295)))[(iadd .i64 (iadd .i64 v_22 words_5) 1).toNat]?).bind fun _ => g ((words_5, s_6, ((out_7.set ((iadd .i64 v_22 words_5).toNat) (ior .u64 x2 (iand .u64 (shlV .u64 x1 s_6) 4294967295))).set ((iadd .i64 (iadd .i64 v_22 words_5) 1).toNat) (shrV .u64 (shlV .u64 x1 s_6) 32)), v_20, v_21, (iadd .i64 v_22 1), ()), ()) else none else none else none) else none) else (some ((out_7, ()), ()))

def nat_shl (a_0 : List Int) (n_1 : Int) : Option (List Int) :=
  bif decide ((iadd .i64 (iadd .i64 (a_0.length : Int) (iquo .i64 n_1 32)) 1) = (iadd .i64 (iadd .i64 (a_0.length : Int) (iquo .i64 n_1 32)) 1)) && decide (0 ≤ (iadd .i64 (iadd .i64 (a_0.length : Int) (iquo .i64 n_1 32)) 1)) && decide (((8 : Nat) : Int) * (iadd .i64 (iadd .i64 (a_0.length : Int) (iquo .i64 n_1 32)) 1) ≤ 281474976710656) && decide ((iadd .i64 (iadd .i64 (a_0.length : Int) (iquo .i64 n_1 32)) 1) ≤ 9223372036854775807) then (lp nat_shl_s4 K0 (((iquo .i64 n_1 32), (irem n_1 32), (List.replicate (iadd .i64 (iadd .i64 (a_0.length : Int) (iquo .i64 n_1 32)) 1).toNat (0 : Int)), a_0, (a_0.length : Int), 0, ()), ())).bind fun t5 => (nat_trim t5.1.1).bind fun r6 => some r6 else none

def c145 : Ctr := ⟨[((.sl (.int .u64)), .imm), ((.int .i64), .imm)], [((.sl (.int .u64)), true)], (List Int), fun x => nat_shl x.1 x.2.1, fun r => ((), (r, ())), none⟩

abbrev nat_small_i4 : SG := ⟨[(0, .v (.sl (.int .u64))), (1, .v (.int .u64)), (6, .o (.int .u64) 55), (7, .v (.int .u64)), (8, .v (.int .i64))], []⟩
abbrev nat_small_o4 : List (Ex × SG) := [(.exit 0, ⟨[(6, .o (.int .u64) 55), (7, .v (.int .u64))], []⟩)]

def nat_small_s4 (g : (((List Int) × Int × (List Int) × Int × Int × Unit) × Unit) → Option (((List Int) × Int × Unit) × Unit)) : (((List Int) × Int × (List Int) × Int × Int × Unit) × Unit) → Option (((List Int) × Int × Unit) × Unit)
  | ((a_0, d_1, out_6, rest_7, i_8, _), _) => bif (decide (i_8 ≥ 0)) then (bif decide (0 ≤ i_8) then (a_0[i_8.toNat]?).bind fun x1 => bif decide (d_1 = 0) then none else (bif decide (0 ≤ i_8) && decide (i_8 < (out_6.length : Int)) then (out_6[i_8.toNat]?).bind fun _ => bif decide (d_1 = 0) then none else (g ((a_0, d_1, (out_6.set i_8.toNat (iquo .u64 (ior .u64 (shlV .u64 rest_7 32) x1) d_1)), (irem (ior .u64 (shlV .u64 rest_7 32) x1) d_1), (isub .i64 i_8 1), ()), ())) else none) else none) else (some ((out_6, rest_7, ()), ()))

def nat_small (a_0 : List Int) (d_1 : Int) : Option ((List Int) × Int) :=
  bif decide ((a_0.length : Int) = (a_0.length : Int)) && decide (0 ≤ (a_0.length : Int)) && decide (((8 : Nat) : Int) * (a_0.length : Int) ≤ 281474976710656) && decide ((a_0.length : Int) ≤ 9223372036854775807) then (lp nat_small_s4 K0 ((a_0, d_1, (List.replicate (a_0.length : Int).toNat (0 : Int)), 0, (isub .i64 (a_0.length : Int) 1), ()), ())).bind fun t3 => (nat_trim t3.1.1).bind fun r4 => some (r4, t3.1.2.1) else none

def c148 : Ctr := ⟨[((.sl (.int .u64)), .imm), ((.int .u64), .imm)], [((.sl (.int .u64)), true), ((.int .u64), false)], (List Int) × Int, fun x => nat_small x.1 x.2.1, fun r => ((), (r.1, r.2, ())), none⟩

def len32 (a0 : Int) : Option Int := bif decide (0 ≤ a0) && decide (a0 < 4294967296) then some ((lenN a0.toNat : Nat) : Int) else none
def c171 : Ctr := ⟨[((.int .u32), .imm)], [((.int .i64), false)], Int, fun x => len32 x.1, fun r => ((), (r, ())), none⟩

def bits_LeadingZeros32 (x_0 : Int) : Option Int :=
  (len32 x_0).bind fun r1 => some (isub .i64 32 r1)

def c166 : Ctr := ⟨[((.int .u32), .imm)], [((.int .i64), false)], Int, fun x => bits_LeadingZeros32 x.1, fun r => ((), (r, ())), none⟩

abbrev nat_take_i3 : SG := ⟨[(0, .l (.int .u64) 0), (1, .v (.sl (.int .u64))), (2, .v (.int .u64)), (7, .v (.int .u64)), (8, .v (.int .u64)), (12, .v (.int .i64)), (13, .v (.int .i64))], []⟩
abbrev nat_take_o3 : List (Ex × SG) := [(.exit 0, ⟨[(0, .l (.int .u64) 0), (8, .v (.int .u64))], []⟩)]

def nat_take_s3 (g : (((List Int) × (List Int) × Int × Int × Int × Int × Int × Unit) × Unit) → Option (((List Int) × Int × Unit) × Unit)) : (((List Int) × (List Int) × Int × Int × Int × Int × Int × Unit) × Unit) → Option (((List Int) × Int × Unit) × Unit)
  | ((u_0, v_1, times_2, carry_7, debt_8, v_12, v_13, _), _) => bif (decide (v_13 < v_12)) then ((nat_limb v_1 v_13).bind fun r1 => bif decide (0 ≤ v_13) && decide (v_13 < (u_0.length : Int)) then (u_0[v_13.toNat]?).bind fun x2 => bif decide (0 ≤ v_13) && decide (v_13 < (u_0.length : Int)) then (u_0[v_13.toNat]?).bind fun _ => g (((u_0.set v_13.toNat (iand .u64 (isub .u64 (isub .u64 (iadd .u64 4294967296 x2) (iand .u64 (iadd .u64 carry_7 (imul .u64 times_2 r1)) 4294967295)) debt_8) 4294967295)), v_1, times_2, (shrV .u64 (iadd .u64 carry_7 (imul .u64 times_2 r1)) 32), (isub .u64 1 (shrV .u64 (isub .u64 (isub .u64 (iadd .u64 4294967296 x2) (iand .u64 (iadd .u64 carry_7 (imul .u64 times_2 r1)) 4294967295)) debt_8) 32)), v_12, (iadd .i64 v_13 1), ()), ()) else none else none) else (some ((u_0, debt_8, ()), ()))

def nat_take (u_0 : List Int) (v_1 : List Int) (times_2 : Int) : Option ((List Int) × Bool) :=
  (lp nat_take_s3 K0 ((u_0, v_1, times_2, 0, 0, (u_0.length : Int), 0, ()), ())).bind fun t4 => (bif Nat.beq t4.1.1.length u_0.length then some (t4.1.1, ()) else none).bind fun l5 => some (l5.1, (decide (t4.1.2.1 = 1)))

def c172 : Ctr := ⟨[((.sl (.int .u64)), .lent), ((.sl (.int .u64)), .imm), ((.int .u64), .imm)], [(.bool, false)], (List Int) × Bool, fun x => nat_take x.1 x.2.1 x.2.2.1, fun r => ((r.1, ()), (r.2, ())), none⟩

abbrev nat_give_i2 : SG := ⟨[(0, .l (.int .u64) 0), (1, .v (.sl (.int .u64))), (4, .v (.int .u64)), (7, .v (.int .i64)), (8, .v (.int .i64))], []⟩
abbrev nat_give_o2 : List (Ex × SG) := [(.exit 0, ⟨[(0, .l (.int .u64) 0)], []⟩)]

def nat_give_s2 (g : (((List Int) × (List Int) × Int × Int × Int × Unit) × Unit) → Option (((List Int) × Unit) × Unit)) : (((List Int) × (List Int) × Int × Int × Int × Unit) × Unit) → Option (((List Int) × Unit) × Unit)
  | ((u_0, v_1, carry_4, v_7, v_8, _), _) => bif (decide (v_8 < v_7)) then (bif decide (0 ≤ v_8) && decide (v_8 < (u_0.length : Int)) then (u_0[v_8.toNat]?).bind fun x1 => (nat_limb v_1 v_8).bind fun r2 => bif decide (0 ≤ v_8) && decide (v_8 < (u_0.length : Int)) then (u_0[v_8.toNat]?).bind fun _ => g (((u_0.set v_8.toNat (iand .u64 (iadd .u64 carry_4 (iadd .u64 x1 r2)) 4294967295)), v_1, (shrV .u64 (iadd .u64 carry_4 (iadd .u64 x1 r2)) 32), v_7, (iadd .i64 v_8 1), ()), ()) else none else none) else (some ((u_0, ()), ()))

def nat_give (u_0 : List Int) (v_1 : List Int) : Option (List Int) :=
  (lp nat_give_s2 K0 ((u_0, v_1, 0, (u_0.length : Int), 0, ()), ())).bind fun t4 => (bif Nat.beq t4.1.1.length u_0.length then some (t4.1.1, ()) else none).bind fun l5 => some l5.1

def c173 : Ctr := ⟨[((.sl (.int .u64)), .lent), ((.sl (.int .u64)), .imm)], [], (List Int), fun x => nat_give x.1 x.2.1, fun r => ((r, ()), ()), none⟩

abbrev nat_digit_i4 : SG := ⟨[(0, .l (.int .u64) 0), (1, .v (.sl (.int .u64))), (5, .v (.int .i64)), (7, .v (.int .u64)), (8, .v (.int .u64))], []⟩
abbrev nat_digit_o4 : List (Ex × SG) := [(.exit 0, ⟨[(0, .l (.int .u64) 0), (1, .v (.sl (.int .u64))), (7, .v (.int .u64))], []⟩)]

def nat_digit_s4 (g : (((List Int) × (List Int) × Int × Int × Int × Unit) × Unit) → Option (((List Int) × (List Int) × Int × Unit) × Unit)) : (((List Int) × (List Int) × Int × Int × Int × Unit) × Unit) → Option (((List Int) × (List Int) × Int × Unit) × Unit)
  | ((v_0, v_1, v_5, v_7, v_8, _), _) => bif (decide (v_7 ≥ 4294967296)) then (bif decide (0 ≤ (isub .i64 v_5 1)) then (v_1[(isub .i64 v_5 1).toNat]?).bind fun x5 => bif (decide ((iadd .u64 v_8 x5) ≥ 4294967296)) then (some ((v_0, v_1, (isub .u64 v_7 1), ()), ())) else (g ((v_0, v_1, v_5, (isub .u64 v_7 1), (iadd .u64 v_8 x5), ()), ())) else none) else (bif decide (0 ≤ (isub .i64 v_5 2)) then (v_1[(isub .i64 v_5 2).toNat]?).bind fun x6 => bif decide (0 ≤ (isub .i64 v_5 2)) && decide ((isub .i64 v_5 2) < (v_0.length : Int)) then (v_0[(isub .i64 v_5 2).toNat]?).bind fun x7 => bif (decide ((imul .u64 v_7 x6) > (ior .u64 (shlV .u64 v_8 32) x7))) then (bif decide (0 ≤ (isub .i64 v_5 1)) then (v_1[(isub .i64 v_5 1).toNat]?).bind fun x8 => bif (decide ((iadd .u64 v_8 x8) ≥ 4294967296)) then (some ((v_0, v_1, (isub .u64 v_7 1), ()), ())) else (g ((v_0, v_1, v_5, (isub .u64 v_7 1), (iadd .u64 v_8 x8), ()), ())) else none) else (some ((v_0, v_1, v_7, ()), ())) else none else none)

def nat_digit (a_0 : List Int) (a_1 : List Int) : Option ((List Int) × Int) :=
  bif decide (0 ≤ (a_1.length : Int)) && decide ((a_1.length : Int) < (a_0.length : Int)) then (a_0[(a_1.length : Int).toNat]?).bind fun x1 => bif decide (0 ≤ (isub .i64 (a_1.length : Int) 1)) && decide ((isub .i64 (a_1.length : Int) 1) < (a_0.length : Int)) then (a_0[(isub .i64 (a_1.length : Int) 1).toNat]?).bind fun x2 => bif decide (0 ≤ (isub .i64 (a_1.length : Int) 1)) then (a_1[(isub .i64 (a_1.length : Int) 1).toNat]?).bind fun x3 => bif decide (x3 = 0) then none else (bif decide (0 ≤ (isub .i64 (a_1.length : Int) 1)) then (a_1[(isub .i64 (a_1.length : Int) 1).toNat]?).bind fun x4 => bif decide (x4 = 0) then none else ((lp nat_digit_s4 K0 ((a_0, a_1, (a_1.length : Int), (iquo .u64 (ior .u64 (shlV .u64 x1 32) x2) x3), (irem (ior .u64 (shlV .u64 x1 32) x2) x4), ()), ())).bind fun t9 => (nat_take t9.1.1 t9.1.2.1 t9.1.2.2.1).bind fun r10 => bif r10.2 then ((nat_give (over t9.1.1 0 r10.1) t9.1.2.1).bind fun r11 => (bif Nat.beq (over (over t9.1.1 0 r10.1) 0 r11).length a_0.length then some ((over (over t9.1.1 0 r10.1) 0 r11), ()) else none).bind fun l12 => some (l12.1, (isub .u64 t9.1.2.2.1 1))) else ((bif Nat.beq (over t9.1.1 0 r10.1).length a_0.length then some ((over t9.1.1 0 r10.1), ()) else none).bind fun l13 => some (l13.1, t9.1.2.2.1))) else none) else none else none else none

def c167 : Ctr := ⟨[((.sl (.int .u64)), .lent), ((.sl (.int .u64)), .imm)], [((.int .u64), false)], (List Int) × Int, fun x => nat_digit x.1 x.2.1, fun r => ((r.1, ()), (r.2, ())), none⟩

abbrev nat_long_i7 : SG := ⟨[(6, .v (.int .i64)), (7, .v (.sl (.int .u64))), (8, .o (.int .u64) 71), (9, .v (.int .i64)), (10, .o (.int .u64) 87), (11, .v (.int .i64))], []⟩
abbrev nat_long_o7 : List (Ex × SG) := [(.exit 0, ⟨[(6, .v (.int .i64)), (8, .o (.int .u64) 71), (10, .o (.int .u64) 87)], []⟩)]

def nat_long_s7 (g : ((Int × (List Int) × (List Int) × Int × (List Int) × Int × Unit) × Unit) → Option ((Int × (List Int) × (List Int) × Unit) × Unit)) : ((Int × (List Int) × (List Int) × Int × (List Int) × Int × Unit) × Unit) → Option ((Int × (List Int) × (List Int) × Unit) × Unit)
  | ((s_6, v_7, u_8, n_9, q_10, j_11, _), _) => bif (decide (j_11 ≥ 0)) then (bif decide (0 ≤ j_11) && decide ((j_11 : Int) ≤ (iadd .i64 (iadd .i64 j_11 n_9) 1)) && decide (((iadd .i64 (iadd .i64 j_11 n_9) 1) : Int) ≤ (iadd .i64 (iadd .i64 j_11 n_9) 1)) && decide (((iadd .i64 (iadd .i64 j_11 n_9) 1) : Int) ≤ (u_8.length : Int)) then (nat_digit ((u_8.drop j_11.toNat).take (((iadd .i64 (iadd .i64 j_11 n_9) 1) - j_11).toNat)) v_7).bind fun r5 => bif decide (0 ≤ j_11) && decide (j_11 < (q_10.length : Int)) then (q_10[j_11.toNat]?).bind fun _ => g ((s_6, v_7, (over u_8 j_11.toNat r5.1), n_9, (q_10.set j_11.toNat r5.2), (isub .i64 j_11 1), ()), ()) else none else none) else (some ((s_6, u_8, q_10, ()), ()))

def nat_long (a_0 : List Int) (b_1 : List Int) : Option ((List Int) × (List Int)) :=
  bif decide (0 ≤ (isub .i64 (b_1.length : Int) 1)) then (b_1[(isub .i64 (b_1.length : Int) 1).toNat]?).bind fun x1 => (bits_LeadingZeros32 (IntKind.wrap .u32 x1)).bind fun r2 => (nat_shl b_1 r2).bind fun r3 => (nat_shl a_0 r2).bind fun r4 => bif Nat.ble ((r4.length + 2) * 8) 140737488355328 && !false then bif decide ((0 : Int) ≤ (iadd .i64 (a_0.length : Int) 1)) && decide (((iadd .i64 (a_0.length : Int) 1) : Int) ≤ (iadd .i64 (a_0.length : Int) 1)) && decide (((iadd .i64 (a_0.length : Int) 1) : Int) ≤ ((r4 ++ ([0, 0] : List Int)).length : Int)) then bif decide ((isub .i64 (((iadd .i64 (a_0.length : Int) 1) - 0).toNat : Int) (r3.length : Int)) = (isub .i64 (((iadd .i64 (a_0.length : Int) 1) - 0).toNat : Int) (r3.length : Int))) && decide (0 ≤ (isub .i64 (((iadd .i64 (a_0.length : Int) 1) - 0).toNat : Int) (r3.length : Int))) && decide (((8 : Nat) : Int) * (isub .i64 (((iadd .i64 (a_0.length : Int) 1) - 0).toNat : Int) (r3.length : Int)) ≤ 281474976710656) && decide ((isub .i64 (((iadd .i64 (a_0.length : Int) 1) - 0).toNat : Int) (r3.length : Int)) ≤ 9223372036854775807) then (lp nat_long_s7 K0 ((r2, r3, ((r4 ++ ([0, 0] : List Int)).take (((iadd .i64 (a_0.length : Int) 1) - 0).toNat)), (r3.length : Int), (List.replicate (isub .i64 (((iadd .i64 (a_0.length : Int) 1) - 0).toNat : Int) (r3.length : Int)).toNat (0 : Int)), (isub .i64 ((List.replicate (isub .i64 (((iadd .i64 (a_0.length : Int) 1) - 0).toNat : Int) (r3.length : Int)).toNat (0 : Int)).length : Int) 1), ()), ())).bind fun t7 => (nat_trim t7.1.2.2.1).bind fun r8 => (nat_trim t7.1.2.1).bind fun r9 => (nat_shr r9 t7.1.1).bind fun r10 => some (r8, r10) else none else none else none else none

def c149 : Ctr := ⟨[((.sl (.int .u64)), .imm), ((.sl (.int .u64)), .imm)], [((.sl (.int .u64)), true), ((.sl (.int .u64)), true)], (List Int) × (List Int), fun x => nat_long x.1 x.2.1, fun r => ((), (r.1, r.2, ())), none⟩

def nat_DivMod (a_0 : List Int) (b_1 : List Int) : Option ((List Int) × (List Int) × Int) :=
  (nat_Clean a_0).bind fun r1 => (nat_Clean b_1).bind fun r2 => bif (decide ((r2.length : Int) = 0)) then (some ([], [], 2)) else ((nat_order r1 r2).bind fun r3 => bif (decide (r3 < 0)) then (some ([], r1, 0)) else (bif (decide ((r2.length : Int) = 1)) then (bif decide ((0 : Int) < (r2.length : Int)) then (r2[0]?).bind fun x4 => (nat_small r1 x4).bind fun r5 => (nat_Of r5.2).bind fun r6 => some (r5.1, r6, 0) else none) else ((nat_long r1 r2).bind fun r7 => some (r7.1, r7.2, 0))))

def c111 : Ctr := ⟨[((.sl (.int .u64)), .imm), ((.sl (.int .u64)), .imm)], [((.sl (.int .u64)), true), ((.sl (.int .u64)), false), ((.int .i64), false)], (List Int) × (List Int) × Int, fun x => nat_DivMod x.1 x.2.1, fun r => ((), (r.1, r.2.1, r.2.2, ())), none⟩

def nat_rest (a_0 : List Int) (b_1 : List Int) : Option ((List Int) × (List Int)) :=
  (nat_DivMod a_0 b_1).bind fun r1 => some (r1.1, r1.2.1)

def c146 : Ctr := ⟨[((.sl (.int .u64)), .imm), ((.sl (.int .u64)), .imm)], [((.sl (.int .u64)), true), ((.sl (.int .u64)), false)], (List Int) × (List Int), fun x => nat_rest x.1 x.2.1, fun r => ((), (r.1, r.2, ())), none⟩

abbrev nat_minus_i4 : SG := ⟨[(0, .v (.sl (.int .u64))), (1, .v (.sl (.int .u64))), (5, .o (.int .u64) 47), (6, .v (.int .u64)), (13, .v (.int .i64)), (14, .v (.int .i64))], []⟩
abbrev nat_minus_o4 : List (Ex × SG) := [(.exit 0, ⟨[(5, .o (.int .u64) 47)], []⟩)]

def nat_minus_s4 (g : (((List Int) × (List Int) × (List Int) × Int × Int × Int × Unit) × Unit) → Option (((List Int) × Unit) × Unit)) : (((List Int) × (List Int) × (List Int) × Int × Int × Int × Unit) × Unit) → Option (((List Int) × Unit) × Unit)
  | ((a_0, b_1, out_5, debt_6, v_13, v_14, _), _) => bif (decide (v_14 < v_13)) then (bif decide (0 ≤ v_14) then (a_0[v_14.toNat]?).bind fun x1 => (nat_limb b_1 v_14).bind fun r2 => bif decide (0 ≤ v_14) && decide (v_14 < (out_5.length : Int)) then (out_5[v_14.toNat]?).bind fun _ => g ((a_0, b_1, (out_5.set v_14.toNat (iand .u64 (isub .u64 (isub .u64 (iadd .u64 4294967296 x1) r2) debt_6) 4294967295)), (isub .u64 1 (shrV .u64 (isub .u64 (isub .u64 (iadd .u64 4294967296 x1) r2) debt_6) 32)), v_13, (iadd .i64 v_14 1), ()), ()) else none else none) else (some ((out_5, ()), ()))

def nat_minus (a_0 : List Int) (b_1 : List Int) : Option (List Int) :=
  bif decide ((a_0.length : Int) = (a_0.length : Int)) && decide (0 ≤ (a_0.length : Int)) && decide (((8 : Nat) : Int) * (a_0.length : Int) ≤ 281474976710656) && decide ((a_0.length : Int) ≤ 9223372036854775807) then (lp nat_minus_s4 K0 ((a_0, b_1, (List.replicate (a_0.length : Int).toNat (0 : Int)), 0, ((List.replicate (a_0.length : Int).toNat (0 : Int)).length : Int), 0, ()), ())).bind fun t4 => (nat_trim t4.1.1).bind fun r5 => some r5 else none

def c147 : Ctr := ⟨[((.sl (.int .u64)), .imm), ((.sl (.int .u64)), .imm)], [((.sl (.int .u64)), true)], (List Int), fun x => nat_minus x.1 x.2.1, fun r => ((), (r, ())), none⟩

abbrev nat_Gcd_i10 : SG := ⟨[(0, .o (.int .u64) 7), (1, .v (.sl (.int .u64))), (5, .v (.int .i64)), (6, .v (.int .i64))], []⟩
abbrev nat_Gcd_o10 : List (Ex × SG) := [(.ret, ⟨[(4, .o (.int .u64) 39)], []⟩)]

def nat_Gcd_s10 (g : (((List Int) × (List Int) × Int × Int × Unit) × Unit) → Option (((List Int) × Unit) × Unit)) : (((List Int) × (List Int) × Int × Int × Unit) × Unit) → Option (((List Int) × Unit) × Unit)
  | ((v_0, v_1, v_5, v_6, _), _) => (nat_order v_0 v_1).bind fun r8 => bif (decide (r8 = 0)) then ((nat_shl v_0 (mn v_5 v_6)).bind fun r9 => some ((r9, ()), ())) else (bif (decide (r8 < 0)) then (bif (decide ((v_1.length : Int) > (iadd .i64 (v_0.length : Int) 1))) then ((nat_rest v_1 v_0).bind fun r10 => bif (decide ((r10.2.length : Int) = 0)) then ((nat_shl v_0 (mn v_5 v_6)).bind fun r11 => some ((r11, ()), ())) else ((nat_zeros r10.2).bind fun r12 => (nat_shr r10.2 r12).bind fun r13 => g ((r13, v_0, v_5, v_6, ()), ()))) else ((nat_minus v_1 v_0).bind fun r14 => (nat_zeros r14).bind fun r15 => (nat_shr r14 r15).bind fun r16 => g ((r16, v_0, v_5, v_6, ()), ()))) else (bif (decide ((v_0.length : Int) > (iadd .i64 (v_1.length : Int) 1))) then ((nat_rest v_0 v_1).bind fun r17 => bif (decide ((r17.2.length : Int) = 0)) then ((nat_shl v_1 (mn v_5 v_6)).bind fun r18 => some ((r18, ()), ())) else ((nat_zeros r17.2).bind fun r19 => (nat_shr r17.2 r19).bind fun r20 => g ((r20, v_1, v_5, v_6, ()), ()))) else ((nat_minus v_0 v_1).bind fun r21 => (nat_zeros r21).bind fun r22 => (nat_shr r21 r22).bind fun r23 => g ((r23, v_1, v_5, v_6, ()), ()))))

def nat_Gcd (a_0 : List Int) (a_1 : List Int) : Option (List Int) :=
  (nat_Clean a_0).bind fun r1 => (nat_Clean a_1).bind fun r2 => bif (decide ((r1.length : Int) = 0)) then (some r2) else (bif (decide ((r2.length : Int) = 0)) then (some r1) else (bif (decide ((r1.length : Int) ≤ 2)) then (bif (decide ((r2.length : Int) ≤ 2)) then ((nat_euclid r1 r2).bind fun r3 => some r3) else ((nat_zeros r1).bind fun r4 => (nat_zeros r2).bind fun r5 => (nat_shr r1 r4).bind fun r6 => (nat_shr r2 r5).bind fun r7 => (lp nat_Gcd_s10 K0 ((r6, r7, r4, r5, ()), ())).bind fun t24 => some t24.1.1)) else ((nat_zeros r1).bind fun r25 => (nat_zeros r2).bind fun r26 => (nat_shr r1 r25).bind fun r27 => (nat_shr r2 r26).bind fun r28 => (lp nat_Gcd_s10 K0 ((r27, r28, r25, r26, ()), ())).bind fun t29 => some t29.1.1)))

def c110 : Ctr := ⟨[((.sl (.int .u64)), .imm), ((.sl (.int .u64)), .imm)], [((.sl (.int .u64)), true)], (List Int), fun x => nat_Gcd x.1 x.2.1, fun r => ((), (r, ())), none⟩

def ratio_form (num_0 : WH) (den_1 : List Int) : Option RAT :=
  bif (decide ((num_0.2.length : Int) = 0)) then ((nat_Of 1).bind fun r1 => some ((false, []), r1)) else ((nat_Gcd num_0.2 den_1).bind fun r2 => bif (decide ((r2.length : Int) = 1)) then (bif decide ((0 : Int) < (r2.length : Int)) then (r2[0]?).bind fun x3 => bif (decide (x3 = 1)) then (some (num_0, den_1)) else ((nat_DivMod num_0.2 r2).bind fun r4 => (nat_DivMod den_1 r2).bind fun r5 => some ((num_0.1, r4.1), r5.1)) else none) else ((nat_DivMod num_0.2 r2).bind fun r6 => (nat_DivMod den_1 r2).bind fun r7 => some ((num_0.1, r6.1), r7.1)))

def c71 : Ctr := ⟨[(tWH, .imm), ((.sl (.int .u64)), .imm)], [(tRAT, false)], RAT, fun x => ratio_form x.1 x.2.1, fun r => ((), (r, ())), none⟩

def whole_Clean (a_0 : WH) : Option WH :=
  (nat_Clean a_0.2).bind fun r1 => (whole_sign a_0.1 r1).bind fun r2 => some r2

def c109 : Ctr := ⟨[(tWH, .imm)], [(tWH, false)], WH, fun x => whole_Clean x.1, fun r => ((), (r, ())), none⟩

def ratio_Clean (a_0 : RAT) : Option RAT :=
  (nat_Clean a_0.2).bind fun r1 => bif (decide ((r1.length : Int) = 0)) then ((ratio_Zero ).bind fun r2 => some r2) else ((whole_Clean a_0.1).bind fun r3 => (ratio_form r3 r1).bind fun r4 => some r4)

def c70 : Ctr := ⟨[(tRAT, .imm)], [(tRAT, false)], RAT, fun x => ratio_Clean x.1, fun r => ((), (r, ())), none⟩

def whole_Sign (a_0 : WH) : Option Int :=
  (whole_Clean a_0).bind fun r1 => bif r1.1 then (some (-1)) else (bif (decide ((r1.2.length : Int) = 0)) then (some 0) else (some 1))

def c116 : Ctr := ⟨[(tWH, .imm)], [((.int .i64), false)], Int, fun x => whole_Sign x.1, fun r => ((), (r, ())), none⟩

def ratio_Sign (a_0 : RAT) : Option Int :=
  (ratio_Clean a_0).bind fun r1 => (whole_Sign r1.1).bind fun r2 => some r2

def c119 : Ctr := ⟨[(tRAT, .imm)], [((.int .i64), false)], Int, fun x => ratio_Sign x.1, fun r => ((), (r, ())), none⟩

abbrev valid_covers_i2 : SG := ⟨[(6, .v (.sl tNODE)), (7, .v (.int .i64)), (8, .v (.int .i64))], []⟩
abbrev valid_covers_o2 : List (Ex × SG) := [(.exit 0, ⟨[], []⟩), (.ret, ⟨[(2, .v (.int .i64)), (3, .v (.int .i64))], []⟩)]

def valid_covers_s2 (g : (((List NODE) × Int × Int × Unit) × Unit) → Option ((Unit × Unit) ⊕ ((Int × Int × Unit) × Unit))) : (((List NODE) × Int × Int × Unit) × Unit) → Option ((Unit × Unit) ⊕ ((Int × Int × Unit) × Unit))
  | ((v_6, v_7, v_8, _), _) => bif (decide (v_8 < v_7)) then (bif decide (0 ≤ v_8) then (v_6[v_8.toNat]?).bind fun x1 => (ratio_Sign x1.2.2.2.2.2.2.2).bind fun r2 => bif (decide (r2 ≤ 0)) then (some (.inr ((v_8, 12, ()), ()))) else (g ((v_6, v_7, (iadd .i64 v_8 1), ()), ())) else none) else (some (.inl ((()), ())))

def valid_covers (t_0 : List NODE) : Option (Int × Int) :=
  (lp valid_covers_s2 K0 ((t_0, (t_0.length : Int), 0, ()), ())).bind fun t3 => (match t3 with | .inl t4 => some (0, 0) | .inr t5 => some (t5.1.1, t5.1.2.1))

def c86 : Ctr := ⟨[((.sl tNODE), .imm)], [((.int .i64), false), ((.int .i64), false)], Int × Int, fun x => valid_covers x.1, fun r => ((), (r.1, r.2, ())), none⟩

abbrev nat_Mul_i8 : SG := ⟨[(1, .v (.sl (.int .u64))), (5, .o (.int .u64) 47), (6, .v (.int .i64)), (7, .v (.int .u64)), (8, .v (.int .u64)), (21, .o (.int .u64) 175), (22, .v (.int .i64)), (23, .v (.int .i64)), (28, .v (.sl (.int .u64))), (29, .v (.int .i64)), (30, .v (.int .i64))], []⟩
abbrev nat_Mul_o8 : List (Ex × SG) := [(.exit 2, ⟨[(1, .v (.sl (.int .u64))), (5, .o (.int .u64) 47), (6, .v (.int .i64)), (8, .v (.int .u64)), (21, .o (.int .u64) 175), (22, .v (.int .i64)), (23, .v (.int .i64))], []⟩)]

def nat_Mul_s8 (g : (((List Int) × (List Int) × Int × Int × Int × (List Int) × Int × Int × (List Int) × Int × Int × Unit) × Unit) → Option (((List Int) × (List Int) × Int × Int × (List Int) × Int × Int × Unit) × Unit)) : (((List Int) × (List Int) × Int × Int × Int × (List Int) × Int × Int × (List Int) × Int × Int × Unit) × Unit) → Option (((List Int) × (List Int) × Int × Int × (List Int) × Int × Int × Unit) × Unit)
  | ((v_1, v_5, v_6, v_7, v_8, v_21, v_22, v_23, v_28, v_29, v_30, _), _) => bif (decide (v_30 < v_29)) then (bif decide (0 ≤ v_30) then (v_28[v_30.toNat]?).bind fun x4 => bif decide (0 ≤ (iadd .i64 v_6 v_30)) && decide ((iadd .i64 v_6 v_30) < (v_5.length : Int)) then (v_5[(iadd .i64 v_6 v_30).toNat]?).bind fun x5 => bif decide (0 ≤ (iadd .i64 v_6 v_30)) && decide ((iadd .i64 v_6 v_30) < (v_5.length : Int)) then (v_5[(iadd .i64 v_6 v_30).toNat]?).bind fun _ => g ((v_1, (v_5.set ((iadd .i64 v_6 v_30).toNat) (iand .u64 (iadd .u64 v_8 (iadd .u64 x5 (imul .u64 v_7 x4))) 4294967295)), v_6, v_7, (shrV .u64 (iadd .u64 v_8 (iadd .u64 x5 (imul .u64 v_7 x4))) 32), v_21, v_22, v_23, v_28, v_29, (iadd .i64 v_30 1), ()), ()) else none else none else none) else (some ((v_1, v_5, v_6, v_8, v_21, v_22, v_23, ()), ()))

abbrev nat_Mul_i4 : SG := ⟨[(1, .v (.sl (.int .u64))), (5, .o (.int .u64) 47), (21, .o (.int .u64) 175), (22, .v (.int .i64)), (23, .v (.int .i64))], []⟩
abbrev nat_Mul_o4 : List (Ex × SG) := [(.exit 0, ⟨[(5, .o (.int .u64) 47)], []⟩)]

def nat_Mul_s4 (g : (((List Int) × (List Int) × (List Int) × Int × Int × Unit) × Unit) → Option (((List Int) × Unit) × Unit)) : (((List Int) × (List Int) × (List Int) × Int × Int × Unit) × Unit) → Option (((List Int) × Unit) × Unit)
  | ((v_1, v_5, v_21, v_22, v_23, _), _) => bif (decide (v_23 < v_22)) then (bif decide (0 ≤ v_23) && decide (v_23 < (v_21.length : Int)) then (v_21[v_23.toNat]?).bind fun x3 => (lp nat_Mul_s8 K0 ((v_1, v_5, v_23, x3, 0, v_21, v_22, v_23, v_1, (v_1.length : Int), 0, ()), ())).bind fun t7 => bif decide (0 ≤ (iadd .i64 t7.1.2.2.1 (t7.1.1.length : Int))) && decide ((iadd .i64 t7.1.2.2.1 (t7.1.1.length : Int)) < (t7.1.2.1.length : Int)) then (t7.1.2.1[(iadd .i64 t7.1.2.2.1 (t7.1.1.length : Int)).toNat]?).bind fun _ => g ((t7.1.1, (t7.1.2.1.set ((iadd .i64 t7.1.2.2.1 (t7.1.1.length : Int)).toNat) t7.1.2.2.2.1), t7.1.2.2.2.2.1, t7.1.2.2.2.2.2.1, (iadd .i64 t7.1.2.2.2.2.2.2.1 1), ()), ()) else none else none) else (some ((v_5, ()), ()))

def nat_Mul (a_0 : List Int) (a_1 : List Int) : Option (List Int) :=
  (nat_Clean a_0).bind fun r1 => (nat_Clean a_1).bind fun r2 => bif decide ((iadd .i64 (r1.length : Int) (r2.length : Int)) = (iadd .i64 (r1.length : Int) (r2.length : Int))) && decide (0 ≤ (iadd .i64 (r1.length : Int) (r2.length : Int))) && decide (((8 : Nat) : Int) * (iadd .i64 (r1.length : Int) (r2.length : Int)) ≤ 281474976710656) && decide ((iadd .i64 (r1.length : Int) (r2.length : Int)) ≤ 9223372036854775807) then (lp nat_Mul_s4 K0 ((r2, (List.replicate (iadd .i64 (r1.length : Int) (r2.length : Int)).toNat (0 : Int)), r1, (r1.length : Int), 0, ()), ())).bind fun t9 => (nat_trim t9.1.1).bind fun r10 => some r10 else none

def c75 : Ctr := ⟨[((.sl (.int .u64)), .imm), ((.sl (.int .u64)), .imm)], [((.sl (.int .u64)), true)], (List Int), fun x => nat_Mul x.1 x.2.1, fun r => ((), (r, ())), none⟩

def whole_Mul (a_0 : WH) (b_1 : WH) : Option WH :=
  (whole_Clean a_0).bind fun r1 => (whole_Clean b_1).bind fun r2 => (nat_Mul r1.2 r2.2).bind fun r3 => (whole_sign (!(r1.1 == r2.1)) r3).bind fun r4 => some r4

def c73 : Ctr := ⟨[(tWH, .imm), (tWH, .imm)], [(tWH, false)], WH, fun x => whole_Mul x.1 x.2.1, fun r => ((), (r, ())), none⟩

def ratio_den (a_0 : RAT) : Option WH :=
  some (false, a_0.2)

def c74 : Ctr := ⟨[(tRAT, .imm)], [(tWH, false)], WH, fun x => ratio_den x.1, fun r => ((), (r, ())), none⟩

def nat_Cmp (a_0 : List Int) (b_1 : List Int) : Option Int :=
  (nat_Clean a_0).bind fun r1 => (nat_Clean b_1).bind fun r2 => (nat_order r1 r2).bind fun r3 => some r3

def c114 : Ctr := ⟨[((.sl (.int .u64)), .imm), ((.sl (.int .u64)), .imm)], [((.int .i64), false)], Int, fun x => nat_Cmp x.1 x.2.1, fun r => ((), (r, ())), none⟩

def whole_Cmp (a_0 : WH) (b_1 : WH) : Option Int :=
  (whole_Clean a_0).bind fun r1 => (whole_Clean b_1).bind fun r2 => bif (!(r1.1 == r2.1)) then (bif r1.1 then (some (-1)) else (bif (!(r1.1 == r2.1)) then (some 1) else (bif r1.1 then ((nat_Cmp r2.2 r1.2).bind fun r3 => some r3) else ((nat_Cmp r1.2 r2.2).bind fun r4 => some r4)))) else (bif (!(r1.1 == r2.1)) then (some 1) else (bif r1.1 then ((nat_Cmp r2.2 r1.2).bind fun r5 => some r5) else ((nat_Cmp r1.2 r2.2).bind fun r6 => some r6)))

def c92 : Ctr := ⟨[(tWH, .imm), (tWH, .imm)], [((.int .i64), false)], Int, fun x => whole_Cmp x.1 x.2.1, fun r => ((), (r, ())), none⟩

def ratio_Cmp (a_0 : RAT) (b_1 : RAT) : Option Int :=
  (ratio_Clean a_0).bind fun r1 => (ratio_Clean b_1).bind fun r2 => (ratio_den r2).bind fun r3 => (whole_Mul r1.1 r3).bind fun r4 => (ratio_den r1).bind fun r5 => (whole_Mul r2.1 r5).bind fun r6 => (whole_Cmp r4 r6).bind fun r7 => some r7

def c52 : Ctr := ⟨[(tRAT, .imm), (tRAT, .imm)], [((.int .i64), false)], Int, fun x => ratio_Cmp x.1 x.2.1, fun r => ((), (r, ())), none⟩

def ratio_Same (a_0 : RAT) (b_1 : RAT) : Option Bool :=
  (ratio_Cmp a_0 b_1).bind fun r1 => some (decide (r1 = 0))

def c15 : Ctr := ⟨[(tRAT, .imm), (tRAT, .imm)], [(.bool, false)], Bool, fun x => ratio_Same x.1 x.2.1, fun r => ((), (r, ())), none⟩

abbrev nat_Add_i5 : SG := ⟨[(0, .v (.sl (.int .u64))), (1, .v (.sl (.int .u64))), (5, .o (.int .u64) 47), (6, .v (.int .u64)), (20, .v (.int .i64)), (21, .v (.int .i64))], []⟩
abbrev nat_Add_o5 : List (Ex × SG) := [(.exit 0, ⟨[(5, .o (.int .u64) 47)], []⟩)]

def nat_Add_s5 (g : (((List Int) × (List Int) × (List Int) × Int × Int × Int × Unit) × Unit) → Option (((List Int) × Unit) × Unit)) : (((List Int) × (List Int) × (List Int) × Int × Int × Int × Unit) × Unit) → Option (((List Int) × Unit) × Unit)
  | ((a_0, b_1, out_5, carry_6, v_20, v_21, _), _) => bif (decide (v_21 < v_20)) then ((nat_limb a_0 v_21).bind fun r3 => (nat_limb b_1 v_21).bind fun r4 => bif decide (0 ≤ v_21) && decide (v_21 < (out_5.length : Int)) then (out_5[v_21.toNat]?).bind fun _ => g ((a_0, b_1, (out_5.set v_21.toNat (iand .u64 (iadd .u64 carry_6 (iadd .u64 r3 r4)) 4294967295)), (shrV .u64 (iadd .u64 carry_6 (iadd .u64 r3 r4)) 32), v_20, (iadd .i64 v_21 1), ()), ()) else none) else (some ((out_5, ()), ()))

def nat_Add (a_0 : List Int) (b_1 : List Int) : Option (List Int) :=
  (nat_Clean a_0).bind fun r1 => (nat_Clean b_1).bind fun r2 => bif decide ((iadd .i64 (mx (r1.length : Int) (r2.length : Int)) 1) = (iadd .i64 (mx (r1.length : Int) (r2.length : Int)) 1)) && decide (0 ≤ (iadd .i64 (mx (r1.length : Int) (r2.length : Int)) 1)) && decide (((8 : Nat) : Int) * (iadd .i64 (mx (r1.length : Int) (r2.length : Int)) 1) ≤ 281474976710656) && decide ((iadd .i64 (mx (r1.length : Int) (r2.length : Int)) 1) ≤ 9223372036854775807) then (lp nat_Add_s5 K0 ((r1, r2, (List.replicate (iadd .i64 (mx (r1.length : Int) (r2.length : Int)) 1).toNat (0 : Int)), 0, ((List.replicate (iadd .i64 (mx (r1.length : Int) (r2.length : Int)) 1).toNat (0 : Int)).length : Int), 0, ()), ())).bind fun t6 => (nat_trim t6.1.1).bind fun r7 => some r7 else none

def c113 : Ctr := ⟨[((.sl (.int .u64)), .imm), ((.sl (.int .u64)), .imm)], [((.sl (.int .u64)), true)], (List Int), fun x => nat_Add x.1 x.2.1, fun r => ((), (r, ())), none⟩

def nat_Sub (a_0 : List Int) (b_1 : List Int) : Option ((List Int) × Int) :=
  (nat_Clean a_0).bind fun r1 => (nat_Clean b_1).bind fun r2 => (nat_order r1 r2).bind fun r3 => bif (decide (r3 < 0)) then (some ([], 3)) else ((nat_minus r1 r2).bind fun r4 => some (r4, 0))

def c115 : Ctr := ⟨[((.sl (.int .u64)), .imm), ((.sl (.int .u64)), .imm)], [((.sl (.int .u64)), true), ((.int .i64), false)], (List Int) × Int, fun x => nat_Sub x.1 x.2.1, fun r => ((), (r.1, r.2, ())), none⟩

def whole_Add (a_0 : WH) (b_1 : WH) : Option WH :=
  (whole_Clean a_0).bind fun r1 => (whole_Clean b_1).bind fun r2 => bif (r1.1 == r2.1) then ((nat_Add r1.2 r2.2).bind fun r3 => (whole_sign r1.1 r3).bind fun r4 => some r4) else ((nat_Cmp r1.2 r2.2).bind fun r5 => bif (decide (r5 < 0)) then ((nat_Sub r2.2 r1.2).bind fun r6 => (whole_sign r2.1 r6.1).bind fun r7 => some r7) else ((nat_Sub r1.2 r2.2).bind fun r8 => (whole_sign r1.1 r8.1).bind fun r9 => some r9))

def c72 : Ctr := ⟨[(tWH, .imm), (tWH, .imm)], [(tWH, false)], WH, fun x => whole_Add x.1 x.2.1, fun r => ((), (r, ())), none⟩

def ratio_Add (a_0 : RAT) (b_1 : RAT) : Option RAT :=
  (ratio_Clean a_0).bind fun r1 => (ratio_Clean b_1).bind fun r2 => (ratio_den r2).bind fun r3 => (whole_Mul r1.1 r3).bind fun r4 => (ratio_den r1).bind fun r5 => (whole_Mul r2.1 r5).bind fun r6 => (whole_Add r4 r6).bind fun r7 => (nat_Mul r1.2 r2.2).bind fun r8 => (ratio_form r7 r8).bind fun r9 => some r9

def c37 : Ctr := ⟨[(tRAT, .imm), (tRAT, .imm)], [(tRAT, false)], RAT, fun x => ratio_Add x.1 x.2.1, fun r => ((), (r, ())), none⟩

abbrev valid_sums_i2 : SG := ⟨[(0, .v (.sl tNODE)), (6, .v (.sl tNODE)), (7, .v (.int .i64)), (8, .v (.int .i64))], []⟩
abbrev valid_sums_o2 : List (Ex × SG) := [(.exit 0, ⟨[], []⟩), (.ret, ⟨[(2, .v (.int .i64)), (3, .v (.int .i64))], []⟩)]

def valid_sums_s2 (g : (((List NODE) × (List NODE) × Int × Int × Unit) × Unit) → Option ((Unit × Unit) ⊕ ((Int × Int × Unit) × Unit))) : (((List NODE) × (List NODE) × Int × Int × Unit) × Unit) → Option ((Unit × Unit) ⊕ ((Int × Int × Unit) × Unit))
  | ((t_0, v_6, v_7, v_8, _), _) => bif (decide (v_8 < v_7)) then (bif decide (0 ≤ v_8) then (v_6[v_8.toNat]?).bind fun x1 => bif (!x1.1) then (bif decide (0 ≤ x1.2.2.2.1) then (t_0[x1.2.2.2.1.toNat]?).bind fun x2 => bif decide (0 ≤ x1.2.2.2.2.1) then (t_0[x1.2.2.2.2.1.toNat]?).bind fun x3 => (ratio_Add x2.2.2.2.2.2.2.2 x3.2.2.2.2.2.2.2).bind fun r4 => (ratio_Same x1.2.2.2.2.2.2.2 r4).bind fun r5 => bif (!r5) then (some (.inr ((v_8, 13, ()), ()))) else (g ((t_0, v_6, v_7, (iadd .i64 v_8 1), ()), ())) else none else none) else (g ((t_0, v_6, v_7, (iadd .i64 v_8 1), ()), ())) else none) else (some (.inl ((()), ())))

def valid_sums (t_0 : List NODE) : Option (Int × Int) :=
  (lp valid_sums_s2 K0 ((t_0, t_0, (t_0.length : Int), 0, ()), ())).bind fun t6 => (match t6 with | .inl t7 => some (0, 0) | .inr t8 => some (t8.1.1, t8.1.2.1))

def c87 : Ctr := ⟨[((.sl tNODE), .imm)], [((.int .i64), false), ((.int .i64), false)], Int × Int, fun x => valid_sums x.1, fun r => ((), (r.1, r.2, ())), none⟩

def valid_fault (e_0 : Int) (tree_1 : Int) (node_2 : Int) : Option (Int × Int × Int × Int) :=
  some (e_0, (0, (tree_1, node_2)))

def c88 : Ctr := ⟨[((.int .i64), .imm), ((.int .i64), .imm), ((.int .i64), .imm)], [((.pair (.int .i64) (.pair (.int .i64) (.pair (.int .i64) (.int .i64)))), false)], (Int × Int × Int × Int), fun x => valid_fault x.1 x.2.1 x.2.2.1, fun r => ((), (r, ())), none⟩

abbrev valid_Check_i7 : SG := ⟨[(1, .p 8 0 0), (2, .p 16 0 0), (3, .v (.int .i64)), (12, .v (.int .i64)), (16, .v (.sl (.sl tNODE))), (17, .v (.int .i64)), (18, .v (.int .i64))], [(8, [.v (.int .i64), .v (.sl (.sl tNODE))]), (16, [.v (.int .i64), .v (.int .i64), .v (.int .i64), .v (.int .i64)])]⟩
abbrev valid_Check_o7 : List (Ex × SG) := [(.exit 2, ⟨[(1, .p 8 0 0), (2, .p 16 0 0), (12, .v (.int .i64))], [(8, [.v (.int .i64), .v (.sl (.sl tNODE))]), (16, [.v (.int .i64), .v (.int .i64), .v (.int .i64), .v (.int .i64)])]⟩), (.ret, ⟨[(2, .p 16 0 0)], [(16, [.v (.int .i64), .v (.int .i64), .v (.int .i64), .v (.int .i64)])]⟩)]

def valid_Check_s7 (g : ((Int × Int × (List (List NODE)) × Int × Int × Unit) × ((Int × (List (List NODE)) × Unit) × (Int × Int × Int × Int × Unit) × Unit)) → Option (((Int × Unit) × ((Int × (List (List NODE)) × Unit) × (Int × Int × Int × Int × Unit) × Unit)) ⊕ (Unit × ((Int × Int × Int × Int × Unit) × Unit)))) : ((Int × Int × (List (List NODE)) × Int × Int × Unit) × ((Int × (List (List NODE)) × Unit) × (Int × Int × Int × Int × Unit) × Unit)) → Option (((Int × Unit) × ((Int × (List (List NODE)) × Unit) × (Int × Int × Int × Int × Unit) × Unit)) ⊕ (Unit × ((Int × Int × Int × Int × Unit) × Unit)))
  | ((rule_3, v_12, v_16, v_17, v_18, _), ((b8_0, b8_1, _), (b16_0, b16_1, b16_2, b16_3, _), _)) => bif (decide (v_18 < v_17)) then (bif decide (0 ≤ v_18) then (v_16[v_18.toNat]?).bind fun x2 => bif (decide (rule_3 = 0)) then ((valid_ranges x2 b8_0).bind fun r3 => bif (!decide (r3.2 = 0)) then ((valid_fault r3.2 v_18 r3.1).bind fun r4 => some (.inr ((()), ((r4.1, r4.2.1, r4.2.2.1, r4.2.2.2, ()), ())))) else (g ((rule_3, v_12, v_16, v_17, (iadd .i64 v_18 1), ()), ((b8_0, b8_1, ()), (b16_0, b16_1, b16_2, b16_3, ()), ())))) else (bif (decide (rule_3 = 1)) then ((valid_shape x2).bind fun r5 => bif (!decide (r5.2 = 0)) then ((valid_fault r5.2 v_18 r5.1).bind fun r6 => some (.inr ((()), ((r6.1, r6.2.1, r6.2.2.1, r6.2.2.2, ()), ())))) else (g ((rule_3, v_12, v_16, v_17, (iadd .i64 v_18 1), ()), ((b8_0, b8_1, ()), (b16_0, b16_1, b16_2, b16_3, ()), ())))) else (bif (decide (rule_3 = 2)) then ((valid_covers x2).bind fun r7 => bif (!decide (r7.2 = 0)) then ((valid_fault r7.2 v_18 r7.1).bind fun r8 => some (.inr ((()), ((r8.1, r8.2.1, r8.2.2.1, r8.2.2.2, ()), ())))) else (g ((rule_3, v_12, v_16, v_17, (iadd .i64 v_18 1), ()), ((b8_0, b8_1, ()), (b16_0, b16_1, b16_2, b16_3, ()), ())))) else (bif (decide (rule_3 = 3)) then ((valid_sums x2).bind fun r9 => bif (!decide (r9.2 = 0)) then ((valid_fault r9.2 v_18 r9.1).bind fun r10 => some (.inr ((()), ((r10.1, r10.2.1, r10.2.2.1, r10.2.2.2, ()), ())))) else (g ((rule_3, v_12, v_16, v_17, (iadd .i64 v_18 1), ()), ((b8_0, b8_1, ()), (b16_0, b16_1, b16_2, b16_3, ()), ())))) else (bif (!decide ((0 : Int) = 0)) then ((valid_fault 0 v_18 0).bind fun r11 => some (.inr ((()), ((r11.1, r11.2.1, r11.2.2.1, r11.2.2.2, ()), ())))) else (g ((rule_3, v_12, v_16, v_17, (iadd .i64 v_18 1), ()), ((b8_0, b8_1, ()), (b16_0, b16_1, b16_2, b16_3, ()), ()))))))) else none) else (some (.inl ((v_12, ()), ((b8_0, b8_1, ()), (b16_0, b16_1, b16_2, b16_3, ()), ()))))

abbrev valid_Check_i4 : SG := ⟨[(1, .p 8 0 0), (2, .p 16 0 0), (12, .v (.int .i64))], [(8, [.v (.int .i64), .v (.sl (.sl tNODE))]), (16, [.v (.int .i64), .v (.int .i64), .v (.int .i64), .v (.int .i64)])]⟩
abbrev valid_Check_o4 : List (Ex × SG) := [(.exit 0, ⟨[(2, .p 16 0 0)], [(16, [.v (.int .i64), .v (.int .i64), .v (.int .i64), .v (.int .i64)])]⟩), (.ret, ⟨[(2, .p 16 0 0)], [(16, [.v (.int .i64), .v (.int .i64), .v (.int .i64), .v (.int .i64)])]⟩)]

def valid_Check_s4 (g : ((Int × Unit) × ((Int × (List (List NODE)) × Unit) × (Int × Int × Int × Int × Unit) × Unit)) → Option ((Unit × ((Int × Int × Int × Int × Unit) × Unit)) ⊕ (Unit × ((Int × Int × Int × Int × Unit) × Unit)))) : ((Int × Unit) × ((Int × (List (List NODE)) × Unit) × (Int × Int × Int × Int × Unit) × Unit)) → Option ((Unit × ((Int × Int × Int × Int × Unit) × Unit)) ⊕ (Unit × ((Int × Int × Int × Int × Unit) × Unit)))
  | ((v_12, _), ((b8_0, b8_1, _), (b16_0, b16_1, b16_2, b16_3, _), _)) => bif (decide (v_12 < 4)) then ((lp valid_Check_s7 K0 ((v_12, v_12, b8_1, (b8_1.length : Int), 0, ()), ((b8_0, b8_1, ()), (b16_0, b16_1, b16_2, b16_3, ()), ()))).bind fun t12 => (match t12 with | .inl t13 => g (((iadd .i64 t13.1.1 1), ()), ((t13.2.1.1, t13.2.1.2.1, ()), (t13.2.2.1.1, t13.2.2.1.2.1, t13.2.2.1.2.2.1, t13.2.2.1.2.2.2.1, ()), ())) | .inr t14 => some (.inr ((()), ((t14.2.1.1, t14.2.1.2.1, t14.2.1.2.2.1, t14.2.1.2.2.2.1, ()), ()))))) else (some (.inl ((()), ((b16_0, b16_1, b16_2, b16_3, ()), ()))))

def valid_Check (m_0 : MODEL) : Option (Int × Int × Int × Int) :=
  (model_Fits m_0).bind fun r1 => bif (!r1) then (some (1, (0, (0, 0)))) else ((lp valid_Check_s4 K0 ((0, ()), ((m_0.1, m_0.2, ()), (0, 0, 0, 0, ()), ()))).bind fun t15 => (match t15 with | .inl t16 => some (0, (0, (0, 0))) | .inr t17 => some (t17.2.1.1, (t17.2.1.2.1, (t17.2.1.2.2.1, t17.2.1.2.2.2.1)))))

def c46 : Ctr := ⟨[(tMODEL, .imm)], [((.pair (.int .i64) (.pair (.int .i64) (.pair (.int .i64) (.int .i64)))), false)], (Int × Int × Int × Int), fun x => valid_Check x.1, fun r => ((), (r, ())), none⟩

def valid_Ok (m_0 : MODEL) : Option Bool :=
  (valid_Check m_0).bind fun r1 => some (decide (r1.1 = 0) && (decide (r1.2.1 = 0) && (decide (r1.2.2.1 = 0) && (decide (r1.2.2.2 = 0) && true))))

def c10 : Ctr := ⟨[(tMODEL, .imm)], [(.bool, false)], Bool, fun x => valid_Ok x.1, fun r => ((), (r, ())), none⟩

abbrev route_put_i2 : SG := ⟨[(0, .o tRAT 7), (3, .p 24 0 0), (5, .v (.int .i64))], [(24, [.v .bool, .v (.sl (.int .u64)), .v (.sl (.int .u64))])]⟩
abbrev route_put_o2 : List (Ex × SG) := [(.exit 0, ⟨[(0, .o tRAT 7), (3, .p 24 0 0), (5, .v (.int .i64))], [(24, [.v .bool, .v (.sl (.int .u64)), .v (.sl (.int .u64))])]⟩)]

def route_put_s2 (g : (((List RAT) × Int × Unit) × ((Bool × (List Int) × (List Int) × Unit) × Unit)) → Option (((List RAT) × Int × Unit) × ((Bool × (List Int) × (List Int) × Unit) × Unit))) : (((List RAT) × Int × Unit) × ((Bool × (List Int) × (List Int) × Unit) × Unit)) → Option (((List RAT) × Int × Unit) × ((Bool × (List Int) × (List Int) × Unit) × Unit))
  | ((l_0, at_5, _), ((b24_0, b24_1, b24_2, _), _)) => bif (decide (at_5 < (l_0.length : Int))) then (bif decide (0 ≤ at_5) && decide (at_5 < (l_0.length : Int)) then (l_0[at_5.toNat]?).bind fun x1 => (ratio_Cmp x1 ((b24_0, b24_1), b24_2)).bind fun r2 => bif (decide (r2 < 0)) then (g ((l_0, (iadd .i64 at_5 1), ()), ((b24_0, b24_1, b24_2, ()), ()))) else (some ((l_0, at_5, ()), ((b24_0, b24_1, b24_2, ()), ()))) else none) else (some ((l_0, at_5, ()), ((b24_0, b24_1, b24_2, ()), ())))

def route_put (l_0 : List RAT) (x_1 : RAT) : Option (List RAT) :=
  (lp route_put_s2 K0 ((l_0, 0, ()), ((x_1.1.1, x_1.1.2, x_1.2, ()), ()))).bind fun t3 => bif (decide (t3.1.2.1 < (t3.1.1.length : Int))) then (bif decide (0 ≤ t3.1.2.1) && decide (t3.1.2.1 < (t3.1.1.length : Int)) then (t3.1.1[t3.1.2.1.toNat]?).bind fun x4 => (ratio_Same x4 ((t3.2.1.1, t3.2.1.2.1), t3.2.1.2.2.1)).bind fun r5 => bif r5 then (some t3.1.1) else (bif Nat.ble ((t3.1.1.length + 1) * 56) 140737488355328 && !false then bif decide (0 ≤ (iadd .i64 t3.1.2.1 1)) && decide (((iadd .i64 t3.1.2.1 1) : Int) ≤ ((t3.1.1 ++ ([((t3.2.1.1, t3.2.1.2.1), t3.2.1.2.2.1)] : List RAT)).length : Int)) then bif decide (0 ≤ t3.1.2.1) && decide ((t3.1.2.1 : Int) ≤ ((t3.1.1 ++ ([((t3.2.1.1, t3.2.1.2.1), t3.2.1.2.2.1)] : List RAT)).length : Int)) then bif decide (0 ≤ t3.1.2.1) && decide (t3.1.2.1 < ((over (t3.1.1 ++ ([((t3.2.1.1, t3.2.1.2.1), t3.2.1.2.2.1)] : List RAT)) ((iadd .i64 t3.1.2.1 1).toNat) (((t3.1.1 ++ ([((t3.2.1.1, t3.2.1.2.1), t3.2.1.2.2.1)] : List RAT)).drop t3.1.2.1.toNat).take ((t3.1.1 ++ ([((t3.2.1.1, t3.2.1.2.1), t3.2.1.2.2.1)] : List RAT)).drop ((iadd .i64 t3.1.2.1 1).toNat)).length)).length : Int)) then ((over (t3.1.1 ++ ([((t3.2.1.1, t3.2.1.2.1), t3.2.1.2.2.1)] : List RAT)) ((iadd .i64 t3.1.2.1 1).toNat) (((t3.1.1 ++ ([((t3.2.1.1, t3.2.1.2.1), t3.2.1.2.2.1)] : List RAT)).drop t3.1.2.1.toNat).take ((t3.1.1 ++ ([((t3.2.1.1, t3.2.1.2.1), t3.2.1.2.2.1)] : List RAT)).drop ((iadd .i64 t3.1.2.1 1).toNat)).length))[t3.1.2.1.toNat]?).bind fun _ => some ((over (t3.1.1 ++ ([((t3.2.1.1, t3.2.1.2.1), t3.2.1.2.2.1)] : List RAT)) ((iadd .i64 t3.1.2.1 1).toNat) (((t3.1.1 ++ ([((t3.2.1.1, t3.2.1.2.1), t3.2.1.2.2.1)] : List RAT)).drop t3.1.2.1.toNat).take ((t3.1.1 ++ ([((t3.2.1.1, t3.2.1.2.1), t3.2.1.2.2.1)] : List RAT)).drop ((iadd .i64 t3.1.2.1 1).toNat)).length)).set t3.1.2.1.toNat ((t3.2.1.1, t3.2.1.2.1), t3.2.1.2.2.1)) else none else none else none else none) else none) else (bif Nat.ble ((t3.1.1.length + 1) * 56) 140737488355328 && !false then bif decide (0 ≤ (iadd .i64 t3.1.2.1 1)) && decide (((iadd .i64 t3.1.2.1 1) : Int) ≤ ((t3.1.1 ++ ([((t3.2.1.1, t3.2.1.2.1), t3.2.1.2.2.1)] : List RAT)).length : Int)) then bif decide (0 ≤ t3.1.2.1) && decide ((t3.1.2.1 : Int) ≤ ((t3.1.1 ++ ([((t3.2.1.1, t3.2.1.2.1), t3.2.1.2.2.1)] : List RAT)).length : Int)) then bif decide (0 ≤ t3.1.2.1) && decide (t3.1.2.1 < ((over (t3.1.1 ++ ([((t3.2.1.1, t3.2.1.2.1), t3.2.1.2.2.1)] : List RAT)) ((iadd .i64 t3.1.2.1 1).toNat) (((t3.1.1 ++ ([((t3.2.1.1, t3.2.1.2.1), t3.2.1.2.2.1)] : List RAT)).drop t3.1.2.1.toNat).take ((t3.1.1 ++ ([((t3.2.1.1, t3.2.1.2.1), t3.2.1.2.2.1)] : List RAT)).drop ((iadd .i64 t3.1.2.1 1).toNat)).length)).length : Int)) then ((over (t3.1.1 ++ ([((t3.2.1.1, t3.2.1.2.1), t3.2.1.2.2.1)] : List RAT)) ((iadd .i64 t3.1.2.1 1).toNat) (((t3.1.1 ++ ([((t3.2.1.1, t3.2.1.2.1), t3.2.1.2.2.1)] : List RAT)).drop t3.1.2.1.toNat).take ((t3.1.1 ++ ([((t3.2.1.1, t3.2.1.2.1), t3.2.1.2.2.1)] : List RAT)).drop ((iadd .i64 t3.1.2.1 1).toNat)).length))[t3.1.2.1.toNat]?).bind fun _ => some ((over (t3.1.1 ++ ([((t3.2.1.1, t3.2.1.2.1), t3.2.1.2.2.1)] : List RAT)) ((iadd .i64 t3.1.2.1 1).toNat) (((t3.1.1 ++ ([((t3.2.1.1, t3.2.1.2.1), t3.2.1.2.2.1)] : List RAT)).drop t3.1.2.1.toNat).take ((t3.1.1 ++ ([((t3.2.1.1, t3.2.1.2.1), t3.2.1.2.2.1)] : List RAT)).drop ((iadd .i64 t3.1.2.1 1).toNat)).length)).set t3.1.2.1.toNat ((t3.2.1.1, t3.2.1.2.1), t3.2.1.2.2.1)) else none else none else none else none)

def c97 : Ctr := ⟨[((.sl tRAT), .own), (tRAT, .imm)], [((.sl tRAT), true)], (List RAT), fun x => route_put x.1 x.2.1, fun r => ((), (r, ())), none⟩

abbrev route_Cuts_i10 : SG := ⟨[(1, .v (.int .i64)), (6, .o tRAT 55), (25, .v (.sl (.sl tNODE))), (26, .v (.int .i64)), (27, .v (.int .i64)), (31, .v (.sl tNODE)), (32, .v (.int .i64)), (33, .v (.int .i64))], []⟩
abbrev route_Cuts_o10 : List (Ex × SG) := [(.exit 3, ⟨[(1, .v (.int .i64)), (6, .o tRAT 55), (25, .v (.sl (.sl tNODE))), (26, .v (.int .i64)), (27, .v (.int .i64))], []⟩)]

def route_Cuts_s10 (g : ((Int × (List RAT) × (List (List NODE)) × Int × Int × (List NODE) × Int × Int × Unit) × Unit) → Option ((Int × (List RAT) × (List (List NODE)) × Int × Int × Unit) × Unit)) : ((Int × (List RAT) × (List (List NODE)) × Int × Int × (List NODE) × Int × Int × Unit) × Unit) → Option ((Int × (List RAT) × (List (List NODE)) × Int × Int × Unit) × Unit)
  | ((feature_1, out_6, v_25, v_26, v_27, v_31, v_32, v_33, _), _) => bif (decide (v_33 < v_32)) then (bif decide (0 ≤ v_33) then (v_31[v_33.toNat]?).bind fun x3 => bif (!x3.1) then (bif (decide (x3.2.1 = feature_1)) then ((ratio_Clean x3.2.2.1).bind fun r4 => (route_put out_6 r4).bind fun r5 => g ((feature_1, r5, v_25, v_26, v_27, v_31, v_32, (iadd .i64 v_33 1), ()), ())) else (g ((feature_1, out_6, v_25, v_26, v_27, v_31, v_32, (iadd .i64 v_33 1), ()), ()))) else (g ((feature_1, out_6, v_25, v_26, v_27, v_31, v_32, (iadd .i64 v_33 1), ()), ())) else none) else (some ((feature_1, out_6, v_25, v_26, v_27, ()), ()))

abbrev route_Cuts_i7 : SG := ⟨[(1, .v (.int .i64)), (6, .o tRAT 55), (25, .v (.sl (.sl tNODE))), (26, .v (.int .i64)), (27, .v (.int .i64))], []⟩
abbrev route_Cuts_o7 : List (Ex × SG) := [(.exit 1, ⟨[(6, .o tRAT 55)], []⟩)]

def route_Cuts_s7 (g : ((Int × (List RAT) × (List (List NODE)) × Int × Int × Unit) × Unit) → Option (((List RAT) × Unit) × Unit)) : ((Int × (List RAT) × (List (List NODE)) × Int × Int × Unit) × Unit) → Option (((List RAT) × Unit) × Unit)
  | ((feature_1, out_6, v_25, v_26, v_27, _), _) => bif (decide (v_27 < v_26)) then (bif decide (0 ≤ v_27) then (v_25[v_27.toNat]?).bind fun x2 => (lp route_Cuts_s10 K0 ((feature_1, out_6, v_25, v_26, v_27, x2, (x2.length : Int), 0, ()), ())).bind fun t6 => g ((t6.1.1, t6.1.2.1, t6.1.2.2.1, t6.1.2.2.2.1, (iadd .i64 t6.1.2.2.2.2.1 1), ()), ()) else none) else (some ((out_6, ()), ()))

def route_Cuts (m_0 : MODEL) (feature_1 : Int) : Option ((List RAT) × Int) :=
  (valid_Ok m_0).bind fun r1 => bif (!r1) then (some ([], 1)) else (bif (decide (feature_1 < 0)) then (some ([], 8)) else (bif (decide (feature_1 ≥ m_0.1)) then (some ([], 8)) else ((lp route_Cuts_s7 K0 ((feature_1, [], m_0.2, (m_0.2.length : Int), 0, ()), ())).bind fun t7 => some (t7.1.1, 0))))

def c57 : Ctr := ⟨[(tMODEL, .imm), ((.int .i64), .imm)], [((.sl tRAT), true), ((.int .i64), false)], (List RAT) × Int, fun x => route_Cuts x.1 x.2.1, fun r => ((), (r.1, r.2, ())), none⟩

def whole_Neg (a_0 : WH) : Option WH :=
  (whole_Clean a_0).bind fun r1 => (whole_sign (!r1.1) r1.2).bind fun r2 => some r2

def c117 : Ctr := ⟨[(tWH, .imm)], [(tWH, false)], WH, fun x => whole_Neg x.1, fun r => ((), (r, ())), none⟩

def ratio_Neg (a_0 : RAT) : Option RAT :=
  (ratio_Clean a_0).bind fun r1 => (whole_Neg r1.1).bind fun r2 => some (r2, r1.2)

def c98 : Ctr := ⟨[(tRAT, .imm)], [(tRAT, false)], RAT, fun x => ratio_Neg x.1, fun r => ((), (r, ())), none⟩

def ratio_Sub (a_0 : RAT) (b_1 : RAT) : Option RAT :=
  (ratio_Neg b_1).bind fun r1 => (ratio_Add a_0 r1).bind fun r2 => some r2

def c58 : Ctr := ⟨[(tRAT, .imm), (tRAT, .imm)], [(tRAT, false)], RAT, fun x => ratio_Sub x.1 x.2.1, fun r => ((), (r, ())), none⟩

def route_Steps (m_0 : MODEL) (feature_1 : Int) : Option ((List RAT) × Int) :=
  (route_Cuts m_0 feature_1).bind fun r1 => bif (!decide (r1.2 = 0)) then (some ([], r1.2)) else (bif (decide ((r1.1.length : Int) = 0)) then ((ratio_Zero ).bind fun r2 => some (([r2] : List RAT), 0)) else (bif decide ((0 : Int) < (r1.1.length : Int)) then (r1.1[0]?).bind fun x3 => (ratio_One ).bind fun r4 => (ratio_Sub x3 r4).bind fun r5 => bif Nat.ble ((([r5] : List RAT).length + r1.1.length) * 56) 140737488355328 && !false then some ((([r5] : List RAT) ++ r1.1), 0) else none else none))

def c24 : Ctr := ⟨[(tMODEL, .imm), ((.int .i64), .imm)], [((.sl tRAT), true), ((.int .i64), false)], (List RAT) × Int, fun x => route_Steps x.1 x.2.1, fun r => ((), (r.1, r.2, ())), none⟩

def depend_feature (m_0 : MODEL) (i_1 : Int) : Option Int :=
  (valid_Ok m_0).bind fun r1 => bif (!r1) then (some 1) else (bif (decide (i_1 < 0)) then (some 8) else (bif (decide (i_1 ≥ m_0.1)) then (some 8) else (some 0)))

def c59 : Ctr := ⟨[(tMODEL, .imm), ((.int .i64), .imm)], [((.int .i64), false)], Int, fun x => depend_feature x.1 x.2.1, fun r => ((), (r, ())), none⟩

def route_fits (m_0 : MODEL) (row_1 : List CELL) : Option Int :=
  (valid_Ok m_0).bind fun r1 => bif (!r1) then (some 1) else (bif (!decide ((row_1.length : Int) = m_0.1)) then (some 14) else (some 0))

def c89 : Ctr := ⟨[(tMODEL, .imm), ((.sl tCELL), .imm)], [((.int .i64), false)], Int, fun x => route_fits x.1 x.2.1, fun r => ((), (r, ())), none⟩

def route_Fits (m_0 : MODEL) (row_1 : List CELL) : Option Int :=
  (route_fits m_0 row_1).bind fun r1 => some r1

def c50 : Ctr := ⟨[(tMODEL, .imm), ((.sl tCELL), .imm)], [((.int .i64), false)], Int, fun x => route_Fits x.1 x.2.1, fun r => ((), (r, ())), none⟩

def route_goes (n_0 : NODE) (c_1 : CELL) : Option Bool :=
  bif c_1.1 then (some n_0.2.2.2.2.2.1) else ((ratio_Cmp c_1.2 n_0.2.2.1).bind fun r1 => some (decide (r1 < 0)))

def c124 : Ctr := ⟨[(tNODE, .imm), (tCELL, .imm)], [(.bool, false)], Bool, fun x => route_goes x.1 x.2.1, fun r => ((), (r, ())), none⟩

def route_Left (n_0 : NODE) (c_1 : CELL) : Option Bool :=
  bif (!n_0.1) then ((route_goes n_0 c_1).bind fun r1 => some r1) else (some false)

def c94 : Ctr := ⟨[(tNODE, .imm), (tCELL, .imm)], [(.bool, false)], Bool, fun x => route_Left x.1 x.2.1, fun r => ((), (r, ())), none⟩

def expect_known (set_0 : Int) (feature_1 : Int) : Option Bool :=
  bif decide (feature_1 < 0) then none else (some (decide ((iand .u64 (shrV .u64 set_0 feature_1) 1) = 1)))

def c126 : Ctr := ⟨[((.int .u64), .imm), ((.int .i64), .imm)], [(.bool, false)], Bool, fun x => expect_known x.1 x.2.1, fun r => ((), (r, ())), none⟩

def ratio_Mul (a_0 : RAT) (b_1 : RAT) : Option RAT :=
  (ratio_Clean a_0).bind fun r1 => (ratio_Clean b_1).bind fun r2 => (whole_Mul r1.1 r2.1).bind fun r3 => (nat_Mul r1.2 r2.2).bind fun r4 => (ratio_form r3 r4).bind fun r5 => some r5

def c38 : Ctr := ⟨[(tRAT, .imm), (tRAT, .imm)], [(tRAT, false)], RAT, fun x => ratio_Mul x.1 x.2.1, fun r => ((), (r, ())), none⟩

def ratio_Make (num_0 : WH) (den_1 : WH) : Option (RAT × Int) :=
  (whole_Clean num_0).bind fun r1 => (whole_Clean den_1).bind fun r2 => (whole_Sign r2).bind fun r3 => bif (decide (r3 = 0)) then (some (((false, []), []), 2)) else (bif r2.1 then ((whole_Neg r1).bind fun r4 => (ratio_form r4 r2.2).bind fun r5 => some (r5, 0)) else ((ratio_form r1 r2.2).bind fun r6 => some (r6, 0)))

def c76 : Ctr := ⟨[(tWH, .imm), (tWH, .imm)], [(tRAT, false), ((.int .i64), false)], RAT × Int, fun x => ratio_Make x.1 x.2.1, fun r => ((), (r.1, r.2, ())), none⟩

def ratio_Inv (a_0 : RAT) : Option (RAT × Int) :=
  (ratio_Clean a_0).bind fun r1 => (ratio_den r1).bind fun r2 => (ratio_Make r2 r1.1).bind fun r3 => some (r3.1, r3.2)

def c125 : Ctr := ⟨[(tRAT, .imm)], [(tRAT, false), ((.int .i64), false)], RAT × Int, fun x => ratio_Inv x.1, fun r => ((), (r.1, r.2, ())), none⟩

def ratio_Div (a_0 : RAT) (b_1 : RAT) : Option (RAT × Int) :=
  (ratio_Inv b_1).bind fun r1 => bif (!decide (r1.2 = 0)) then (some (((false, []), []), r1.2)) else ((ratio_Mul a_0 r1.1).bind fun r2 => some (r2, 0))

def c95 : Ctr := ⟨[(tRAT, .imm), (tRAT, .imm)], [(tRAT, false), ((.int .i64), false)], RAT × Int, fun x => ratio_Div x.1 x.2.1, fun r => ((), (r.1, r.2, ())), none⟩

def expect_over (a_0 : RAT) (b_1 : RAT) : Option RAT :=
  (ratio_Div a_0 b_1).bind fun r1 => some r1.1

def c157 : Ctr := ⟨[(tRAT, .imm), (tRAT, .imm)], [(tRAT, false)], RAT, fun x => expect_over x.1 x.2.1, fun r => ((), (r, ())), none⟩

def expect_mean (t_0 : List NODE) (n_1 : NODE) (a_2 : RAT) (b_3 : RAT) : Option RAT :=
  bif decide (0 ≤ n_1.2.2.2.1) then (t_0[n_1.2.2.2.1.toNat]?).bind fun x1 => (ratio_Mul x1.2.2.2.2.2.2.2 a_2).bind fun r2 => bif decide (0 ≤ n_1.2.2.2.2.1) then (t_0[n_1.2.2.2.2.1.toNat]?).bind fun x3 => (ratio_Mul x3.2.2.2.2.2.2.2 b_3).bind fun r4 => (ratio_Add r2 r4).bind fun r5 => (expect_over r5 n_1.2.2.2.2.2.2.2).bind fun r6 => some r6 else none else none

def c127 : Ctr := ⟨[((.sl tNODE), .imm), (tNODE, .imm), (tRAT, .imm), (tRAT, .imm)], [(tRAT, false)], RAT, fun x => expect_mean x.1 x.2.1 x.2.2.1 x.2.2.2.1, fun r => ((), (r, ())), none⟩

def expect_value_b (rec : (List NODE) → Int → (List CELL) → Int → Option RAT) (t_0 : List NODE) (at_1 : Int) (row_2 : List CELL) (set_3 : Int) : Option RAT :=
  bif decide (0 ≤ at_1) then (t_0[at_1.toNat]?).bind fun x1 => bif x1.1 then ((ratio_Clean x1.2.2.2.2.2.2.1).bind fun r2 => some r2) else ((expect_known set_3 x1.2.1).bind fun r3 => bif (!r3) then ((rec t_0 x1.2.2.2.1 row_2 set_3).bind fun r4 => (rec t_0 x1.2.2.2.2.1 row_2 set_3).bind fun r5 => (expect_mean t_0 x1 r4 r5).bind fun r6 => some r6) else (bif decide (0 ≤ x1.2.1) then (row_2[x1.2.1.toNat]?).bind fun x7 => (route_Left x1 x7).bind fun r8 => bif r8 then ((rec t_0 x1.2.2.2.1 row_2 set_3).bind fun r9 => some r9) else ((rec t_0 x1.2.2.2.2.1 row_2 set_3).bind fun r10 => some r10) else none)) else none
def expect_value : Nat → (List NODE) → Int → (List CELL) → Int → Option RAT
  | 0 => fun _ _ _ _ => none
  | n + 1 => expect_value_b (expect_value n)

def c99 (n : Nat) : Ctr := ⟨[((.sl tNODE), .imm), ((.int .i64), .imm), ((.sl tCELL), .imm), ((.int .u64), .imm)], [(tRAT, false)], RAT, fun x => expect_value n x.1 x.2.1 x.2.2.1 x.2.2.2.1, fun r => ((), (r, ())), none⟩

abbrev expect_Value_i6 : SG := ⟨[(1, .v (.sl tCELL)), (2, .v (.int .u64)), (6, .p 48 0 0), (9, .p 72 0 0), (21, .v (.sl (.sl tNODE))), (22, .v (.int .i64)), (23, .v (.int .i64))], [(48, [.v .bool, .o (.int .u64) 50, .o (.int .u64) 51]), (72, [.v .bool, .v (.sl (.int .u64)), .v (.sl (.int .u64))])]⟩
abbrev expect_Value_o6 : List (Ex × SG) := [(.exit 0, ⟨[(6, .p 48 0 0), (9, .p 72 0 0)], [(48, [.v .bool, .o (.int .u64) 50, .o (.int .u64) 51]), (72, [.v .bool, .v (.sl (.int .u64)), .v (.sl (.int .u64))])]⟩)]

def expect_Value_s6 (g : (((List CELL) × Int × (List (List NODE)) × Int × Int × Unit) × ((Bool × (List Int) × (List Int) × Unit) × (Bool × (List Int) × (List Int) × Unit) × Unit)) → Option (Unit × ((Bool × (List Int) × (List Int) × Unit) × (Bool × (List Int) × (List Int) × Unit) × Unit))) : (((List CELL) × Int × (List (List NODE)) × Int × Int × Unit) × ((Bool × (List Int) × (List Int) × Unit) × (Bool × (List Int) × (List Int) × Unit) × Unit)) → Option (Unit × ((Bool × (List Int) × (List Int) × Unit) × (Bool × (List Int) × (List Int) × Unit) × Unit))
  | ((row_1, set_2, v_21, v_22, v_23, _), ((b48_0, b48_1, b48_2, _), (b72_0, b72_1, b72_2, _), _)) => bif (decide (v_23 < v_22)) then (bif decide (0 ≤ v_23) then (v_21[v_23.toNat]?).bind fun x3 => (expect_value R0 x3 0 row_1 set_2).bind fun r4 => (ratio_Add ((b72_0, b72_1), b72_2) r4).bind fun r5 => g ((row_1, set_2, v_21, v_22, (iadd .i64 v_23 1), ()), ((b48_0, b48_1, b48_2, ()), (r5.1.1, r5.1.2, r5.2, ()), ())) else none) else (some ((()), ((b48_0, b48_1, b48_2, ()), (b72_0, b72_1, b72_2, ()), ())))

def expect_Value (m_0 : MODEL) (row_1 : List CELL) (set_2 : Int) : Option (RAT × Int) :=
  (route_Fits m_0 row_1).bind fun r1 => bif (!decide (r1 = 0)) then (some (((false, []), []), r1)) else ((ratio_Zero ).bind fun r2 => (lp expect_Value_s6 K0 ((row_1, set_2, m_0.2, (m_0.2.length : Int), 0, ()), ((false, [], [], ()), (r2.1.1, r2.1.2, r2.2, ()), ()))).bind fun t6 => some (((t6.2.2.1.1, t6.2.2.1.2.1), t6.2.2.1.2.2.1), 0))

def c60 : Ctr := ⟨[(tMODEL, .imm), ((.sl tCELL), .imm), ((.int .u64), .imm)], [(tRAT, false), ((.int .i64), false)], RAT × Int, fun x => expect_Value x.1 x.2.1 x.2.2.1, fun r => ((), (r.1, r.2, ())), none⟩

def depend_Cover (m_0 : MODEL) (i_1 : Int) (z_2 : CELL) : Option (RAT × Int) :=
  (depend_feature m_0 i_1).bind fun r1 => bif (!decide (r1 = 0)) then (some (((false, []), []), r1)) else (bif decide (m_0.1 = m_0.1) && decide (0 ≤ m_0.1) && decide (((64 : Nat) : Int) * m_0.1 ≤ 281474976710656) && decide (m_0.1 ≤ 9223372036854775807) then bif decide (0 ≤ i_1) && decide (i_1 < ((List.replicate m_0.1.toNat ((false, ((false, []), [])) : CELL)).length : Int)) then ((List.replicate m_0.1.toNat ((false, ((false, []), [])) : CELL))[i_1.toNat]?).bind fun _ => bif decide (i_1 < 0) then none else ((expect_Value m_0 ((List.replicate m_0.1.toNat ((false, ((false, []), [])) : CELL)).set i_1.toNat z_2) (shlV .u64 1 i_1)).bind fun r3 => some (r3.1, r3.2)) else none else none)

def c25 : Ctr := ⟨[(tMODEL, .imm), ((.int .i64), .imm), (tCELL, .imm)], [(tRAT, false), ((.int .i64), false)], RAT × Int, fun x => depend_Cover x.1 x.2.1 x.2.2.1, fun r => ((), (r.1, r.2, ())), none⟩

abbrev depend_Curve_i6 : SG := ⟨[(1, .v (.int .i64)), (2, .p 16 0 0), (6, .p 48 0 0), (8, .v (.sl tRAT)), (10, .o tRAT 87), (27, .v (.sl tRAT)), (28, .v (.int .i64)), (29, .v (.int .i64))], [(16, [.v (.int .i64), .v (.sl (.sl tNODE))]), (48, [.v .bool, .o (.int .u64) 50, .o (.int .u64) 51])]⟩
abbrev depend_Curve_o6 : List (Ex × SG) := [(.exit 0, ⟨[(1, .v (.int .i64)), (2, .p 16 0 0), (6, .p 48 0 0), (8, .v (.sl tRAT)), (10, .o tRAT 87)], [(16, [.v (.int .i64), .v (.sl (.sl tNODE))]), (48, [.v .bool, .o (.int .u64) 50, .o (.int .u64) 51])]⟩)]

def depend_Curve_s6 (g : ((Int × (List RAT) × (List RAT) × (List RAT) × Int × Int × Unit) × ((Int × (List (List NODE)) × Unit) × (Bool × (List Int) × (List Int) × Unit) × Unit)) → Option ((Int × (List RAT) × (List RAT) × Unit) × ((Int × (List (List NODE)) × Unit) × (Bool × (List Int) × (List Int) × Unit) × Unit))) : ((Int × (List RAT) × (List RAT) × (List RAT) × Int × Int × Unit) × ((Int × (List (List NODE)) × Unit) × (Bool × (List Int) × (List Int) × Unit) × Unit)) → Option ((Int × (List RAT) × (List RAT) × Unit) × ((Int × (List (List NODE)) × Unit) × (Bool × (List Int) × (List Int) × Unit) × Unit))
  | ((i_1, steps_8, out_10, v_27, v_28, v_29, _), ((b16_0, b16_1, _), (b48_0, b48_1, b48_2, _), _)) => bif (decide (v_29 < v_28)) then (bif decide (0 ≤ v_29) then (v_27[v_29.toNat]?).bind fun x2 => (depend_Cover (b16_0, b16_1) i_1 (false, x2)).bind fun r3 => bif Nat.ble ((out_10.length + 1) * 56) 140737488355328 && !false then g ((i_1, steps_8, (out_10 ++ ([r3.1] : List RAT)), v_27, v_28, (iadd .i64 v_29 1), ()), ((b16_0, b16_1, ()), (b48_0, b48_1, b48_2, ()), ())) else none else none) else (some ((i_1, steps_8, out_10, ()), ((b16_0, b16_1, ()), (b48_0, b48_1, b48_2, ()), ())))

def depend_Curve (m_0 : MODEL) (i_1 : Int) : Option ((List RAT) × (List RAT) × RAT × Int) :=
  (route_Steps m_0 i_1).bind fun r1 => bif (!decide (r1.2 = 0)) then (some ([], [], ((false, []), []), r1.2)) else ((lp depend_Curve_s6 K0 ((i_1, r1.1, [], r1.1, (r1.1.length : Int), 0, ()), ((m_0.1, m_0.2, ()), (false, [], [], ()), ()))).bind fun t4 => (depend_Cover (t4.2.1.1, t4.2.1.2.1) t4.1.1 (true, ((false, []), []))).bind fun r5 => some (t4.1.2.1, t4.1.2.2.1, r5.1, 0))

def c21 : Ctr := ⟨[(tMODEL, .imm), ((.int .i64), .imm)], [((.sl tRAT), false), ((.sl tRAT), true), (tRAT, false), ((.int .i64), false)], (List RAT) × (List RAT) × RAT × Int, fun x => depend_Curve x.1 x.2.1, fun r => ((), (r.1, r.2.1, r.2.2.1, r.2.2.2, ())), none⟩

def dendronlaw13_why (m_0 : MODEL) (i_1 : Int) : Option Int :=
  (valid_Ok m_0).bind fun r1 => bif (!r1) then (some 1) else (bif (decide (i_1 < 0)) then (some 8) else (bif (decide (i_1 ≥ m_0.1)) then (some 8) else (some 0)))

def c22 : Ctr := ⟨[(tMODEL, .imm), ((.int .i64), .imm)], [((.int .i64), false)], Int, fun x => dendronlaw13_why x.1 x.2.1, fun r => ((), (r, ())), none⟩

abbrev depend_At_i3 : SG := ⟨[(0, .v (.sl tRAT)), (3, .p 24 0 0), (5, .v (.int .i64)), (6, .v (.int .i64))], [(24, [.v .bool, .v (.sl (.int .u64)), .v (.sl (.int .u64))])]⟩
abbrev depend_At_o3 : List (Ex × SG) := [(.exit 0, ⟨[(5, .v (.int .i64))], []⟩)]

def depend_At_s3 (g : (((List RAT) × Int × Int × Unit) × ((Bool × (List Int) × (List Int) × Unit) × Unit)) → Option ((Int × Unit) × Unit)) : (((List RAT) × Int × Int × Unit) × ((Bool × (List Int) × (List Int) × Unit) × Unit)) → Option ((Int × Unit) × Unit)
  | ((steps_0, at_5, i_6, _), ((b24_0, b24_1, b24_2, _), _)) => bif (decide (i_6 < (steps_0.length : Int))) then (bif decide (0 ≤ i_6) then (steps_0[i_6.toNat]?).bind fun x1 => (ratio_Cmp x1 ((b24_0, b24_1), b24_2)).bind fun r2 => bif (decide (r2 ≤ 0)) then (g ((steps_0, i_6, (iadd .i64 i_6 1), ()), ((b24_0, b24_1, b24_2, ()), ()))) else (g ((steps_0, at_5, (iadd .i64 i_6 1), ()), ((b24_0, b24_1, b24_2, ()), ()))) else none) else (some ((at_5, ()), ()))

def depend_At (steps_0 : List RAT) (z_1 : RAT) : Option Int :=
  (lp depend_At_s3 K0 ((steps_0, 0, 1, ()), ((z_1.1.1, z_1.1.2, z_1.2, ()), ()))).bind fun t3 => some t3.1.1

def c27 : Ctr := ⟨[((.sl tRAT), .imm), (tRAT, .imm)], [((.int .i64), false)], Int, fun x => depend_At x.1 x.2.1, fun r => ((), (r, ())), none⟩

def ratio_Frac (n_0 : Int) (d_1 : Int) : Option RAT :=
  (whole_Of n_0).bind fun r1 => (whole_Of d_1).bind fun r2 => (ratio_Make r1 r2).bind fun r3 => (ratio_Clean r3.1).bind fun r4 => some r4

def c40 : Ctr := ⟨[((.int .i64), .imm), ((.int .i64), .imm)], [(tRAT, false)], RAT, fun x => ratio_Frac x.1 x.2.1, fun r => ((), (r, ())), none⟩

def dendronlaw13_awake  : Option Bool :=
  (ratio_Of 0).bind fun r1 => (ratio_Of 1).bind fun r2 => (ratio_Of 2).bind fun r3 => (ratio_Frac 3 2).bind fun r4 => (depend_At ([r1, r2, r3] : List RAT) r4).bind fun r5 => some (decide (r5 = 1))

def c23 : Ctr := ⟨[], [(.bool, false)], Bool, fun x => dendronlaw13_awake , fun r => ((), (r, ())), none⟩

abbrev dendronref01_Small_i2 : SG := ⟨[(0, .v (.int .i64)), (3, .o (.int .i64) 31)], []⟩
abbrev dendronref01_Small_o2 : List (Ex × SG) := [(.exit 0, ⟨[(3, .o (.int .i64) 31)], []⟩)]

def dendronref01_Small_s2 (g : ((Int × (List Int) × Unit) × Unit) → Option (((List Int) × Unit) × Unit)) : ((Int × (List Int) × Unit) × Unit) → Option (((List Int) × Unit) × Unit)
  | ((n_0, out_3, _), _) => bif (decide (n_0 > 0)) then (bif Nat.ble ((out_3.length + 1) * 8) 140737488355328 && !false then g (((iquo .i64 n_0 10000), (out_3 ++ ([(irem n_0 10000)] : List Int)), ()), ()) else none) else (some ((out_3, ()), ()))

def dendronref01_Small (n_0 : Int) : Option (List Int) :=
  (lp dendronref01_Small_s2 K0 ((n_0, [], ()), ())).bind fun t1 => some t1.1.1

def c131 : Ctr := ⟨[((.int .i64), .imm)], [((.sl (.int .i64)), true)], (List Int), fun x => dendronref01_Small x.1, fun r => ((), (r, ())), none⟩

def dendronref01_digit (a_0 : List Int) (i_1 : Int) : Option Int :=
  bif (decide (i_1 < (a_0.length : Int))) then (bif decide (0 ≤ i_1) then (a_0[i_1.toNat]?).bind fun x1 => some x1 else none) else (some 0)

def c159 : Ctr := ⟨[((.sl (.int .i64)), .imm), ((.int .i64), .imm)], [((.int .i64), false)], Int, fun x => dendronref01_digit x.1 x.2.1, fun r => ((), (r, ())), none⟩

abbrev dendronref01_Plus_i4 : SG := ⟨[(0, .v (.sl (.int .i64))), (1, .v (.sl (.int .i64))), (5, .o (.int .i64) 47), (6, .v (.int .i64)), (7, .v (.int .i64))], []⟩
abbrev dendronref01_Plus_o4 : List (Ex × SG) := [(.exit 0, ⟨[(5, .o (.int .i64) 47)], []⟩)]

def dendronref01_Plus_s4 (g : (((List Int) × (List Int) × (List Int) × Int × Int × Unit) × Unit) → Option (((List Int) × Unit) × Unit)) : (((List Int) × (List Int) × (List Int) × Int × Int × Unit) × Unit) → Option (((List Int) × Unit) × Unit)
  | ((a_0, b_1, out_5, c_6, i_7, _), _) => bif (decide (i_7 < (a_0.length : Int))) then ((dendronref01_digit a_0 i_7).bind fun r1 => (dendronref01_digit b_1 i_7).bind fun r2 => bif Nat.ble ((out_5.length + 1) * 8) 140737488355328 && !false then g ((a_0, b_1, (out_5 ++ ([(irem (iadd .i64 (iadd .i64 c_6 r1) r2) 10000)] : List Int)), (iquo .i64 (iadd .i64 (iadd .i64 c_6 r1) r2) 10000), (iadd .i64 i_7 1), ()), ()) else none) else (bif (decide (i_7 < (b_1.length : Int))) then ((dendronref01_digit a_0 i_7).bind fun r3 => (dendronref01_digit b_1 i_7).bind fun r4 => bif Nat.ble ((out_5.length + 1) * 8) 140737488355328 && !false then g ((a_0, b_1, (out_5 ++ ([(irem (iadd .i64 (iadd .i64 c_6 r3) r4) 10000)] : List Int)), (iquo .i64 (iadd .i64 (iadd .i64 c_6 r3) r4) 10000), (iadd .i64 i_7 1), ()), ()) else none) else (bif (decide (c_6 > 0)) then ((dendronref01_digit a_0 i_7).bind fun r5 => (dendronref01_digit b_1 i_7).bind fun r6 => bif Nat.ble ((out_5.length + 1) * 8) 140737488355328 && !false then g ((a_0, b_1, (out_5 ++ ([(irem (iadd .i64 (iadd .i64 c_6 r5) r6) 10000)] : List Int)), (iquo .i64 (iadd .i64 (iadd .i64 c_6 r5) r6) 10000), (iadd .i64 i_7 1), ()), ()) else none) else (some ((out_5, ()), ()))))

def dendronref01_Plus (a_0 : List Int) (b_1 : List Int) : Option (List Int) :=
  (lp dendronref01_Plus_s4 K0 ((a_0, b_1, [], 0, 0, ()), ())).bind fun t7 => some t7.1.1

def c135 : Ctr := ⟨[((.sl (.int .i64)), .imm), ((.sl (.int .i64)), .imm)], [((.sl (.int .i64)), true)], (List Int), fun x => dendronref01_Plus x.1 x.2.1, fun r => ((), (r, ())), none⟩

abbrev dendronref01_Trim_i2 : SG := ⟨[(0, .v (.sl (.int .i64))), (3, .v (.int .i64))], []⟩
abbrev dendronref01_Trim_o2 : List (Ex × SG) := [(.exit 0, ⟨[(0, .v (.sl (.int .i64))), (3, .v (.int .i64))], []⟩)]

def dendronref01_Trim_s2 (g : (((List Int) × Int × Unit) × Unit) → Option (((List Int) × Int × Unit) × Unit)) : (((List Int) × Int × Unit) × Unit) → Option (((List Int) × Int × Unit) × Unit)
  | ((a_0, n_3, _), _) => bif (decide (n_3 > 0)) then (bif decide (0 ≤ (isub .i64 n_3 1)) then (a_0[(isub .i64 n_3 1).toNat]?).bind fun x1 => bif (decide (x1 = 0)) then (g ((a_0, (isub .i64 n_3 1), ()), ())) else (some ((a_0, n_3, ()), ())) else none) else (some ((a_0, n_3, ()), ()))

def dendronref01_Trim (a_0 : List Int) : Option (List Int) :=
  (lp dendronref01_Trim_s2 K0 ((a_0, (a_0.length : Int), ()), ())).bind fun t2 => bif decide (0 ≤ t2.1.2.1) && decide ((t2.1.2.1 : Int) ≤ (t2.1.1.length : Int)) then some (t2.1.1.take t2.1.2.1.toNat) else none

def c160 : Ctr := ⟨[((.sl (.int .i64)), .imm)], [((.sl (.int .i64)), false)], (List Int), fun x => dendronref01_Trim x.1, fun r => ((), (r, ())), none⟩

abbrev dendronref01_Times_i7 : SG := ⟨[(0, .v (.sl (.int .i64))), (1, .v (.sl (.int .i64))), (5, .o (.int .i64) 47), (6, .v (.int .i64)), (7, .v (.int .i64)), (8, .v (.int .i64))], []⟩
abbrev dendronref01_Times_o7 : List (Ex × SG) := [(.exit 2, ⟨[(0, .v (.sl (.int .i64))), (1, .v (.sl (.int .i64))), (5, .o (.int .i64) 47), (6, .v (.int .i64)), (7, .v (.int .i64))], []⟩)]

def dendronref01_Times_s7 (g : (((List Int) × (List Int) × (List Int) × Int × Int × Int × Unit) × Unit) → Option (((List Int) × (List Int) × (List Int) × Int × Int × Unit) × Unit)) : (((List Int) × (List Int) × (List Int) × Int × Int × Int × Unit) × Unit) → Option (((List Int) × (List Int) × (List Int) × Int × Int × Unit) × Unit)
  | ((a_0, b_1, out_5, i_6, c_7, k_8, _), _) => bif (decide (k_8 < (b_1.length : Int))) then (bif decide (0 ≤ (iadd .i64 i_6 k_8)) && decide ((iadd .i64 i_6 k_8) < (out_5.length : Int)) then (out_5[(iadd .i64 i_6 k_8).toNat]?).bind fun x1 => bif decide (0 ≤ i_6) then (a_0[i_6.toNat]?).bind fun x2 => bif decide (0 ≤ k_8) then (b_1[k_8.toNat]?).bind fun x3 => bif decide (0 ≤ (iadd .i64 i_6 k_8)) && decide ((iadd .i64 i_6 k_8) < (out_5.length : Int)) then (out_5[(iadd .i64 i_6 k_8).toNat]?).bind fun _ => g ((a_0, b_1, (out_5.set ((iadd .i64 i_6 k_8).toNat) (irem (iadd .i64 (iadd .i64 c_7 x1) (imul .i64 x2 x3)) 10000)), i_6, (iquo .i64 (iadd .i64 (iadd .i64 c_7 x1) (imul .i64 x2 x3)) 10000), (iadd .i64 k_8 1), ()), ()) else none else none else none else none) else (some ((a_0, b_1, out_5, i_6, c_7, ()), ()))

abbrev dendronref01_Times_i3 : SG := ⟨[(0, .v (.sl (.int .i64))), (1, .v (.sl (.int .i64))), (5, .o (.int .i64) 47), (6, .v (.int .i64))], []⟩
abbrev dendronref01_Times_o3 : List (Ex × SG) := [(.exit 0, ⟨[(5, .o (.int .i64) 47)], []⟩)]

def dendronref01_Times_s3 (g : (((List Int) × (List Int) × (List Int) × Int × Unit) × Unit) → Option (((List Int) × Unit) × Unit)) : (((List Int) × (List Int) × (List Int) × Int × Unit) × Unit) → Option (((List Int) × Unit) × Unit)
  | ((a_0, b_1, out_5, i_6, _), _) => bif (decide (i_6 < (a_0.length : Int))) then ((lp dendronref01_Times_s7 K0 ((a_0, b_1, out_5, i_6, 0, 0, ()), ())).bind fun t5 => bif decide (0 ≤ (iadd .i64 t5.1.2.2.2.1 (t5.1.2.1.length : Int))) && decide ((iadd .i64 t5.1.2.2.2.1 (t5.1.2.1.length : Int)) < (t5.1.2.2.1.length : Int)) then (t5.1.2.2.1[(iadd .i64 t5.1.2.2.2.1 (t5.1.2.1.length : Int)).toNat]?).bind fun _ => g ((t5.1.1, t5.1.2.1, (t5.1.2.2.1.set ((iadd .i64 t5.1.2.2.2.1 (t5.1.2.1.length : Int)).toNat) t5.1.2.2.2.2.1), (iadd .i64 t5.1.2.2.2.1 1), ()), ()) else none) else (some ((out_5, ()), ()))

def dendronref01_Times (a_0 : List Int) (b_1 : List Int) : Option (List Int) :=
  bif decide ((iadd .i64 (a_0.length : Int) (b_1.length : Int)) = (iadd .i64 (a_0.length : Int) (b_1.length : Int))) && decide (0 ≤ (iadd .i64 (a_0.length : Int) (b_1.length : Int))) && decide (((8 : Nat) : Int) * (iadd .i64 (a_0.length : Int) (b_1.length : Int)) ≤ 281474976710656) && decide ((iadd .i64 (a_0.length : Int) (b_1.length : Int)) ≤ 9223372036854775807) then (lp dendronref01_Times_s3 K0 ((a_0, b_1, (List.replicate (iadd .i64 (a_0.length : Int) (b_1.length : Int)).toNat (0 : Int)), 0, ()), ())).bind fun t7 => (dendronref01_Trim t7.1.1).bind fun r8 => some r8 else none

def c136 : Ctr := ⟨[((.sl (.int .i64)), .imm), ((.sl (.int .i64)), .imm)], [((.sl (.int .i64)), false)], (List Int), fun x => dendronref01_Times x.1 x.2.1, fun r => ((), (r, ())), none⟩

abbrev dendronref01_From_i4 : SG := ⟨[(0, .v (.sl (.int .u64))), (3, .o (.int .i64) 31), (4, .v (.sl (.int .i64))), (5, .v (.int .i64))], []⟩
abbrev dendronref01_From_o4 : List (Ex × SG) := [(.exit 0, ⟨[(3, .o (.int .i64) 31)], []⟩)]

def dendronref01_From_s4 (g : (((List Int) × (List Int) × (List Int) × Int × Unit) × Unit) → Option (((List Int) × Unit) × Unit)) : (((List Int) × (List Int) × (List Int) × Int × Unit) × Unit) → Option (((List Int) × Unit) × Unit)
  | ((a_0, out_3, unit_4, i_5, _), _) => bif (decide (i_5 ≥ 0)) then ((dendronref01_Times out_3 unit_4).bind fun r2 => bif decide (0 ≤ i_5) then (a_0[i_5.toNat]?).bind fun x3 => (dendronref01_Small (IntKind.wrap .i64 (iand .u64 x3 4294967295))).bind fun r4 => (dendronref01_Plus r2 r4).bind fun r5 => g ((a_0, r5, unit_4, (isub .i64 i_5 1), ()), ()) else none) else (some ((out_3, ()), ()))

def dendronref01_From (a_0 : List Int) : Option (List Int) :=
  (dendronref01_Small 4294967296).bind fun r1 => (lp dendronref01_From_s4 K0 ((a_0, [], r1, (isub .i64 (a_0.length : Int) 1), ()), ())).bind fun t6 => some t6.1.1

def c102 : Ctr := ⟨[((.sl (.int .u64)), .imm)], [((.sl (.int .i64)), true)], (List Int), fun x => dendronref01_From x.1, fun r => ((), (r, ())), none⟩

def dendronref02_Make (neg_0 : Bool) (n_1 : List Int) : Option (Bool × List Int) :=
  bif neg_0 then (some ((decide ((n_1.length : Int) > 0)), n_1)) else (some (false, n_1))

def c138 : Ctr := ⟨[(.bool, .imm), ((.sl (.int .i64)), .imm)], [((.pair .bool (.sl (.int .i64))), false)], (Bool × List Int), fun x => dendronref02_Make x.1 x.2.1, fun r => ((), (r, ())), none⟩

def dendronref02_Small (n_0 : Int) : Option (Bool × List Int) :=
  bif (decide (n_0 < 0)) then ((dendronref01_Small (isub .i64 0 (iadd .i64 n_0 1))).bind fun r1 => (dendronref01_Small 1).bind fun r2 => (dendronref01_Plus r1 r2).bind fun r3 => (dendronref02_Make true r3).bind fun r4 => some r4) else ((dendronref01_Small n_0).bind fun r5 => (dendronref02_Make false r5).bind fun r6 => some r6)

def c137 : Ctr := ⟨[((.int .i64), .imm)], [((.pair .bool (.sl (.int .i64))), false)], (Bool × List Int), fun x => dendronref02_Small x.1, fun r => ((), (r, ())), none⟩

def dendronref03_Small (n_0 : Int) (d_1 : Int) : Option ((Bool × List Int) × List Int) :=
  (dendronref02_Small n_0).bind fun r1 => (dendronref01_Small d_1).bind fun r2 => some (r1, r2)

def c103 : Ctr := ⟨[((.int .i64), .imm), ((.int .i64), .imm)], [((.pair (.pair .bool (.sl (.int .i64))) (.sl (.int .i64))), false)], ((Bool × List Int) × List Int), fun x => dendronref03_Small x.1 x.2.1, fun r => ((), (r, ())), none⟩

def dendronref02_From (a_0 : WH) : Option (Bool × List Int) :=
  (dendronref01_From a_0.2).bind fun r1 => (dendronref02_Make a_0.1 r1).bind fun r2 => some r2

def c104 : Ctr := ⟨[(tWH, .imm)], [((.pair .bool (.sl (.int .i64))), false)], (Bool × List Int), fun x => dendronref02_From x.1, fun r => ((), (r, ())), none⟩

def dendronref03_From (a_0 : RAT) : Option ((Bool × List Int) × List Int) :=
  (dendronref01_From a_0.2).bind fun r1 => bif (decide ((r1.length : Int) = 0)) then ((dendronref03_Small 0 1).bind fun r2 => some r2) else ((dendronref02_From a_0.1).bind fun r3 => some (r3, r1))

def c62 : Ctr := ⟨[(tRAT, .imm)], [((.pair (.pair .bool (.sl (.int .i64))) (.sl (.int .i64))), false)], ((Bool × List Int) × List Int), fun x => dendronref03_From x.1, fun r => ((), (r, ())), none⟩

abbrev dendronref01_Right_i2 : SG := ⟨[(0, .v (.sl (.int .u64))), (3, .v (.int .i64))], []⟩
abbrev dendronref01_Right_o2 : List (Ex × SG) := [(.exit 0, ⟨[(0, .v (.sl (.int .u64)))], []⟩), (.ret, ⟨[(2, .v .bool)], []⟩)]

def dendronref01_Right_s2 (g : (((List Int) × Int × Unit) × Unit) → Option ((((List Int) × Unit) × Unit) ⊕ ((Bool × Unit) × Unit))) : (((List Int) × Int × Unit) × Unit) → Option ((((List Int) × Unit) × Unit) ⊕ ((Bool × Unit) × Unit))
  | ((a_0, i_3, _), _) => bif (decide (i_3 < (a_0.length : Int))) then (bif decide (0 ≤ i_3) then (a_0[i_3.toNat]?).bind fun x1 => bif (decide (x1 > 4294967295)) then (some (.inr ((false, ()), ()))) else (g ((a_0, (iadd .i64 i_3 1), ()), ())) else none) else (some (.inl ((a_0, ()), ())))

def dendronref01_Right (a_0 : List Int) : Option Bool :=
  (lp dendronref01_Right_s2 K0 ((a_0, 0, ()), ())).bind fun t2 => (match t2 with | .inl t3 => bif (decide ((t3.1.1.length : Int) = 0)) then (some true) else (bif decide (0 ≤ (isub .i64 (t3.1.1.length : Int) 1)) then (t3.1.1[(isub .i64 (t3.1.1.length : Int) 1).toNat]?).bind fun x5 => some (!decide (x5 = 0)) else none) | .inr t4 => some t4.1.1)

def c128 : Ctr := ⟨[((.sl (.int .u64)), .imm)], [(.bool, false)], Bool, fun x => dendronref01_Right x.1, fun r => ((), (r, ())), none⟩

abbrev dendronref01_Order_i6 : SG := ⟨[(0, .v (.sl (.int .i64))), (1, .v (.sl (.int .i64))), (5, .v (.int .i64))], []⟩
abbrev dendronref01_Order_o6 : List (Ex × SG) := [(.exit 0, ⟨[], []⟩), (.ret, ⟨[(4, .v (.int .i64))], []⟩)]

def dendronref01_Order_s6 (g : (((List Int) × (List Int) × Int × Unit) × Unit) → Option ((Unit × Unit) ⊕ ((Int × Unit) × Unit))) : (((List Int) × (List Int) × Int × Unit) × Unit) → Option ((Unit × Unit) ⊕ ((Int × Unit) × Unit))
  | ((a_0, b_1, i_5, _), _) => bif (decide (i_5 ≥ 0)) then (bif decide (0 ≤ i_5) then (a_0[i_5.toNat]?).bind fun x1 => bif decide (0 ≤ i_5) then (b_1[i_5.toNat]?).bind fun x2 => bif (decide (x1 < x2)) then (some (.inr (((-1), ()), ()))) else (bif decide (0 ≤ i_5) then (a_0[i_5.toNat]?).bind fun x3 => bif decide (0 ≤ i_5) then (b_1[i_5.toNat]?).bind fun x4 => bif (decide (x3 > x4)) then (some (.inr ((1, ()), ()))) else (g ((a_0, b_1, (isub .i64 i_5 1), ()), ())) else none else none) else none else none) else (some (.inl ((()), ())))

def dendronref01_Order (a_0 : List Int) (b_1 : List Int) : Option Int :=
  bif (!decide ((a_0.length : Int) = (b_1.length : Int))) then (bif (decide ((a_0.length : Int) < (b_1.length : Int))) then (some (-1)) else (some 1)) else ((lp dendronref01_Order_s6 K0 ((a_0, b_1, (isub .i64 (a_0.length : Int) 1), ()), ())).bind fun t5 => (match t5 with | .inl t6 => some 0 | .inr t7 => some t7.1.1))

def c130 : Ctr := ⟨[((.sl (.int .i64)), .imm), ((.sl (.int .i64)), .imm)], [((.int .i64), false)], Int, fun x => dendronref01_Order x.1 x.2.1, fun r => ((), (r, ())), none⟩

abbrev dendronref01_Minus_i4 : SG := ⟨[(0, .v (.sl (.int .i64))), (1, .v (.sl (.int .i64))), (5, .o (.int .i64) 47), (6, .v (.int .i64)), (7, .v (.int .i64))], []⟩
abbrev dendronref01_Minus_o4 : List (Ex × SG) := [(.exit 0, ⟨[(5, .o (.int .i64) 47)], []⟩)]

def dendronref01_Minus_s4 (g : (((List Int) × (List Int) × (List Int) × Int × Int × Unit) × Unit) → Option (((List Int) × Unit) × Unit)) : (((List Int) × (List Int) × (List Int) × Int × Int × Unit) × Unit) → Option (((List Int) × Unit) × Unit)
  | ((a_0, b_1, out_5, c_6, i_7, _), _) => bif (decide (i_7 < (a_0.length : Int))) then (bif decide (0 ≤ i_7) then (a_0[i_7.toNat]?).bind fun x1 => (dendronref01_digit b_1 i_7).bind fun r2 => bif (decide ((isub .i64 (isub .i64 x1 r2) c_6) < 0)) then (bif Nat.ble ((out_5.length + 1) * 8) 140737488355328 && !false then g ((a_0, b_1, (out_5 ++ ([(iadd .i64 (isub .i64 (isub .i64 x1 r2) c_6) 10000)] : List Int)), 1, (iadd .i64 i_7 1), ()), ()) else none) else (bif Nat.ble ((out_5.length + 1) * 8) 140737488355328 && !false then g ((a_0, b_1, (out_5 ++ ([(isub .i64 (isub .i64 x1 r2) c_6)] : List Int)), 0, (iadd .i64 i_7 1), ()), ()) else none) else none) else (some ((out_5, ()), ()))

def dendronref01_Minus (a_0 : List Int) (b_1 : List Int) : Option (List Int) :=
  (lp dendronref01_Minus_s4 K0 ((a_0, b_1, [], 0, 0, ()), ())).bind fun t3 => (dendronref01_Trim t3.1.1).bind fun r4 => some r4

def c169 : Ctr := ⟨[((.sl (.int .i64)), .imm), ((.sl (.int .i64)), .imm)], [((.sl (.int .i64)), false)], (List Int), fun x => dendronref01_Minus x.1 x.2.1, fun r => ((), (r, ())), none⟩

abbrev dendronref01_Over_i12 : SG := ⟨[(0, .v (.sl (.int .i64))), (1, .v (.sl (.int .i64))), (6, .o (.int .i64) 55), (7, .v (.sl (.int .i64))), (8, .v (.int .i64)), (10, .v (.int .i64)), (11, .v (.int .i64))], []⟩
abbrev dendronref01_Over_o12 : List (Ex × SG) := [(.exit 2, ⟨[(0, .v (.sl (.int .i64))), (1, .v (.sl (.int .i64))), (6, .o (.int .i64) 55), (7, .v (.sl (.int .i64))), (8, .v (.int .i64)), (10, .v (.int .i64))], []⟩)]

def dendronref01_Over_s12 (g : (((List Int) × (List Int) × (List Int) × (List Int) × Int × Int × Int × Unit) × Unit) → Option (((List Int) × (List Int) × (List Int) × (List Int) × Int × Int × Unit) × Unit)) : (((List Int) × (List Int) × (List Int) × (List Int) × Int × Int × Int × Unit) × Unit) → Option (((List Int) × (List Int) × (List Int) × (List Int) × Int × Int × Unit) × Unit)
  | ((v_0, v_1, v_6, v_7, v_8, v_10, v_11, _), _) => bif (decide ((isub .i64 v_11 v_10) > 1)) then ((dendronref01_Small (iquo .i64 (iadd .i64 v_10 v_11) 2)).bind fun r3 => (dendronref01_Times v_1 r3).bind fun r4 => (dendronref01_Order r4 v_7).bind fun r5 => bif (decide (r5 ≤ 0)) then (g ((v_0, v_1, v_6, v_7, v_8, (iquo .i64 (iadd .i64 v_10 v_11) 2), v_11, ()), ())) else (g ((v_0, v_1, v_6, v_7, v_8, v_10, (iquo .i64 (iadd .i64 v_10 v_11) 2), ()), ()))) else (some ((v_0, v_1, v_6, v_7, v_8, v_10, ()), ()))

abbrev dendronref01_Over_i4 : SG := ⟨[(0, .v (.sl (.int .i64))), (1, .v (.sl (.int .i64))), (6, .o (.int .i64) 55), (7, .v (.sl (.int .i64))), (8, .v (.int .i64))], []⟩
abbrev dendronref01_Over_o4 : List (Ex × SG) := [(.exit 0, ⟨[(6, .o (.int .i64) 55), (7, .v (.sl (.int .i64)))], []⟩)]

def dendronref01_Over_s4 (g : (((List Int) × (List Int) × (List Int) × (List Int) × Int × Unit) × Unit) → Option (((List Int) × (List Int) × Unit) × Unit)) : (((List Int) × (List Int) × (List Int) × (List Int) × Int × Unit) × Unit) → Option (((List Int) × (List Int) × Unit) × Unit)
  | ((v_0, v_1, v_6, v_7, v_8, _), _) => bif (decide (v_8 ≥ 0)) then (bif decide (0 ≤ v_8) then (v_0[v_8.toNat]?).bind fun x1 => bif Nat.ble ((([x1] : List Int).length + v_7.length) * 8) 140737488355328 && !false then (dendronref01_Trim (([x1] : List Int) ++ v_7)).bind fun r2 => (lp dendronref01_Over_s12 K0 ((v_0, v_1, v_6, r2, v_8, 0, 10000, ()), ())).bind fun t6 => bif decide (0 ≤ t6.1.2.2.2.2.1) && decide (t6.1.2.2.2.2.1 < (t6.1.2.2.1.length : Int)) then (t6.1.2.2.1[t6.1.2.2.2.2.1.toNat]?).bind fun _ => (dendronref01_Small t6.1.2.2.2.2.2.1).bind fun r8 => (dendronref01_Times t6.1.2.1 r8).bind fun r9 => (dendronref01_Minus t6.1.2.2.2.1 r9).bind fun r10 => g ((t6.1.1, t6.1.2.1, (t6.1.2.2.1.set t6.1.2.2.2.2.1.toNat t6.1.2.2.2.2.2.1), r10, (isub .i64 t6.1.2.2.2.2.1 1), ()), ()) else none else none else none) else (some ((v_6, v_7, ()), ()))

def dendronref01_Over (a_0 : List Int) (a_1 : List Int) : Option ((List Int) × (List Int)) :=
  bif decide ((a_0.length : Int) = (a_0.length : Int)) && decide (0 ≤ (a_0.length : Int)) && decide (((8 : Nat) : Int) * (a_0.length : Int) ≤ 281474976710656) && decide ((a_0.length : Int) ≤ 9223372036854775807) then (lp dendronref01_Over_s4 K0 ((a_0, a_1, (List.replicate (a_0.length : Int).toNat (0 : Int)), [], (isub .i64 (a_0.length : Int) 1), ()), ())).bind fun t11 => (dendronref01_Trim t11.1.1).bind fun r12 => some (r12, t11.1.2.1) else none

def c158 : Ctr := ⟨[((.sl (.int .i64)), .imm), ((.sl (.int .i64)), .imm)], [((.sl (.int .i64)), false), ((.sl (.int .i64)), false)], (List Int) × (List Int), fun x => dendronref01_Over x.1 x.2.1, fun r => ((), (r.1, r.2, ())), none⟩

abbrev dendronref01_Gcd_i1 : SG := ⟨[(0, .v (.sl (.int .i64))), (1, .v (.sl (.int .i64)))], []⟩
abbrev dendronref01_Gcd_o1 : List (Ex × SG) := [(.exit 0, ⟨[(0, .v (.sl (.int .i64)))], []⟩)]

def dendronref01_Gcd_s1 (g : (((List Int) × (List Int) × Unit) × Unit) → Option (((List Int) × Unit) × Unit)) : (((List Int) × (List Int) × Unit) × Unit) → Option (((List Int) × Unit) × Unit)
  | ((a_0, b_1, _), _) => bif (decide ((b_1.length : Int) > 0)) then ((dendronref01_Over a_0 b_1).bind fun r1 => g ((b_1, r1.2, ()), ())) else (some ((a_0, ()), ()))

def dendronref01_Gcd (a_0 : List Int) (b_1 : List Int) : Option (List Int) :=
  (lp dendronref01_Gcd_s1 K0 ((a_0, b_1, ()), ())).bind fun t2 => some t2.1.1

def c129 : Ctr := ⟨[((.sl (.int .i64)), .imm), ((.sl (.int .i64)), .imm)], [((.sl (.int .i64)), false)], (List Int), fun x => dendronref01_Gcd x.1 x.2.1, fun r => ((), (r, ())), none⟩

def dendronref03_Right (a_0 : RAT) : Option Bool :=
  (dendronref01_Right a_0.1.2).bind fun r1 => bif (!r1) then (some false) else ((dendronref01_Right a_0.2).bind fun r2 => bif (!r2) then (some false) else (bif (decide ((a_0.2.length : Int) = 0)) then (some false) else (bif (decide ((a_0.1.2.length : Int) = 0)) then (bif a_0.1.1 then (some false) else ((dendronref01_From a_0.1.2).bind fun r3 => (dendronref01_From a_0.2).bind fun r4 => (dendronref01_Gcd r3 r4).bind fun r5 => (dendronref01_Small 1).bind fun r6 => (dendronref01_Order r5 r6).bind fun r7 => some (decide (r7 = 0)))) else ((dendronref01_From a_0.1.2).bind fun r8 => (dendronref01_From a_0.2).bind fun r9 => (dendronref01_Gcd r8 r9).bind fun r10 => (dendronref01_Small 1).bind fun r11 => (dendronref01_Order r10 r11).bind fun r12 => some (decide (r12 = 0))))))

def c100 : Ctr := ⟨[(tRAT, .imm)], [(.bool, false)], Bool, fun x => dendronref03_Right x.1, fun r => ((), (r, ())), none⟩

def dendronref02_Order (a_0 : Bool × List Int) (b_1 : Bool × List Int) : Option Int :=
  bif a_0.1 then (bif (!b_1.1) then (some (-1)) else (bif (!a_0.1) then (bif b_1.1 then (some 1) else (bif a_0.1 then ((dendronref01_Order b_1.2 a_0.2).bind fun r1 => some r1) else ((dendronref01_Order a_0.2 b_1.2).bind fun r2 => some r2))) else (bif a_0.1 then ((dendronref01_Order b_1.2 a_0.2).bind fun r3 => some r3) else ((dendronref01_Order a_0.2 b_1.2).bind fun r4 => some r4)))) else (bif (!a_0.1) then (bif b_1.1 then (some 1) else (bif a_0.1 then ((dendronref01_Order b_1.2 a_0.2).bind fun r5 => some r5) else ((dendronref01_Order a_0.2 b_1.2).bind fun r6 => some r6))) else (bif a_0.1 then ((dendronref01_Order b_1.2 a_0.2).bind fun r7 => some r7) else ((dendronref01_Order a_0.2 b_1.2).bind fun r8 => some r8)))

def c132 : Ctr := ⟨[((.pair .bool (.sl (.int .i64))), .imm), ((.pair .bool (.sl (.int .i64))), .imm)], [((.int .i64), false)], Int, fun x => dendronref02_Order x.1 x.2.1, fun r => ((), (r, ())), none⟩

def dendronref02_Times (a_0 : Bool × List Int) (b_1 : Bool × List Int) : Option (Bool × List Int) :=
  (dendronref01_Times a_0.2 b_1.2).bind fun r1 => (dendronref02_Make (!(a_0.1 == b_1.1)) r1).bind fun r2 => some r2

def c133 : Ctr := ⟨[((.pair .bool (.sl (.int .i64))), .imm), ((.pair .bool (.sl (.int .i64))), .imm)], [((.pair .bool (.sl (.int .i64))), false)], (Bool × List Int), fun x => dendronref02_Times x.1 x.2.1, fun r => ((), (r, ())), none⟩

def dendronref03_den (a_0 : (Bool × List Int) × List Int) : Option (Bool × List Int) :=
  (dendronref02_Make false a_0.2).bind fun r1 => some r1

def c134 : Ctr := ⟨[((.pair (.pair .bool (.sl (.int .i64))) (.sl (.int .i64))), .imm)], [((.pair .bool (.sl (.int .i64))), false)], (Bool × List Int), fun x => dendronref03_den x.1, fun r => ((), (r, ())), none⟩

def dendronref03_Order (a_0 : (Bool × List Int) × List Int) (b_1 : (Bool × List Int) × List Int) : Option Int :=
  (dendronref03_den b_1).bind fun r1 => (dendronref02_Times a_0.1 r1).bind fun r2 => (dendronref03_den a_0).bind fun r3 => (dendronref02_Times b_1.1 r3).bind fun r4 => (dendronref02_Order r2 r4).bind fun r5 => some r5

def c101 : Ctr := ⟨[((.pair (.pair .bool (.sl (.int .i64))) (.sl (.int .i64))), .imm), ((.pair (.pair .bool (.sl (.int .i64))) (.sl (.int .i64))), .imm)], [((.int .i64), false)], Int, fun x => dendronref03_Order x.1 x.2.1, fun r => ((), (r, ())), none⟩

def dendronref03_Is (a_0 : RAT) (x_1 : (Bool × List Int) × List Int) : Option Bool :=
  (dendronref03_Right a_0).bind fun r1 => bif r1 then ((dendronref03_From a_0).bind fun r2 => (dendronref03_Order r2 x_1).bind fun r3 => some (decide (r3 = 0))) else (some false)

def c61 : Ctr := ⟨[(tRAT, .imm), ((.pair (.pair .bool (.sl (.int .i64))) (.sl (.int .i64))), .imm)], [(.bool, false)], Bool, fun x => dendronref03_Is x.1 x.2.1, fun r => ((), (r, ())), none⟩

def dendronref10_Is (a_0 : RAT) (b_1 : RAT) : Option Bool :=
  (dendronref03_From b_1).bind fun r1 => (dendronref03_Is a_0 r1).bind fun r2 => some r2

def c26 : Ctr := ⟨[(tRAT, .imm), (tRAT, .imm)], [(.bool, false)], Bool, fun x => dendronref10_Is x.1 x.2.1, fun r => ((), (r, ())), none⟩

abbrev dendronlaw13_DependCurves_i11 : SG := ⟨[(5, .p 40 0 0), (7, .v (.sl tRAT)), (8, .o tRAT 71), (9, .p 72 0 0), (11, .o tRAT 95), (13, .p 104 0 0), (15, .v (.int .i64))], [(40, [.v .bool, .v .bool, .v (.sl (.int .u64)), .v (.sl (.int .u64))]), (72, [.v .bool, .v (.sl (.int .u64)), .v (.sl (.int .u64))]), (104, [.v .bool, .v (.sl (.int .u64)), .v (.sl (.int .u64))])]⟩
abbrev dendronlaw13_DependCurves_o11 : List (Ex × SG) := [(.exit 0, ⟨[(5, .p 40 0 0), (7, .v (.sl tRAT)), (8, .o tRAT 71), (9, .p 72 0 0), (13, .p 104 0 0)], [(40, [.v .bool, .v .bool, .v (.sl (.int .u64)), .v (.sl (.int .u64))]), (72, [.v .bool, .v (.sl (.int .u64)), .v (.sl (.int .u64))]), (104, [.v .bool, .v (.sl (.int .u64)), .v (.sl (.int .u64))])]⟩), (.ret, ⟨[(6, .v .bool)], []⟩)]

def dendronlaw13_DependCurves_s11 (g : (((List RAT) × (List RAT) × (List RAT) × Int × Unit) × ((Bool × Bool × (List Int) × (List Int) × Unit) × (Bool × (List Int) × (List Int) × Unit) × (Bool × (List Int) × (List Int) × Unit) × Unit)) → Option ((((List RAT) × (List RAT) × Unit) × ((Bool × Bool × (List Int) × (List Int) × Unit) × (Bool × (List Int) × (List Int) × Unit) × (Bool × (List Int) × (List Int) × Unit) × Unit)) ⊕ ((Bool × Unit) × Unit))) : (((List RAT) × (List RAT) × (List RAT) × Int × Unit) × ((Bool × Bool × (List Int) × (List Int) × Unit) × (Bool × (List Int) × (List Int) × Unit) × (Bool × (List Int) × (List Int) × Unit) × Unit)) → Option ((((List RAT) × (List RAT) × Unit) × ((Bool × Bool × (List Int) × (List Int) × Unit) × (Bool × (List Int) × (List Int) × Unit) × (Bool × (List Int) × (List Int) × Unit) × Unit)) ⊕ ((Bool × Unit) × Unit))
  | ((v_7, v_8, v_11, v_15, _), ((b40_0, b40_1, b40_2, b40_3, _), (b72_0, b72_1, b72_2, _), (b104_0, b104_1, b104_2, _), _)) => bif (decide (v_15 < (v_7.length : Int))) then (bif decide (0 ≤ v_15) then (v_7[v_15.toNat]?).bind fun x10 => bif decide (0 ≤ v_15) && decide (v_15 < (v_11.length : Int)) then (v_11[v_15.toNat]?).bind fun x11 => (dendronref10_Is x10 x11).bind fun r12 => bif (!r12) then (some (.inr ((false, ()), ()))) else (g ((v_7, v_8, v_11, (iadd .i64 v_15 1), ()), ((b40_0, b40_1, b40_2, b40_3, ()), (b72_0, b72_1, b72_2, ()), (b104_0, b104_1, b104_2, ()), ()))) else none else none) else (some (.inl ((v_7, v_8, ()), ((b40_0, b40_1, b40_2, b40_3, ()), (b72_0, b72_1, b72_2, ()), (b104_0, b104_1, b104_2, ()), ()))))

def dendronlaw13_DependCurves (a_0 : MODEL) (a_1 : Int) (a_2 : CELL) : Option Bool :=
  (dendronlaw11_Small a_0 ([])).bind fun r1 => (dendronlaw09_Few ([a_2] : List CELL) 1).bind fun r2 => bif decide ((0 : Int) < (r2.length : Int)) then (r2[0]?).bind fun x3 => (depend_Curve r1.1 a_1).bind fun r4 => (dendronlaw13_why r1.1 a_1).bind fun r5 => bif (!decide (r5 = 0)) then (bif (decide ((iadd .i64 (r4.1.length : Int) (r4.2.1.length : Int)) = 0)) then (bif (decide ((r4.2.2.1.2.length : Int) = 0)) then ((dendronlaw13_why r1.1 a_1).bind fun r6 => bif (decide (r4.2.2.2 = r6)) then ((dendronlaw13_awake ).bind fun r7 => some r7) else (some false)) else (some false)) else (some false)) else ((route_Steps r1.1 a_1).bind fun r8 => (depend_Cover r1.1 a_1 x3).bind fun r9 => bif (!decide (r4.2.2.2 = 0)) then (some false) else (bif (!decide (r8.2 = 0)) then (some false) else (bif (!decide (r9.2 = 0)) then (some false) else (bif (!decide ((r4.1.length : Int) = (r8.1.length : Int))) then (some false) else (bif (!decide ((r4.2.1.length : Int) = (r4.1.length : Int))) then (some false) else ((lp dendronlaw13_DependCurves_s11 K0 ((r4.1, r4.2.1, r8.1, 0, ()), ((x3.1, x3.2.1.1, x3.2.1.2, x3.2.2, ()), (r4.2.2.1.1.1, r4.2.2.1.1.2, r4.2.2.1.2, ()), (r9.1.1.1, r9.1.1.2, r9.1.2, ()), ()))).bind fun t13 => (match t13 with | .inl t14 => bif t14.2.1.1 then ((dendronref10_Is ((t14.2.2.1.1, t14.2.2.1.2.1), t14.2.2.1.2.2.1) ((t14.2.2.2.1.1, t14.2.2.2.1.2.1), t14.2.2.2.1.2.2.1)).bind fun r16 => bif r16 then ((dendronlaw13_awake ).bind fun r17 => some r17) else (some false)) else ((depend_At t14.1.1 ((t14.2.1.2.1, t14.2.1.2.2.1), t14.2.1.2.2.2.1)).bind fun r18 => bif (decide (r18 ≥ 0)) then (bif (decide (r18 < (t14.1.2.1.length : Int))) then (bif decide (0 ≤ r18) && decide (r18 < (t14.1.2.1.length : Int)) then (t14.1.2.1[r18.toNat]?).bind fun x19 => (dendronref10_Is x19 ((t14.2.2.2.1.1, t14.2.2.2.1.2.1), t14.2.2.2.1.2.2.1)).bind fun r20 => bif r20 then ((dendronlaw13_awake ).bind fun r21 => some r21) else (some false) else none) else (some false)) else (some false)) | .inr t15 => some t15.1.1))))))) else none

def c5 : Ctr := ⟨[(tMODEL, .imm), ((.int .i64), .imm), (tCELL, .imm)], [(.bool, false)], Bool, fun x => dendronlaw13_DependCurves x.1 x.2.1 x.2.2.1, fun r => ((), (r, ())), none⟩

def dendronlaw10_Why (m_0 : MODEL) (row_1 : List CELL) : Option Int :=
  (valid_Ok m_0).bind fun r1 => bif (!r1) then (some 1) else (bif (!decide ((row_1.length : Int) = m_0.1)) then (some 14) else (some 0))

end Go.Proofs.YtpjgaieoijpagaaGreatDoor.X

