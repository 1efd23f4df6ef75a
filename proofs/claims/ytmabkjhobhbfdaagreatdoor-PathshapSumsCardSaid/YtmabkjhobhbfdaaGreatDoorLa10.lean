/- Own work: part of the proof; the first line of each part says what it tells. -/
import Derived.Test.YtmabkjhobhbfdaaGreatDoorLa7


namespace Go.Proofs.YtmabkjhobhbfdaaGreatDoor.X
open Go
set_option linter.unusedVariables false
set_option linter.unusedSimpArgs false
set_option maxRecDepth 100000
abbrev e60:List (Nat×Ctr):=[]
def qlV:LH
 | 4=>some ⟨qgT,qh3,lp qd0 K0⟩
 | _=>none
theorem qtk (g:qgT.V->Option (OT qh3)) (v:qgT.V):q10q tb (envL e60) 23 qlV (q3q 2 (q4q Tryz.f60) .skip) qgT qh3 g v=qd0 g v:=by kernel_rfl
theorem qtl (a_0:List Int):fnF tb (envL e60) Tryz.f60 qlV c60.ps c60.rs (T:=(List Int)) (fun y=>(y.2.1)) (a_0,())=qej a_0:=by kernel_rfl
abbrev e40:List (Nat×Ctr):=[(60,c60)]
def qsj:LH
 | _=>none
theorem qwi (n_0:Int):fnF tb (envL e40) Tryz.f40 qsj c40.ps c40.rs (T:=(List Int)) (fun y=>(y.2.1)) (n_0,())=qkp n_0:=by kernel_rfl
abbrev e63:List (Nat×Ctr):=[]
def qmj:LH
 | _=>none
theorem qqo (neg_0:Bool) (abs_1:List Int):fnF tb (envL e63) Tryz.f63 qmj c63.ps c63.rs (T:=WH) (fun y=>(y.2.1)) (neg_0,abs_1,())=qdt neg_0 abs_1:=by kernel_rfl
abbrev e52:List (Nat×Ctr):=[(40,c40),(63,c63)]
def qox:LH
 | _=>none
theorem qsW (n_0:Int):fnF tb (envL e52) Tryz.f52 qox c52.ps c52.rs (T:=WH) (fun y=>(y.2.1)) (n_0,())=qgY n_0:=by kernel_rfl
abbrev e23:List (Nat×Ctr):=[(40,c40),(52,c52)]
def qoU:LH
 | _=>none
theorem qs8 (n_0:Int):fnF tb (envL e23) Tryz.f23 qoU c23.ps c23.rs (T:=RAT) (fun y=>(y.2.1)) (n_0,())=qi9 n_0:=by kernel_rfl
abbrev e8:List (Nat×Ctr):=[(23,c23)]
def qnZ:LH
 | _=>none
theorem qrK :fnF tb (envL e8) Tryz.f8 qnZ c8.ps c8.rs (T:=RAT) (fun y=>(y.2.1)) ()=qd6 :=by kernel_rfl
abbrev e5:List (Nat×Ctr):=[(8,c8)]
def qkb:LH
 | _=>none
theorem qo3 :fnFB tb (envL e5) Tryz.f5 qkb w5 c5.ps c5.rs (T:=(List (Int×RAT×CELL))) (fun y=>(y.2.1)) ()=qfN :=by kernel_rfl
abbrev e15:List (Nat×Ctr):=[(40,c40)]
def qms:LH
 | _=>none
theorem qqJ :fnF tb (envL e15) Tryz.f15 qms c15.ps c15.rs (T:=RAT) (fun y=>(y.2.1)) ()=qeg :=by kernel_rfl
abbrev e49:List (Nat×Ctr):=[(60,c60)]
def qkr:LH
 | 6=>some ⟨qfV,qhf,lp qde K0⟩
 | _=>none
theorem qsl (g:qfV.V->Option (OT qhf)) (v:qfV.V):q10q tb (envL e49) 24 qkr (q3q 3 (q4q Tryz.f49) .skip) qfV qhf g v=qde g v:=by kernel_rfl
theorem qsm (a_0:List Int):fnF tb (envL e49) Tryz.f49 qkr c49.ps c49.rs (T:=(List Int)) (fun y=>(y.2.1)) (a_0,())=qbZ a_0:=by kernel_rfl
abbrev e107:List (Nat×Ctr):=[(49,c49)]
def qsi:LH
 | _=>none
theorem qwh (a_0:List Int):fnF tb (envL e107) Tryz.f107 qsi c107.ps c107.rs (T:=Int×Bool) (fun y=>(y.2.1,y.2.2.1)) (a_0,())=qp5 a_0:=by kernel_rfl
abbrev e79:List (Nat×Ctr):=[(40,c40),(107,c107)]
def qjp:LH
 | 6=>some ⟨qeV,qgh,lp qdd K0⟩
 | _=>none
theorem qqU (g:qeV.V->Option (OT qgh)) (v:qeV.V):q10q tb (envL e79) 27 qjp (q3q 3 (q4q Tryz.f79) .skip) qeV qgh g v=qdd g v:=by kernel_rfl
theorem qqV (a_0:List Int) (b_1:List Int):fnF tb (envL e79) Tryz.f79 qjp c79.ps c79.rs (T:=(List Int)) (fun y=>(y.2.1)) (a_0,b_1,())=qiV a_0 b_1:=by kernel_rfl
abbrev e80:List (Nat×Ctr):=[(108,c108)]
def qki:LH
 | 6=>some ⟨qfP,qg9,lp qdS K0⟩
 | _=>none
theorem qr4 (g:qfP.V->Option (OT qg9)) (v:qfP.V):q10q tb (envL e80) 24 qki (q3q 3 (q4q Tryz.f80) .skip) qfP qg9 g v=qdS g v:=by kernel_rfl
theorem qr5 (a_0:List Int):fnF tb (envL e80) Tryz.f80 qki c80.ps c80.rs (T:=Int) (fun y=>(y.2.1)) (a_0,())=qcb a_0:=by kernel_rfl
abbrev e88:List (Nat×Ctr):=[]
def qo9:LH
 | _=>none
theorem qtt (a_0:List Int) (i_1:Int):fnF tb (envL e88) Tryz.f88 qo9 c88.ps c88.rs (T:=Int) (fun y=>(y.2.1)) (a_0,i_1,())=qg0 a_0 i_1:=by kernel_rfl
abbrev e81:List (Nat×Ctr):=[(60,c60),(88,c88)]
def qno:LH
 | 12=>some ⟨qhM,qiT,lp qeT K0⟩
 | _=>none
theorem qu2 (g:qhM.V->Option (OT qiT)) (v:qhM.V):q10q tb (envL e81) 50 qno (q3q 6 (q4q Tryz.f81) .skip) qhM qiT g v=qeT g v:=by kernel_rfl
theorem qu3 (a_0:List Int) (n_1:Int):fnF tb (envL e81) Tryz.f81 qno c81.ps c81.rs (T:=(List Int)) (fun y=>(y.2.1)) (a_0,n_1,())=qd1 a_0 n_1:=by kernel_rfl
abbrev e82:List (Nat×Ctr):=[]
def qkl:LH
 | 12=>some ⟨qfR,qhb,lp qcO K0⟩
 | _=>none
theorem qsa (g:qfR.V->Option (OT qhb)) (v:qfR.V):q10q tb (envL e82) 45 qkl (q3q 6 (q4q Tryz.f82) .skip) qfR qhb g v=qcO g v:=by kernel_rfl
theorem qsb (a_0:List Int) (b_1:List Int):fnF tb (envL e82) Tryz.f82 qkl c82.ps c82.rs (T:=Int) (fun y=>(y.2.1)) (a_0,b_1,())=qhc a_0 b_1:=by kernel_rfl
abbrev e83:List (Nat×Ctr):=[(60,c60)]
def qnp:LH
 | 8=>some ⟨qhN,qiU,lp qeU K0⟩
 | _=>none
theorem qu5 (g:qhN.V->Option (OT qiU)) (v:qhN.V):q10q tb (envL e83) 51 qnp (q3q 4 (q4q Tryz.f83) .skip) qhN qiU g v=qeU g v:=by kernel_rfl
theorem qu6 (a_0:List Int) (n_1:Int):fnF tb (envL e83) Tryz.f83 qnp c83.ps c83.rs (T:=(List Int)) (fun y=>(y.2.1)) (a_0,n_1,())=qh5 a_0 n_1:=by kernel_rfl
abbrev e86:List (Nat×Ctr):=[(60,c60)]
def qkj:LH
 | 8=>some ⟨qfQ,qha,lp qdT K0⟩
 | _=>none
theorem qr7 (g:qfQ.V->Option (OT qha)) (v:qfQ.V):q10q tb (envL e86) 38 qkj (q3q 4 (q4q Tryz.f86) .skip) qfQ qha g v=qdT g v:=by kernel_rfl
theorem qr8 (a_0:List Int) (d_1:Int):fnF tb (envL e86) Tryz.f86 qkj c86.ps c86.rs (T:=(List Int)×Int) (fun y=>(y.2.1,y.2.2.1)) (a_0,d_1,())=qkk a_0 d_1:=by kernel_rfl
abbrev e109:List (Nat×Ctr):=[(119,c119)]
def qgL:LH
 | _=>none
theorem qjV (x_0:Int):fnF tb (envL e109) Tryz.f109 qgL c109.ps c109.rs (T:=Int) (fun y=>(y.2.1)) (x_0,())=qc3 x_0:=by kernel_rfl
abbrev e120:List (Nat×Ctr):=[(88,c88)]
def qlW:LH
 | 6=>some ⟨qgU,qh4,lp qeH K0⟩
 | _=>none
theorem qtn (g:qgU.V->Option (OT qh4)) (v:qgU.V):q10q tb (envL e120) 46 qlW (q3q 3 (q4q Tryz.f120) .skip) qgU qh4 g v=qeH g v:=by kernel_rfl
theorem qto (u_0:List Int) (v_1:List Int) (times_2:Int):fnF tb (envL e120) Tryz.f120 qlW c120.ps c120.rs (T:=(List Int)×Bool) (fun y=>(y.1.1,y.2.1)) (u_0,v_1,times_2,())=qmF u_0 v_1 times_2:=by kernel_rfl
abbrev e121:List (Nat×Ctr):=[(88,c88)]
def qlY:LH
 | 4=>some ⟨qgW,qh7,lp qeI K0⟩
 | _=>none
theorem qtv (g:qgW.V->Option (OT qh7)) (v:qgW.V):q10q tb (envL e121) 29 qlY (q3q 2 (q4q Tryz.f121) .skip) qgW qh7 g v=qeI g v:=by kernel_rfl
theorem qtw (u_0:List Int) (v_1:List Int):fnF tb (envL e121) Tryz.f121 qlY c121.ps c121.rs (T:=(List Int)) (fun y=>(y.1.1)) (u_0,v_1,())=qmJ u_0 v_1:=by kernel_rfl
abbrev e110:List (Nat×Ctr):=[(120,c120),(121,c121)]
def qkn:LH
 | 8=>some ⟨qfT,qhe,lp qbA K0⟩
 | _=>none
theorem qsg (g:qfT.V->Option (OT qhe)) (v:qfT.V):q10q tb (envL e110) 77 qkn (q3q 4 (q4q Tryz.f110) .skip) qfT qhe g v=qbA g v:=by kernel_rfl
theorem qsh (a_0:List Int) (a_1:List Int):fnF tb (envL e110) Tryz.f110 qkn c110.ps c110.rs (T:=(List Int)×Int) (fun y=>(y.1.1,y.2.1)) (a_0,a_1,())=qiW a_0 a_1:=by kernel_rfl
abbrev e87:List (Nat×Ctr):=[(60,c60),(81,c81),(83,c83),(109,c109),(110,c110)]
def qlX:LH
 | 14=>some ⟨qgV,qh6,lp qd2 K0⟩
 | _=>none
theorem qtr (g:qgV.V->Option (OT qh6)) (v:qgV.V):q10q tb (envL e87) 64 qlX (q3q 7 (q4q Tryz.f87) .skip) qgV qh6 g v=qd2 g v:=by kernel_rfl
theorem qts (a_0:List Int) (b_1:List Int):fnF tb (envL e87) Tryz.f87 qlX c87.ps c87.rs (T:=(List Int)×(List Int)) (fun y=>(y.2.1,y.2.2.1)) (a_0,b_1,())=qmI a_0 b_1:=by kernel_rfl
abbrev e62:List (Nat×Ctr):=[(40,c40),(49,c49),(82,c82),(86,c86),(87,c87)]
def qmK:LH
 | _=>none
theorem qqW (a_0:List Int) (b_1:List Int):fnF tb (envL e62) Tryz.f62 qmK c62.ps c62.rs (T:=(List Int)×(List Int)×Int) (fun y=>(y.2.1,y.2.2.1,y.2.2.2.1)) (a_0,b_1,())=qeX a_0 b_1:=by kernel_rfl
abbrev e84:List (Nat×Ctr):=[(62,c62)]
def qo8:LH
 | _=>none
theorem qtp (a_0:List Int) (b_1:List Int):fnF tb (envL e84) Tryz.f84 qo8 c84.ps c84.rs (T:=(List Int)×(List Int)) (fun y=>(y.2.1,y.2.2.1)) (a_0,b_1,())=qie a_0 b_1:=by kernel_rfl
abbrev e85:List (Nat×Ctr):=[(60,c60),(88,c88)]
def qkm:LH
 | 8=>some ⟨qfS,qhd,lp qdU K0⟩
 | _=>none
theorem qsd (g:qfS.V->Option (OT qhd)) (v:qfS.V):q10q tb (envL e85) 39 qkm (q3q 4 (q4q Tryz.f85) .skip) qfS qhd g v=qdU g v:=by kernel_rfl
theorem qse (a_0:List Int) (b_1:List Int):fnF tb (envL e85) Tryz.f85 qkm c85.ps c85.rs (T:=(List Int)) (fun y=>(y.2.1)) (a_0,b_1,())=qgg a_0 b_1:=by kernel_rfl
abbrev e61:List (Nat×Ctr):=[(49,c49),(79,c79),(80,c80),(81,c81),(82,c82),(83,c83),(84,c84),(85,c85)]
def qnq:LH
 | 20=>some ⟨qgX,qh8,lp qbY K0⟩
 | _=>none
theorem qty (g:qgX.V->Option (OT qh8)) (v:qgX.V):q10q tb (envL e61) 86 qnq (q3q 10 (q4q Tryz.f61) .skip) qgX qh8 g v=qbY g v:=by kernel_rfl
theorem qvd (a_0:List Int) (a_1:List Int):fnF tb (envL e61) Tryz.f61 qnq c61.ps c61.rs (T:=(List Int)) (fun y=>(y.2.1)) (a_0,a_1,())=qpa a_0 a_1:=by kernel_rfl
abbrev e41:List (Nat×Ctr):=[(40,c40),(61,c61),(62,c62)]
def qmr:LH
 | _=>none
theorem qqI (num_0:WH) (den_1:List Int):fnF tb (envL e41) Tryz.f41 qmr c41.ps c41.rs (T:=RAT) (fun y=>(y.2.1)) (num_0,den_1,())=qef num_0 den_1:=by kernel_rfl
abbrev e50:List (Nat×Ctr):=[(49,c49),(63,c63)]
def qlI:LH
 | _=>none
theorem qpB (a_0:WH):fnF tb (envL e50) Tryz.f50 qlI c50.ps c50.rs (T:=WH) (fun y=>(y.2.1)) (a_0,())=qbr a_0:=by kernel_rfl
abbrev e20:List (Nat×Ctr):=[(15,c15),(41,c41),(49,c49),(50,c50)]
def qlM:LH
 | _=>none
theorem qpL (a_0:RAT):fnF tb (envL e20) Tryz.f20 qlM c20.ps c20.rs (T:=RAT) (fun y=>(y.2.1)) (a_0,())=qbs a_0:=by kernel_rfl
abbrev e64:List (Nat×Ctr):=[(49,c49),(60,c60),(88,c88)]
def qnr:LH
 | 10=>some ⟨qhQ,qiZ,lp qfW K0⟩
 | _=>none
theorem qvg (g:qhQ.V->Option (OT qiZ)) (v:qhQ.V):q10q tb (envL e64) 43 qnr (q3q 5 (q4q Tryz.f64) .skip) qhQ qiZ g v=qfW g v:=by kernel_rfl
theorem qvh (a_0:List Int) (b_1:List Int):fnF tb (envL e64) Tryz.f64 qnr c64.ps c64.rs (T:=(List Int)) (fun y=>(y.2.1)) (a_0,b_1,())=qns a_0 b_1:=by kernel_rfl
abbrev e65:List (Nat×Ctr):=[(49,c49),(82,c82)]
def qp7:LH
 | _=>none
theorem qve (a_0:List Int) (b_1:List Int):fnF tb (envL e65) Tryz.f65 qp7 c65.ps c65.rs (T:=Int) (fun y=>(y.2.1)) (a_0,b_1,())=qim a_0 b_1:=by kernel_rfl
abbrev e66:List (Nat×Ctr):=[(49,c49),(82,c82),(85,c85)]
def qp6:LH
 | _=>none
theorem qu7 (a_0:List Int) (b_1:List Int):fnF tb (envL e66) Tryz.f66 qp6 c66.ps c66.rs (T:=(List Int)×Int) (fun y=>(y.2.1,y.2.2.1)) (a_0,b_1,())=qko a_0 b_1:=by kernel_rfl
abbrev e42:List (Nat×Ctr):=[(50,c50),(63,c63),(64,c64),(65,c65),(66,c66)]
def qnO:LH
 | _=>none
theorem qrp (a_0:WH) (b_1:WH):fnF tb (envL e42) Tryz.f42 qnO c42.ps c42.rs (T:=WH) (fun y=>(y.2.1)) (a_0,b_1,())=qjX a_0 b_1:=by kernel_rfl
abbrev e45:List (Nat×Ctr):=[(49,c49),(60,c60)]
def qlf:LH
 | 16=>some ⟨qhO,qiX,lp qeW K0⟩
 | 8=>some ⟨qhP,qiY,lp qfU K0⟩
 | _=>none
theorem qva (g:qhO.V->Option (OT qiX)) (v:qhO.V):q10q tb (envL e45) 67 qlf (q3q 8 (q4q Tryz.f45) .skip) qhO qiX g v=qeW g v:=by kernel_rfl
theorem qvb (g:qhP.V->Option (OT qiY)) (v:qhP.V):q10q tb (envL e45) 67 qlf (q3q 4 (q4q Tryz.f45) .skip) qhP qiY g v=qfU g v:=by kernel_rfl
theorem qvc (a_0:List Int) (a_1:List Int):fnF tb (envL e45) Tryz.f45 qlf c45.ps c45.rs (T:=(List Int)) (fun y=>(y.2.1)) (a_0,a_1,())=qkq a_0 a_1:=by kernel_rfl
abbrev e43:List (Nat×Ctr):=[(45,c45),(50,c50),(63,c63)]
def qnM:LH
 | _=>none
theorem qrn (a_0:WH) (b_1:WH):fnF tb (envL e43) Tryz.f43 qnM c43.ps c43.rs (T:=WH) (fun y=>(y.2.1)) (a_0,b_1,())=qdu a_0 b_1:=by kernel_rfl
abbrev e44:List (Nat×Ctr):=[]
def qnW:LH
 | _=>none
theorem qrD (a_0:RAT):fnF tb (envL e44) Tryz.f44 qnW c44.ps c44.rs (T:=WH) (fun y=>(y.2.1)) (a_0,())=qf9 a_0:=by kernel_rfl
abbrev e16:List (Nat×Ctr):=[(20,c20),(41,c41),(42,c42),(43,c43),(44,c44),(45,c45)]
def qn5:LH
 | _=>none
theorem qrS (a_0:RAT) (b_1:RAT):fnF tb (envL e16) Tryz.f16 qn5 c16.ps c16.rs (T:=RAT) (fun y=>(y.2.1)) (a_0,b_1,())=qcB a_0 b_1:=by kernel_rfl
abbrev e18:List (Nat×Ctr):=[]
def qeC:LH
 | 8=>some ⟨qby,qcj,lp qak K0⟩
 | _=>none
theorem qj8 (g:qby.V->Option (OT qcj)) (v:qby.V):q10q tb (envL e18) 29 qeC (q3q 4 (q4q Tryz.f18) .skip) qby qcj g v=qak g v:=by kernel_rfl
theorem qj9 (feature_0:Int) (b_1:List (Int×RAT×CELL)):fnFB tb (envL e18) Tryz.f18 qeC w18 c18.ps c18.rs (T:=Int×(List (Int×RAT×CELL))) (fun y=>(y.2.1,y.2.2.1)) (feature_0,b_1,())=qa0 feature_0 b_1:=by kernel_rfl
abbrev e48:List (Nat×Ctr):=[(50,c50)]
def qmk:LH
 | _=>none
theorem qqp (a_0:WH):fnF tb (envL e48) Tryz.f48 qmk c48.ps c48.rs (T:=Int) (fun y=>(y.2.1)) (a_0,())=qhK a_0:=by kernel_rfl
abbrev e19:List (Nat×Ctr):=[(20,c20),(48,c48)]
def qmu:LH
 | _=>none
theorem qqK (a_0:RAT):fnF tb (envL e19) Tryz.f19 qmu c19.ps c19.rs (T:=Int) (fun y=>(y.2.1)) (a_0,())=qfJ a_0:=by kernel_rfl
abbrev e21:List (Nat×Ctr):=[(20,c20),(41,c41),(43,c43),(45,c45)]
def qn1:LH
 | _=>none
theorem qrN (a_0:RAT) (b_1:RAT):fnF tb (envL e21) Tryz.f21 qn1 c21.ps c21.rs (T:=RAT) (fun y=>(y.2.1)) (a_0,b_1,())=qax a_0 b_1:=by kernel_rfl
abbrev e72:List (Nat×Ctr):=[(50,c50),(63,c63)]
def qnL:LH
 | _=>none
theorem qrm (a_0:WH):fnF tb (envL e72) Tryz.f72 qnL c72.ps c72.rs (T:=WH) (fun y=>(y.2.1)) (a_0,())=qiu a_0:=by kernel_rfl
abbrev e51:List (Nat×Ctr):=[(41,c41),(48,c48),(50,c50),(72,c72)]
def qmw:LH
 | _=>none
theorem qqM (num_0:WH) (den_1:WH):fnF tb (envL e51) Tryz.f51 qmw c51.ps c51.rs (T:=RAT×Int) (fun y=>(y.2.1,y.2.2.1)) (num_0,den_1,())=qgP num_0 den_1:=by kernel_rfl
abbrev e22:List (Nat×Ctr):=[(20,c20),(51,c51),(52,c52)]
def qmx:LH
 | _=>none
theorem qqO (n_0:Int) (d_1:Int):fnF tb (envL e22) Tryz.f22 qmx c22.ps c22.rs (T:=RAT) (fun y=>(y.2.1)) (n_0,d_1,())=qc4 n_0 d_1:=by kernel_rfl
abbrev e7:List (Nat×Ctr):=[(15,c15),(16,c16),(18,c18),(19,c19),(20,c20),(21,c21),(22,c22)]
def qdZ:LH
 | 20=>some ⟨qa8,qbz,lp qao K0⟩
 | _=>none
theorem qiR (g:qa8.V->Option (OT qbz)) (v:qa8.V):q10q tb (envL e7) 113 qdZ (q3q 10 (q4q Tryz.f7) .skip) qa8 qbz g v=qao g v:=by kernel_rfl
theorem qjm (a_0:Int) (a_1:RAT) (a_2:Bool) (b_3:List (Int×RAT×CELL)):fnFB tb (envL e7) Tryz.f7 qdZ w7 c7.ps c7.rs (T:=Int×(List (Int×RAT×CELL))) (fun y=>(y.2.1,y.2.2.1)) (a_0,a_1,a_2,b_3,())=qaf a_0 a_1 a_2 b_3:=by kernel_rfl
abbrev e14:List (Nat×Ctr):=[]
def qgz:LH
 | _=>none
theorem qjw (parts_0:List PART) (i_1:Int):fnF tb (envL e14) Tryz.f14 qgz c14.ps c14.rs (T:=(List PART)) (fun y=>(y.2.1)) (parts_0,i_1,())=qb7 parts_0 i_1:=by kernel_rfl
abbrev e57:List (Nat×Ctr):=[(20,c20),(44,c44),(51,c51)]
def qn2:LH
 | _=>none
theorem qrP (a_0:RAT):fnF tb (envL e57) Tryz.f57 qn2 c57.ps c57.rs (T:=RAT×Int) (fun y=>(y.2.1,y.2.2.1)) (a_0,())=qiG a_0:=by kernel_rfl
abbrev e77:List (Nat×Ctr):=[(20,c20),(72,c72)]
def qn0:LH
 | _=>none
theorem qrM (a_0:RAT):fnF tb (envL e77) Tryz.f77 qn0 c77.ps c77.rs (T:=RAT) (fun y=>(y.2.1)) (a_0,())=qiF a_0:=by kernel_rfl
abbrev e58:List (Nat×Ctr):=[(16,c16),(77,c77)]
def qnX:LH
 | _=>none
theorem qrJ (a_0:RAT) (b_1:RAT):fnF tb (envL e58) Tryz.f58 qnX c58.ps c58.rs (T:=RAT) (fun y=>(y.2.1)) (a_0,b_1,())=qj5 a_0 b_1:=by kernel_rfl
abbrev e34:List (Nat×Ctr):=[(21,c21),(22,c22),(57,c57),(58,c58)]
def qdG:LH
 | 14=>some ⟨qa6,qbv,lp qan K0⟩
 | _=>none
theorem qiL (g:qa6.V->Option (OT qbv)) (v:qa6.V):q10q tb (envL e34) 104 qdG (q3q 7 (q4q Tryz.f34) .skip) qa6 qbv g v=qan g v:=by kernel_rfl
theorem qiM (a_0:Int) (b_1:List (Int×RAT×CELL)):fnFB tb (envL e34) Tryz.f34 qdG w34 c34.ps c34.rs (T:=(List RAT)×(List (Int×RAT×CELL))) (fun y=>(y.2.1,y.2.2.1)) (a_0,b_1,())=qbw a_0 b_1:=by kernel_rfl
abbrev e24:List (Nat×Ctr):=[(34,c34)]
def qdY:LH
 | 16=>some ⟨qbg,qbW,lp qbV K0⟩
 | _=>none
theorem qjk (g:qbg.V->Option (OT qbW)) (v:qbg.V):q10q tb (envL e24) 66 qdY (q3q 8 (q4q Tryz.f24) .skip) qbg qbW g v=qbV g v:=by kernel_rfl
theorem qjl (a_0:Int) (b_1:List (Int×RAT×CELL)):fnFB tb (envL e24) Tryz.f24 qdY w24 c24.ps c24.rs (T:=Int×(List (Int×RAT×CELL))) (fun y=>(y.2.1,y.2.2.1)) (a_0,b_1,())=qcC a_0 b_1:=by kernel_rfl
abbrev e53:List (Nat×Ctr):=[]
def qgK:LH
 | _=>none
theorem qjU (a_0:RAT):fnF tb (envL e53) Tryz.f53 qgK c53.ps c53.rs (T:=RAT) (fun y=>(y.2.1)) (a_0,())=qc1 a_0:=by kernel_rfl
abbrev e25:List (Nat×Ctr):=[(53,c53)]
def qfH:LH
 | 6=>some ⟨qcg,qc2,lp qaV K0⟩
 | _=>none
theorem qme (g:qcg.V->Option (OT qc2)) (v:qcg.V):q10q tb (envL e25) 32 qfH (q3q 3 (q4q Tryz.f25) .skip) qcg qc2 g v=qaV g v:=by kernel_rfl
theorem qmf (l_0:List CELL) (n_1:Int):fnF tb (envL e25) Tryz.f25 qfH c25.ps c25.rs (T:=(List CELL)) (fun y=>(y.2.1)) (l_0,n_1,())=qc6 l_0 n_1:=by kernel_rfl
abbrev e26:List (Nat×Ctr):=[]
def qeO:LH
 | 4=>some ⟨qbL,qct,lp qal K0⟩
 | _=>none
theorem qk4 (g:qbL.V->Option (OT qct)) (v:qbL.V):q10q tb (envL e26) 21 qeO (q3q 2 (q4q Tryz.f26) .skip) qbL qct g v=qal g v:=by kernel_rfl
theorem qk5 (parts_0:List PART) (feature_1:Int):fnF tb (envL e26) Tryz.f26 qeO c26.ps c26.rs (T:=Int) (fun y=>(y.2.1)) (parts_0,feature_1,())=qaP parts_0 feature_1:=by kernel_rfl
abbrev e9:List (Nat×Ctr):=[(7,c7),(14,c14),(19,c19),(24,c24),(25,c25),(26,c26)]
def qhw:LH
 | _=>none
theorem qlE (a_0:List PART) (a_1:Int×Int×PART) (b_2:List (Int×RAT×CELL)):fnFB tb (envL e9) Tryz.f9 qhw w9 c9.ps c9.rs (T:=(List PART)×Bool×(List (Int×RAT×CELL))) (fun y=>(y.2.1,y.2.2.1,y.2.2.2.1)) (a_0,a_1,b_2,())=qdL a_0 a_1 b_2:=by kernel_rfl
abbrev e35:List (Nat×Ctr):=[]
def qnQ:LH
 | _=>none
theorem qrq :fnFB tb (envL e35) Tryz.f35 qnQ w35 c35.ps c35.rs (T:=Int×Int×Int×(List WH)) (fun y=>(y.2.1,y.2.2.1,y.2.2.2.1,y.2.2.2.2.1)) ()=qml :=by kernel_rfl
abbrev e36:List (Nat×Ctr):=[]
def qfG:LH
 | 6=>some ⟨qcf,qcZ,lp qaU K0⟩
 | _=>none
theorem qmb (g:qcf.V->Option (OT qcZ)) (v:qcf.V):q10q tb (envL e36) 13 qfG (q3q 3 (q4q Tryz.f36) .skip) qcf qcZ g v=qaU g v:=by kernel_rfl
theorem qmc (n_0:Int):fnF tb (envL e36) Tryz.f36 qfG c36.ps c36.rs (T:=Int) (fun y=>(y.2.1)) (n_0,())=qd8 n_0:=by kernel_rfl
abbrev e37:List (Nat×Ctr):=[]
def qgA:LH
 | 4=>some ⟨qcx,qdl,lp qa1 K0⟩
 | _=>none
theorem qmY (g:qcx.V->Option (OT qdl)) (v:qcx.V):q10q tb (envL e37) 16 qgA (q3q 2 (q4q Tryz.f37) .skip) qcx qdl g v=qa1 g v:=by kernel_rfl
theorem qmZ (set_0:Int) (feature_1:Int):fnF tb (envL e37) Tryz.f37 qgA c37.ps c37.rs (T:=Bool) (fun y=>(y.2.1)) (set_0,feature_1,())=qdM set_0 feature_1:=by kernel_rfl
abbrev e38:List (Nat×Ctr):=[(37,c37)]
def qfc:LH
 | 6=>some ⟨qb9,qcJ,lp qaO K0⟩
 | _=>none
theorem qlG (g:qb9.V->Option (OT qcJ)) (v:qb9.V):q10q tb (envL e38) 18 qfc (q3q 3 (q4q Tryz.f38) .skip) qb9 qcJ g v=qaO g v:=by kernel_rfl
theorem qlH (set_0:Int) (n_1:Int):fnF tb (envL e38) Tryz.f38 qfc c38.ps c38.rs (T:=Int) (fun y=>(y.2.1)) (set_0,n_1,())=qcT set_0 n_1:=by kernel_rfl
abbrev e106:List (Nat×Ctr):=[(43,c43),(52,c52)]
def qgN:LH
 | 8=>some ⟨qcP,qdw,lp qdv K0⟩
 | _=>none
theorem qnb (g:qcP.V->Option (OT qdw)) (v:qcP.V):q10q tb (envL e106) 21 qgN (q3q 4 (q4q Tryz.f106) .skip) qcP qdw g v=qdv g v:=by kernel_rfl
theorem qnc :fnF tb (envL e106) Tryz.f106 qgN c106.ps c106.rs (T:=(List WH)) (fun y=>(y.2.1)) ()=qea :=by kernel_rfl
abbrev e105:List (Nat×Ctr):=[(106,c106)]
def qhq:LH
 | _=>none
theorem qlk (b_0:Int) (b_1:Int) (b_2:Int) (b_3:List WH):fnFB tb (envL e105) Tryz.f105 qhq w105 c105.ps c105.rs (T:=Int×Int×Int×(List WH)) (fun y=>(y.2.1,y.2.2.1,y.2.2.2.1,y.2.2.2.2.1)) (b_0,b_1,b_2,b_3,())=qeQ b_0 b_1 b_2 b_3:=by kernel_rfl
abbrev e59:List (Nat×Ctr):=[(43,c43),(51,c51),(78,c78)]
def qf2:LH
 | _=>none
theorem qi5 (a_0:Int) (b_1:Int) (c_2:Int) (b_3:Int) (b_4:Int) (b_5:Int) (b_6:List WH):fnFB tb (envL e59) Tryz.f59 qf2 w59 c59.ps c59.rs (T:=RAT×Int×Int×Int×(List WH)) (fun y=>(y.2.1,y.2.2.1,y.2.2.2.1,y.2.2.2.2.1,y.2.2.2.2.2.1)) (a_0,b_1,c_2,b_3,b_4,b_5,b_6,())=qcA a_0 b_1 c_2 b_3 b_4 b_5 b_6:=by kernel_rfl
abbrev e39:List (Nat×Ctr):=[(59,c59)]
def qg1:LH
 | _=>none
theorem qjY (s_0:Int) (n_1:Int) (b_2:Int) (b_3:Int) (b_4:Int) (b_5:List WH):fnFB tb (envL e39) Tryz.f39 qg1 w39 c39.ps c39.rs (T:=RAT×Int×Int×Int×Int×(List WH)) (fun y=>(y.2.1,y.2.2.1,y.2.2.2.1,y.2.2.2.2.1,y.2.2.2.2.2.1,y.2.2.2.2.2.2.1)) (s_0,n_1,b_2,b_3,b_4,b_5,())=qc7 s_0 n_1 b_2 b_3 b_4 b_5:=by kernel_rfl
abbrev e13:List (Nat×Ctr):=[(8,c8),(15,c15),(16,c16),(21,c21),(35,c35),(36,c36),(37,c37),(38,c38),(39,c39)]
def qcM:LH
 | 18=>some ⟨qbh,qb0,lp qau K0⟩
 | 10=>some ⟨qbi,qb1,lp qaK K0⟩
 | _=>none
theorem qjz (g:qbh.V->Option (OT qb0)) (v:qbh.V):q10q tb (envL e13) 71 qcM (q3q 9 (q4q Tryz.f13) .skip) qbh qb0 g v=qau g v:=by kernel_rfl
theorem qjA (g:qbi.V->Option (OT qb1)) (v:qbi.V):q10q tb (envL e13) 71 qcM (q3q 5 (q4q Tryz.f13) .skip) qbi qb1 g v=qaK g v:=by kernel_rfl
theorem qjB (a_0:List PART):fnF tb (envL e13) Tryz.f13 qcM c13.ps c13.rs (T:=(List RAT)) (fun y=>(y.2.1)) (a_0,())=qb8 a_0:=by kernel_rfl
abbrev e92:List (Nat×Ctr):=[]
def qeK:LH
 | 4=>some ⟨qbG,qco,lp qaS K0⟩
 | _=>none
theorem qkQ (g:qbG.V->Option (OT qco)) (v:qbG.V):q10q tb (envL e92) 14 qeK (q3q 2 (q4q Tryz.f92) .skip) qbG qco g v=qaS g v:=by kernel_rfl
theorem qkR (n_0:Int):fnF tb (envL e92) Tryz.f92 qeK c92.ps c92.rs (T:=(List Int)) (fun y=>(y.2.1)) (n_0,())=qam n_0:=by kernel_rfl
abbrev e112:List (Nat×Ctr):=[]
def qhm:LH
 | _=>none
theorem qkJ (a_0:List Int) (i_1:Int):fnF tb (envL e112) Tryz.f112 qhm c112.ps c112.rs (T:=Int) (fun y=>(y.2.1)) (a_0,i_1,())=qaG a_0 i_1:=by kernel_rfl
abbrev e96:List (Nat×Ctr):=[(112,c112)]
def qfa:LH
 | 8=>some ⟨qb4,qcG,lp qaB K0⟩
 | _=>none
theorem qlw (g:qb4.V->Option (OT qcG)) (v:qb4.V):q10q tb (envL e96) 41 qfa (q3q 4 (q4q Tryz.f96) .skip) qb4 qcG g v=qaB g v:=by kernel_rfl
theorem qlx (a_0:List Int) (b_1:List Int):fnF tb (envL e96) Tryz.f96 qfa c96.ps c96.rs (T:=(List Int)) (fun y=>(y.2.1)) (a_0,b_1,())=qcS a_0 b_1:=by kernel_rfl
abbrev e113:List (Nat×Ctr):=[]
def qe9:LH
 | 4=>some ⟨qb3,qcF,lp qaN K0⟩
 | _=>none
theorem qlt (g:qb3.V->Option (OT qcF)) (v:qb3.V):q10q tb (envL e113) 21 qe9 (q3q 2 (q4q Tryz.f113) .skip) qb3 qcF g v=qaN g v:=by kernel_rfl
theorem qlu (a_0:List Int):fnF tb (envL e113) Tryz.f113 qe9 c113.ps c113.rs (T:=(List Int)) (fun y=>(y.2.1)) (a_0,())=qbD a_0:=by kernel_rfl
abbrev e97:List (Nat×Ctr):=[(113,c113)]
def qdj:LH
 | 14=>some ⟨qbE,qcm,lp qaH K0⟩
 | 6=>some ⟨qbF,qcn,lp qaR K0⟩
 | _=>none
theorem qkM (g:qbE.V->Option (OT qcm)) (v:qbE.V):q10q tb (envL e97) 63 qdj (q3q 7 (q4q Tryz.f97) .skip) qbE qcm g v=qaH g v:=by kernel_rfl
theorem qkN (g:qbF.V->Option (OT qcn)) (v:qbF.V):q10q tb (envL e97) 63 qdj (q3q 3 (q4q Tryz.f97) .skip) qbF qcn g v=qaR g v:=by kernel_rfl
theorem qkO (a_0:List Int) (b_1:List Int):fnF tb (envL e97) Tryz.f97 qdj c97.ps c97.rs (T:=(List Int)) (fun y=>(y.2.1)) (a_0,b_1,())=qbk a_0 b_1:=by kernel_rfl
abbrev e69:List (Nat×Ctr):=[(92,c92),(96,c96),(97,c97)]
def qfb:LH
 | 8=>some ⟨qb6,qcI,lp qaZ K0⟩
 | _=>none
theorem qlC (g:qb6.V->Option (OT qcI)) (v:qb6.V):q10q tb (envL e69) 26 qfb (q3q 4 (q4q Tryz.f69) .skip) qb6 qcI g v=qaZ g v:=by kernel_rfl
theorem qlD (a_0:List Int):fnF tb (envL e69) Tryz.f69 qfb c69.ps c69.rs (T:=(List Int)) (fun y=>(y.2.1)) (a_0,())=qaD a_0:=by kernel_rfl
abbrev e99:List (Nat×Ctr):=[]
def qhu:LH
 | _=>none
theorem qlq (neg_0:Bool) (n_1:List Int):fnF tb (envL e99) Tryz.f99 qhu c99.ps c99.rs (T:=(Bool×List Int)) (fun y=>(y.2.1)) (neg_0,n_1,())=qbC neg_0 n_1:=by kernel_rfl
abbrev e98:List (Nat×Ctr):=[(92,c92),(96,c96),(99,c99)]
def qhk:LH
 | _=>none
theorem qkH (n_0:Int):fnF tb (envL e98) Tryz.f98 qhk c98.ps c98.rs (T:=(Bool×List Int)) (fun y=>(y.2.1)) (n_0,())=qen n_0:=by kernel_rfl
abbrev e70:List (Nat×Ctr):=[(92,c92),(98,c98)]
def qhg:LH
 | _=>none
theorem qkD (n_0:Int) (d_1:Int):fnF tb (envL e70) Tryz.f70 qhg c70.ps c70.rs (T:=((Bool×List Int)×List Int)) (fun y=>(y.2.1)) (n_0,d_1,())=qem n_0 d_1:=by kernel_rfl
abbrev e71:List (Nat×Ctr):=[(69,c69),(99,c99)]
def qhv:LH
 | _=>none
theorem qlr (a_0:WH):fnF tb (envL e71) Tryz.f71 qhv c71.ps c71.rs (T:=(Bool×List Int)) (fun y=>(y.2.1)) (a_0,())=qdJ a_0:=by kernel_rfl
abbrev e47:List (Nat×Ctr):=[(69,c69),(70,c70),(71,c71)]
def qht:LH
 | _=>none
theorem qlp (a_0:RAT):fnF tb (envL e47) Tryz.f47 qht c47.ps c47.rs (T:=((Bool×List Int)×List Int)) (fun y=>(y.2.1)) (a_0,())=qbB a_0:=by kernel_rfl
abbrev e89:List (Nat×Ctr):=[]
def qeL:LH
 | 4=>some ⟨qbH,qcp,lp qaI K0⟩
 | _=>none
theorem qkT (g:qbH.V->Option (OT qcp)) (v:qbH.V):q10q tb (envL e89) 27 qeL (q3q 2 (q4q Tryz.f89) .skip) qbH qcp g v=qaI g v:=by kernel_rfl
theorem qkU (a_0:List Int):fnF tb (envL e89) Tryz.f89 qeL c89.ps c89.rs (T:=Bool) (fun y=>(y.2.1)) (a_0,())=qcw a_0:=by kernel_rfl
abbrev e91:List (Nat×Ctr):=[]
def qeM:LH
 | 12=>some ⟨qbJ,qcr,lp qaw K0⟩
 | _=>none
theorem qkY (g:qbJ.V->Option (OT qcr)) (v:qbJ.V):q10q tb (envL e91) 41 qeM (q3q 6 (q4q Tryz.f91) .skip) qbJ qcr g v=qaw g v:=by kernel_rfl
theorem qkZ (a_0:List Int) (b_1:List Int):fnF tb (envL e91) Tryz.f91 qeM c91.ps c91.rs (T:=Int) (fun y=>(y.2.1)) (a_0,b_1,())=qaj a_0 b_1:=by kernel_rfl
abbrev e122:List (Nat×Ctr):=[(112,c112),(113,c113)]
def qeN:LH
 | 8=>some ⟨qbK,qcs,lp qaJ K0⟩
 | _=>none
theorem qk1 (g:qbK.V->Option (OT qcs)) (v:qbK.V):q10q tb (envL e122) 35 qeN (q3q 4 (q4q Tryz.f122) .skip) qbK qcs g v=qaJ g v:=by kernel_rfl
theorem qk2 (a_0:List Int) (b_1:List Int):fnF tb (envL e122) Tryz.f122 qeN c122.ps c122.rs (T:=(List Int)) (fun y=>(y.2.1)) (a_0,b_1,())=qdk a_0 b_1:=by kernel_rfl
abbrev e111:List (Nat×Ctr):=[(91,c91),(92,c92),(97,c97),(113,c113),(122,c122)]
def qds:LH
 | 24=>some ⟨qbI,qcq,lp qav K0⟩
 | 8=>some ⟨qb5,qcH,lp qaY K0⟩
 | _=>none
theorem qkW (g:qbI.V->Option (OT qcq)) (v:qbI.V):q10q tb (envL e111) 65 qds (q3q 12 (q4q Tryz.f111) .skip) qbI qcq g v=qav g v:=by kernel_rfl
theorem qlz (g:qb5.V->Option (OT qcH)) (v:qb5.V):q10q tb (envL e111) 65 qds (q3q 4 (q4q Tryz.f111) .skip) qb5 qcH g v=qaY g v:=by kernel_rfl
theorem qlA (a_0:List Int) (a_1:List Int):fnF tb (envL e111) Tryz.f111 qds c111.ps c111.rs (T:=(List Int)×(List Int)) (fun y=>(y.2.1,y.2.2.1)) (a_0,a_1,())=qdK a_0 a_1:=by kernel_rfl
abbrev e90:List (Nat×Ctr):=[(111,c111)]
def qfF:LH
 | 2=>some ⟨qce,qcY,lp qba K0⟩
 | _=>none
theorem ql8 (g:qce.V->Option (OT qcY)) (v:qce.V):q10q tb (envL e90) 19 qfF (q3q 1 (q4q Tryz.f90) .skip) qce qcY g v=qba g v:=by kernel_rfl
theorem ql9 (a_0:List Int) (b_1:List Int):fnF tb (envL e90) Tryz.f90 qfF c90.ps c90.rs (T:=(List Int)) (fun y=>(y.2.1)) (a_0,b_1,())=qcz a_0 b_1:=by kernel_rfl
abbrev e67:List (Nat×Ctr):=[(69,c69),(89,c89),(90,c90),(91,c91),(92,c92)]
def qhh:LH
 | _=>none
theorem qkE (a_0:RAT):fnF tb (envL e67) Tryz.f67 qhh c67.ps c67.rs (T:=Bool) (fun y=>(y.2.1)) (a_0,())=qdg a_0:=by kernel_rfl
abbrev e93:List (Nat×Ctr):=[(91,c91)]
def qhl:LH
 | _=>none
theorem qkI (a_0:Bool×List Int) (b_1:Bool×List Int):fnF tb (envL e93) Tryz.f93 qhl c93.ps c93.rs (T:=Int) (fun y=>(y.2.1)) (a_0,b_1,())=qdi a_0 b_1:=by kernel_rfl
abbrev e94:List (Nat×Ctr):=[(97,c97),(99,c99)]
def qhj:LH
 | _=>none
theorem qkG (a_0:Bool×List Int) (b_1:Bool×List Int):fnF tb (envL e94) Tryz.f94 qhj c94.ps c94.rs (T:=(Bool×List Int)) (fun y=>(y.2.1)) (a_0,b_1,())=qcv a_0 b_1:=by kernel_rfl
abbrev e95:List (Nat×Ctr):=[(99,c99)]
def qib:LH
 | _=>none
theorem ql6 (a_0:(Bool×List Int)×List Int):fnF tb (envL e95) Tryz.f95 qib c95.ps c95.rs (T:=(Bool×List Int)) (fun y=>(y.2.1)) (a_0,())=qd7 a_0:=by kernel_rfl
abbrev e68:List (Nat×Ctr):=[(93,c93),(94,c94),(95,c95)]
def qhi:LH
 | _=>none
theorem qkF (a_0:(Bool×List Int)×List Int) (b_1:(Bool×List Int)×List Int):fnF tb (envL e68) Tryz.f68 qhi c68.ps c68.rs (T:=Int) (fun y=>(y.2.1)) (a_0,b_1,())=qdh a_0 b_1:=by kernel_rfl
abbrev e46:List (Nat×Ctr):=[(47,c47),(67,c67),(68,c68)]
def qih:LH
 | _=>none
theorem qmW (a_0:RAT) (x_1:(Bool×List Int)×List Int):fnF tb (envL e46) Tryz.f46 qih c46.ps c46.rs (T:=Bool) (fun y=>(y.2.1)) (a_0,x_1,())=qgq a_0 x_1:=by kernel_rfl
abbrev e17:List (Nat×Ctr):=[(46,c46),(47,c47)]
def qig:LH
 | _=>none
theorem qmV (a_0:RAT) (b_1:RAT):fnF tb (envL e17) Tryz.f17 qig c17.ps c17.rs (T:=Bool) (fun y=>(y.2.1)) (a_0,b_1,())=qbq a_0 b_1:=by kernel_rfl
abbrev e27:List (Nat×Ctr):=[]
def qeh:LH
 | 10=>some ⟨qbn,qca,lp qay K0⟩
 | _=>none
theorem qjO (g:qbn.V->Option (OT qca)) (v:qbn.V):q10q tb (envL e27) 32 qeh (q3q 5 (q4q Tryz.f27) .skip) qbn qca g v=qay g v:=by kernel_rfl
theorem qjP (b_0:List (Int×RAT×CELL)):fnFB tb (envL e27) Tryz.f27 qeh w27 c27.ps c27.rs (T:=(List PART)×(List (Int×RAT×CELL))) (fun y=>(y.2.1,y.2.2.1)) (b_0,())=qbt b_0:=by kernel_rfl
abbrev e28:List (Nat×Ctr):=[]
def qhs:LH
 | _=>none
theorem qln (b_0:List (Int×RAT×CELL)):fnFB tb (envL e28) Tryz.f28 qhs w28 c28.ps c28.rs (T:=Int×(List (Int×RAT×CELL))) (fun y=>(y.2.1,y.2.2.1)) (b_0,())=qdI b_0:=by kernel_rfl
abbrev e29:List (Nat×Ctr):=[(17,c17)]
def qfE:LH
 | 8=>some ⟨qcd,qcX,lp qaT K0⟩
 | _=>none
theorem ql4 (g:qcd.V->Option (OT qcX)) (v:qcd.V):q10q tb (envL e29) 27 qfE (q3q 4 (q4q Tryz.f29) .skip) qcd qcX g v=qaT g v:=by kernel_rfl
theorem ql5 (a_0:List RAT) (b_1:List RAT):fnF tb (envL e29) Tryz.f29 qfE c29.ps c29.rs (T:=Bool) (fun y=>(y.2.1)) (a_0,b_1,())=qc5 a_0 b_1:=by kernel_rfl
abbrev e30:List (Nat×Ctr):=[]
def qdH:LH
 | 10=>some ⟨qa7,qbx,lp qaq K0⟩
 | _=>none
theorem qiO (g:qa7.V->Option (OT qbx)) (v:qa7.V):q10q tb (envL e30) 24 qdH (q3q 5 (q4q Tryz.f30) .skip) qa7 qbx g v=qaq g v:=by kernel_rfl
theorem qiP (b_0:List (Int×RAT×CELL)):fnFB tb (envL e30) Tryz.f30 qdH w30 c30.ps c30.rs (T:=(List RAT)×(List (Int×RAT×CELL))) (fun y=>(y.2.1,y.2.2.1)) (b_0,())=qci b_0:=by kernel_rfl
abbrev e10:List (Nat×Ctr):=[(13,c13),(17,c17),(18,c18),(27,c27),(28,c28),(29,c29),(30,c30)]
def qei:LH
 | 10=>some ⟨qbo,qcc,lp qaz K0⟩
 | _=>none
theorem qjS (g:qbo.V->Option (OT qcc)) (v:qbo.V):q10q tb (envL e10) 85 qei (q3q 5 (q4q Tryz.f10) .skip) qbo qcc g v=qaz g v:=by kernel_rfl
theorem qjT (a_0:List PART) (b_1:List (Int×RAT×CELL)):fnFB tb (envL e10) Tryz.f10 qei w10 c10.ps c10.rs (T:=Bool×(List (Int×RAT×CELL))) (fun y=>(y.2.1,y.2.2.1)) (a_0,b_1,())=qc0 a_0 b_1:=by kernel_rfl
abbrev e123:List (Nat×Ctr):=[]
def qhz:LH
 | 18=>some ⟨qeY,qgk,lp qgi K0⟩
 | 8=>some ⟨qeZ,qgl,lp qgj K0⟩
 | _=>none
theorem qqZ (g:qeY.V->Option (OT qgk)) (v:qeY.V):q10q tb (envL e123) 72 qhz (q3q 9 (q4q Tryz.f123) .skip) qeY qgk g v=qgi g v:=by kernel_rfl
theorem qq0 (g:qeZ.V->Option (OT qgl)) (v:qeZ.V):q10q tb (envL e123) 72 qhz (q3q 4 (q4q Tryz.f123) .skip) qeZ qgl g v=qgj g v:=by kernel_rfl
theorem qq1 (a_0:qm6):fnF tb (envL e123) Tryz.f123 qhz c123.ps c123.rs (T:=Bool) (fun y=>(y.2.1)) (a_0,())=qnu a_0:=by kernel_rfl
abbrev e124:List (Nat×Ctr):=[]
def qhU:LH
 | 4=>some ⟨qdA,qew,lp qev K0⟩
 | _=>none
theorem qoG (g:qdA.V->Option (OT qew)) (v:qdA.V):q10q tb (envL e124) 52 qhU (q3q 2 (q4q Tryz.f124) .skip) qdA qew g v=qev g v:=by kernel_rfl
theorem qoH (t_0:List NODE) (features_1:Int):fnF tb (envL e124) Tryz.f124 qhU c124.ps c124.rs (T:=Int×Int) (fun y=>(y.2.1,y.2.2.1)) (t_0,features_1,())=qjZ t_0 features_1:=by kernel_rfl
abbrev e125:List (Nat×Ctr):=[]
def qeb:LH
 | 6=>some ⟨qec,qfe,lp qfd K0⟩
 | 20=>some ⟨qdz,qeu,lp qer K0⟩
 | 34=>some ⟨qdy,qet,lp qeq K0⟩
 | 50=>some ⟨qdx,qes,lp qep K0⟩
 | _=>none
theorem qpD (g:qec.V->Option (OT qfe)) (v:qec.V):q10q tb (envL e125) 103 qeb (q3q 3 (q4q Tryz.f125) .skip) qec qfe g v=qfd g v:=by kernel_rfl
theorem qoE (g:qdz.V->Option (OT qeu)) (v:qdz.V):q10q tb (envL e125) 103 qeb (q3q 10 (q4q Tryz.f125) .skip) qdz qeu g v=qer g v:=by kernel_rfl
theorem qoD (g:qdy.V->Option (OT qet)) (v:qdy.V):q10q tb (envL e125) 103 qeb (q3q 17 (q4q Tryz.f125) .skip) qdy qet g v=qeq g v:=by kernel_rfl
theorem qoC (g:qdx.V->Option (OT qes)) (v:qdx.V):q10q tb (envL e125) 103 qeb (q3q 25 (q4q Tryz.f125) .skip) qdx qes g v=qep g v:=by kernel_rfl
theorem qpE (a_0:List NODE):fnF tb (envL e125) Tryz.f125 qeb c125.ps c125.rs (T:=Int×Int) (fun y=>(y.2.1,y.2.2.1)) (a_0,())=qlT a_0:=by kernel_rfl
abbrev e126:List (Nat×Ctr):=[(19,c19)]
def qhV:LH
 | 4=>some ⟨qdB,qey,lp qex K0⟩
 | _=>none
theorem qoJ (g:qdB.V->Option (OT qey)) (v:qdB.V):q10q tb (envL e126) 19 qhV (q3q 2 (q4q Tryz.f126) .skip) qdB qey g v=qex g v:=by kernel_rfl
theorem qoK (t_0:List NODE):fnF tb (envL e126) Tryz.f126 qhV c126.ps c126.rs (T:=Int×Int) (fun y=>(y.2.1,y.2.2.1)) (t_0,())=qj0 t_0:=by kernel_rfl
abbrev e76:List (Nat×Ctr):=[(50,c50),(65,c65)]
def qnN:LH
 | _=>none
theorem qro (a_0:WH) (b_1:WH):fnF tb (envL e76) Tryz.f76 qnN c76.ps c76.rs (T:=Int) (fun y=>(y.2.1)) (a_0,b_1,())=qoy a_0 b_1:=by kernel_rfl
abbrev e56:List (Nat×Ctr):=[(20,c20),(43,c43),(44,c44),(76,c76)]
def qn4:LH
 | _=>none
theorem qrR (a_0:RAT) (b_1:RAT):fnF tb (envL e56) Tryz.f56 qn4 c56.ps c56.rs (T:=Int) (fun y=>(y.2.1)) (a_0,b_1,())=qmy a_0 b_1:=by kernel_rfl
abbrev e32:List (Nat×Ctr):=[(56,c56)]
def qmv:LH
 | _=>none
theorem qqL (a_0:RAT) (b_1:RAT):fnF tb (envL e32) Tryz.f32 qmv c32.ps c32.rs (T:=Bool) (fun y=>(y.2.1)) (a_0,b_1,())=qle a_0 b_1:=by kernel_rfl
abbrev e127:List (Nat×Ctr):=[(16,c16),(32,c32)]
def qi6:LH
 | 4=>some ⟨qeR,qf5,lp qf4 K0⟩
 | _=>none
theorem qqs (g:qeR.V->Option (OT qf5)) (v:qeR.V):q10q tb (envL e127) 37 qi6 (q3q 2 (q4q Tryz.f127) .skip) qeR qf5 g v=qf4 g v:=by kernel_rfl
theorem qqt (t_0:List NODE):fnF tb (envL e127) Tryz.f127 qi6 c127.ps c127.rs (T:=Int×Int) (fun y=>(y.2.1,y.2.2.1)) (t_0,())=qnd t_0:=by kernel_rfl
abbrev e128:List (Nat×Ctr):=[]
def qlJ:LH
 | _=>none
theorem qpF (e_0:Int) (tree_1:Int) (node_2:Int):fnF tb (envL e128) Tryz.f128 qlJ c128.ps c128.rs (T:=(Int×Int×Int×Int)) (fun y=>(y.2.1)) (e_0,tree_1,node_2,())=qfA e_0 tree_1 node_2:=by kernel_rfl
abbrev e114:List (Nat×Ctr):=[(123,c123),(124,c124),(125,c125),(126,c126),(127,c127),(128,c128)]
def qgZ:LH
 | 14=>some ⟨qed,qfh,lp qff K0⟩
 | 8=>some ⟨qee,qfi,lp qfg K0⟩
 | _=>none
theorem qpI (g:qed.V->Option (OT qfh)) (v:qed.V):q10q tb (envL e114) 63 qgZ (q3q 7 (q4q Tryz.f114) .skip) qed qfh g v=qff g v:=by kernel_rfl
theorem qpJ (g:qee.V->Option (OT qfi)) (v:qee.V):q10q tb (envL e114) 63 qgZ (q3q 4 (q4q Tryz.f114) .skip) qee qfi g v=qfg g v:=by kernel_rfl
theorem qpK (m_0:qm6):fnF tb (envL e114) Tryz.f114 qgZ c114.ps c114.rs (T:=(Int×Int×Int×Int)) (fun y=>(y.2.1)) (m_0,())=qlU m_0:=by kernel_rfl
abbrev e100:List (Nat×Ctr):=[(114,c114)]
def qoL:LH
 | _=>none
theorem qsZ (m_0:qm6):fnF tb (envL e100) Tryz.f100 qoL c100.ps c100.rs (T:=Bool) (fun y=>(y.2.1)) (m_0,())=qqu m_0:=by kernel_rfl
abbrev e73:List (Nat×Ctr):=[(100,c100)]
def qmo:LH
 | _=>none
theorem qqF (m_0:qm6) (row_1:List CELL):fnF tb (envL e73) Tryz.f73 qmo c73.ps c73.rs (T:=Int) (fun y=>(y.2.1)) (m_0,row_1,())=qnh m_0 row_1:=by kernel_rfl
abbrev e54:List (Nat×Ctr):=[(73,c73)]
def qmq:LH
 | _=>none
theorem qqH (m_0:qm6) (row_1:List CELL):fnF tb (envL e54) Tryz.f54 qmq c54.ps c54.rs (T:=Int) (fun y=>(y.2.1)) (m_0,row_1,())=qnj m_0 row_1:=by kernel_rfl
abbrev e74:List (Nat×Ctr):=[(15,c15)]
def qgR:LH
 | 6=>some ⟨qcQ,qdE,lp qdD K0⟩
 | _=>none
theorem qnm (g:qcQ.V->Option (OT qdE)) (v:qcQ.V):q10q tb (envL e74) 13 qgR (q3q 3 (q4q Tryz.f74) .skip) qcQ qdE g v=qdD g v:=by kernel_rfl
theorem qnn (n_0:Int):fnF tb (envL e74) Tryz.f74 qgR c74.ps c74.rs (T:=(List RAT)) (fun y=>(y.2.1)) (n_0,())=qil n_0:=by kernel_rfl
abbrev e101:List (Nat×Ctr):=[(7,c7),(18,c18),(21,c21),(24,c24),(27,c27)]
def qgD:LH
 | _=>none
theorem qjM (b_0:Int) (b_1:Bool) (b_2:List Int) (b_3:List Int) (b_4:Int) (b_5:Bool) (b_6:List Int) (b_7:List Int) (b_8:Bool) (b_9:List (Int×RAT×CELL)):fnFB tb (envL e101) Tryz.f101 qgD w101 c101.ps c101.rs (T:=Int×Bool×(List Int)×(List Int)×Int×Bool×(List Int)×(List Int)×Bool×(List (Int×RAT×CELL))) (fun y=>(y.2.1,y.2.2.1,y.2.2.2.1,y.2.2.2.2.1,y.2.2.2.2.2.1,y.2.2.2.2.2.2.1,y.2.2.2.2.2.2.2.1,y.2.2.2.2.2.2.2.2.1,y.2.2.2.2.2.2.2.2.2.1,y.2.2.2.2.2.2.2.2.2.2.1)) (b_0,b_1,b_2,b_3,b_4,b_5,b_6,b_7,b_8,b_9,())=qfC b_0 b_1 b_2 b_3 b_4 b_5 b_6 b_7 b_8 b_9:=by kernel_rfl
abbrev e33:List (Nat×Ctr):=[(15,c15),(16,c16)]
def qj4:LH
 | 6=>some ⟨qfI,qg6,lp qdb K0⟩
 | _=>none
theorem qrG (g:qfI.V->Option (OT qg6)) (v:qfI.V):q10q tb (envL e33) 18 qj4 (q3q 3 (q4q Tryz.f33) .skip) qfI qg6 g v=qdb g v:=by kernel_rfl
theorem qrH (l_0:List RAT):fnF tb (envL e33) Tryz.f33 qj4 c33.ps c33.rs (T:=RAT) (fun y=>(y.2.1)) (l_0,())=qiE l_0:=by kernel_rfl
abbrev e12:List (Nat×Ctr):=[(33,c33),(34,c34)]
def qhr:LH
 | _=>none
theorem qlm (at_0:Int) (b_1:List (Int×RAT×CELL)):fnFB tb (envL e12) Tryz.f12 qhr w12 c12.ps c12.rs (T:=RAT×Int×(List (Int×RAT×CELL))) (fun y=>(y.2.1,y.2.2.1,y.2.2.2.1)) (at_0,b_1,())=qaX at_0 b_1:=by kernel_rfl
abbrev e102:List (Nat×Ctr):=[(8,c8),(12,c12),(16,c16),(21,c21),(27,c27),(77,c77)]
def qdX:LH
 | 6=>some ⟨qbf,qbU,lp qbT K0⟩
 | _=>none
theorem qjh (g:qbf.V->Option (OT qbU)) (v:qbf.V):q10q tb (envL e102) 69 qdX (q3q 3 (q4q Tryz.f102) .skip) qbf qbU g v=qbT g v:=by kernel_rfl
theorem qji (a_0:Int) (a_1:Bool) (a_2:List Int) (a_3:List Int) (a_4:Int) (a_5:Bool) (a_6:List Int) (a_7:List Int) (a_8:Bool) (b_9:List NODE) (b_10:List CELL) (b_11:Int) (b_12:Bool) (b_13:List RAT) (b_14:List (Int×RAT×CELL)):fnFB tb (envL e102) Tryz.f102 qdX w102 c102.ps c102.rs (T:=(List RAT)×(List NODE)×(List CELL)×Int×Bool×(List (Int×RAT×CELL))) (fun y=>(y.1.1,y.2.1,y.2.2.1,y.2.2.2.1,y.2.2.2.2.1,y.2.2.2.2.2.1)) (a_0,a_1,a_2,a_3,a_4,a_5,a_6,a_7,a_8,b_9,b_10,b_11,b_12,b_13,b_14,())=qe8 a_0 a_1 a_2 a_3 a_4 a_5 a_6 a_7 a_8 b_9 b_10 b_11 b_12 b_13 b_14:=by kernel_rfl
abbrev e6:List (Nat×Ctr):=[]
def qg8:LH
 | _=>none
theorem qka (b_0:List (Int×RAT×CELL)):fnFB tb (envL e6) Tryz.f6 qg8 w6 c6.ps c6.rs (T:=(List (Int×RAT×CELL))×(List (Int×RAT×CELL))) (fun y=>(y.2.1,y.2.2.1)) (b_0,())=qge b_0:=by kernel_rfl
abbrev e115:List (Nat×Ctr):=[(21,c21),(57,c57)]
def qn3:LH
 | _=>none
theorem qrQ (a_0:RAT) (b_1:RAT):fnF tb (envL e115) Tryz.f115 qn3 c115.ps c115.rs (T:=RAT×Int) (fun y=>(y.2.1,y.2.2.1)) (a_0,b_1,())=qoV a_0 b_1:=by kernel_rfl
abbrev e129:List (Nat×Ctr):=[(56,c56)]
def qmn:LH
 | _=>none
theorem qqE (n_0:NODE) (c_1:CELL):fnF tb (envL e129) Tryz.f129 qmn c129.ps c129.rs (T:=Bool) (fun y=>(y.2.1)) (n_0,c_1,())=qng n_0 c_1:=by kernel_rfl
abbrev e116:List (Nat×Ctr):=[(129,c129)]
def qmp:LH
 | _=>none
theorem qqG (n_0:NODE) (c_1:CELL):fnF tb (envL e116) Tryz.f116 qmp c116.ps c116.rs (T:=Bool) (fun y=>(y.2.1)) (n_0,c_1,())=qni n_0 c_1:=by kernel_rfl
abbrev e103:List (Nat×Ctr):=[(6,c6),(21,c21),(115,c115),(116,c116)]
def qfK:LH
 | _=>none
theorem qiH (a_0:Int) (a_1:Bool) (a_2:List Int) (a_3:List Int) (a_4:Int) (a_5:Bool) (a_6:List Int) (a_7:List Int) (a_8:Bool) (a_9:Int) (a_10:Bool) (b_11:List NODE) (b_12:List CELL) (b_13:Int) (b_14:Bool) (b_15:List RAT) (b_16:List (Int×RAT×CELL)):fnFB tb (envL e103) Tryz.f103 qfK w103 c103.ps c103.rs (T:=(List RAT)×Int×Bool×(List Int)×(List Int)×Int×Bool×(List Int)×(List Int)×Bool×Bool×(List NODE)×(List CELL)×Int×Bool×(List (Int×RAT×CELL))×(List (Int×RAT×CELL))) (fun y=>(y.1.1,y.2.1,y.2.2.1,y.2.2.2.1,y.2.2.2.2.1,y.2.2.2.2.2.1,y.2.2.2.2.2.2.1,y.2.2.2.2.2.2.2.1,y.2.2.2.2.2.2.2.2.1,y.2.2.2.2.2.2.2.2.2.1,y.2.2.2.2.2.2.2.2.2.2.1,y.2.2.2.2.2.2.2.2.2.2.2.1,y.2.2.2.2.2.2.2.2.2.2.2.2.1,y.2.2.2.2.2.2.2.2.2.2.2.2.2.1,y.2.2.2.2.2.2.2.2.2.2.2.2.2.2.1,y.2.2.2.2.2.2.2.2.2.2.2.2.2.2.2.1,y.2.2.2.2.2.2.2.2.2.2.2.2.2.2.2.2.1)) (a_0,a_1,a_2,a_3,a_4,a_5,a_6,a_7,a_8,a_9,a_10,b_11,b_12,b_13,b_14,b_15,b_16,())=qdc a_0 a_1 a_2 a_3 a_4 a_5 a_6 a_7 a_8 a_9 a_10 b_11 b_12 b_13 b_14 b_15 b_16:=by kernel_rfl
abbrev e75:List (Nat×Ctr):=[(5,c5),(8,c8),(101,c101),(102,c102),(103,c103)]
def qcL:LH
 | 18=>some ⟨qbd,qbR,lp qbP K0⟩
 | 2=>some ⟨qbe,qbS,lp qbQ K0⟩
 | _=>none
theorem qjd (g:qbd.V->Option (OT qbR)) (v:qbd.V):q10q tb (envL e75) 91 qcL (q3q 9 (q4q Tryz.f75) .skip) qbd qbR g v=qbP g v:=by kernel_rfl
theorem qje (g:qbe.V->Option (OT qbS)) (v:qbe.V):q10q tb (envL e75) 91 qcL (q3q 1 (q4q Tryz.f75) .skip) qbe qbS g v=qbQ g v:=by kernel_rfl
theorem qjf (b_0:List NODE) (b_1:List CELL) (b_2:Int) (b_3:Bool) (b_4:List RAT) (b_5:List (Int×(Option ((Option (List (Int×RAT×CELL)))×Unit))×RAT×PART)):fnFB tb (envL e75) Tryz.f75 qcL w75 c75.ps c75.rs (T:=(List RAT)×(List NODE)×(List CELL)×Int×Bool×(List (Int×(Option ((Option (List (Int×RAT×CELL)))×Unit))×RAT×PART))) (fun y=>(y.1.1,y.2.1,y.2.2.1,y.2.2.2.1,y.2.2.2.2.1,y.2.2.2.2.2.1)) (b_0,b_1,b_2,b_3,b_4,b_5,())=qe7 b_0 b_1 b_2 b_3 b_4 b_5:=by kernel_rfl
abbrev e55:List (Nat×Ctr):=[(74,c74),(75,c75)]
def qhY:LH
 | 6=>some ⟨qdF,qeB,lp qeA K0⟩
 | _=>none
theorem qo1 (g:qdF.V->Option (OT qeB)) (v:qdF.V):q10q tb (envL e55) 34 qhY (q3q 3 (q4q Tryz.f55) .skip) qdF qeB g v=qeA g v:=by kernel_rfl
theorem qo2 (m_0:qm6) (row_1:List CELL) (fixed_2:Int) (on_3:Bool):fnF tb (envL e55) Tryz.f55 qhY c55.ps c55.rs (T:=(List RAT)) (fun y=>(y.2.1)) (m_0,row_1,fixed_2,on_3,())=qj6 m_0 row_1 fixed_2 on_3:=by kernel_rfl
abbrev e31:List (Nat×Ctr):=[(54,c54),(55,c55)]
def qid:LH
 | _=>none
theorem qmC (m_0:qm6) (row_1:List CELL):fnF tb (envL e31) Tryz.f31 qid c31.ps c31.rs (T:=(List RAT)×Int) (fun y=>(y.2.1,y.2.2.1)) (m_0,row_1,())=qhZ m_0 row_1:=by kernel_rfl
abbrev e11:List (Nat×Ctr):=[(8,c8),(22,c22),(23,c23),(31,c31),(32,c32)]
def qeP:LH
 | _=>none
theorem qk7 :fnF tb (envL e11) Tryz.f11 qeP c11.ps c11.rs (T:=Bool) (fun y=>(y.2.1)) ()=qbl :=by kernel_rfl
abbrev e4:List (Nat×Ctr):=[(5,c5),(9,c9),(10,c10),(11,c11),(12,c12),(13,c13),(14,c14),(15,c15),(16,c16),(17,c17)]
def qbM:LH
 | 8=>some ⟨qaM,qa2,lp qap K0⟩
 | 32=>some ⟨qaE,qaW,lp qai K0⟩
 | _=>none
theorem qhH (g:qaM.V->Option (OT qa2)) (v:qaM.V):q10q tb (envL e4) 105 qbM (q3q 4 (q4q Tryz.f4) .skip) qaM qa2 g v=qap g v:=by kernel_rfl
theorem qhp (g:qaE.V->Option (OT qaW)) (v:qaE.V):q10q tb (envL e4) 105 qbM (q3q 16 (q4q Tryz.f4) .skip) qaE qaW g v=qai g v:=by kernel_rfl
theorem qhI (a_0:List PART) (a_1:Int):fnF tb (envL e4) Tryz.f4 qbM c4.ps c4.rs (T:=Bool) (fun y=>(y.2.1)) (a_0,a_1,())=qch a_0 a_1:=by kernel_rfl
end Go.Proofs.YtmabkjhobhbfdaaGreatDoor.X
