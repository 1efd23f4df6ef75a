/- Own work: part of the proof; the first line of each part says what it tells. -/
import Derived.Test.YtmabkjhobhbfdaaGreatDoorLb7


namespace Go.Proofs.YtmabkjhobhbfdaaGreatDoor.X
open Go
set_option linter.unusedVariables false
set_option linter.unusedSimpArgs false
set_option maxRecDepth 100000
abbrev e60:List (Nat×Ctr):=[]
def qlO:LH
 | 4=>some ⟨qgM,qhW,lp qdW K0⟩
 | _=>none
theorem qtf (g:qgM.V->Option (OT qhW)) (v:qgM.V):q10q tb (envL e60) 23 qlO (q3q 2 (q4q Tryz.f60) .skip) qgM qhW g v=qdW g v:=by kernel_rfl
theorem qtg (a_0:List Int):fnF tb (envL e60) Tryz.f60 qlO c60.ps c60.rs (T:=(List Int)) (fun y=>(y.2.1)) (a_0,())=qed a_0:=by kernel_rfl
abbrev e40:List (Nat×Ctr):=[(60,c60)]
def qse:LH
 | _=>none
theorem qwh (n_0:Int):fnF tb (envL e40) Tryz.f40 qse c40.ps c40.rs (T:=(List Int)) (fun y=>(y.2.1)) (n_0,())=qki n_0:=by kernel_rfl
abbrev e63:List (Nat×Ctr):=[]
def qmb:LH
 | _=>none
theorem qqk (neg_0:Bool) (abs_1:List Int):fnF tb (envL e63) Tryz.f63 qmb c63.ps c63.rs (T:=WH) (fun y=>(y.2.1)) (neg_0,abs_1,())=qdr neg_0 abs_1:=by kernel_rfl
abbrev e52:List (Nat×Ctr):=[(40,c40),(63,c63)]
def qoo:LH
 | _=>none
theorem qsQ (n_0:Int):fnF tb (envL e52) Tryz.f52 qoo c52.ps c52.rs (T:=WH) (fun y=>(y.2.1)) (n_0,())=qgS n_0:=by kernel_rfl
abbrev e23:List (Nat×Ctr):=[(40,c40),(52,c52)]
def qoM:LH
 | _=>none
theorem qs2 (n_0:Int):fnF tb (envL e23) Tryz.f23 qoM c23.ps c23.rs (T:=RAT) (fun y=>(y.2.1)) (n_0,())=qi0 n_0:=by kernel_rfl
abbrev e8:List (Nat×Ctr):=[(23,c23)]
def qnP:LH
 | _=>none
theorem qrF :fnF tb (envL e8) Tryz.f8 qnP c8.ps c8.rs (T:=RAT) (fun y=>(y.2.1)) ()=qdB :=by kernel_rfl
abbrev e5:List (Nat×Ctr):=[(8,c8)]
def qj4:LH
 | _=>none
theorem qoV :fnFB tb (envL e5) Tryz.f5 qj4 w5 c5.ps c5.rs (T:=(List (Int×RAT×CELL))) (fun y=>(y.2.1)) ()=qfH :=by kernel_rfl
abbrev e6:List (Nat×Ctr):=[]
def qg2:LH
 | _=>none
theorem qj3 (b_0:List (Int×RAT×CELL)):fnFB tb (envL e6) Tryz.f6 qg2 w6 c6.ps c6.rs (T:=(List (Int×RAT×CELL))×(List (Int×RAT×CELL))) (fun y=>(y.2.1,y.2.2.1)) (b_0,())=qcs b_0:=by kernel_rfl
abbrev e15:List (Nat×Ctr):=[(40,c40)]
def qmk:LH
 | _=>none
theorem qqE :fnF tb (envL e15) Tryz.f15 qmk c15.ps c15.rs (T:=RAT) (fun y=>(y.2.1)) ()=qeL :=by kernel_rfl
abbrev e49:List (Nat×Ctr):=[(60,c60)]
def qkk:LH
 | 6=>some ⟨qfP,qg9,lp qdd K0⟩
 | _=>none
theorem qsg (g:qfP.V->Option (OT qg9)) (v:qfP.V):q10q tb (envL e49) 24 qkk (q3q 3 (q4q Tryz.f49) .skip) qfP qg9 g v=qdd g v:=by kernel_rfl
theorem qsh (a_0:List Int):fnF tb (envL e49) Tryz.f49 qkk c49.ps c49.rs (T:=(List Int)) (fun y=>(y.2.1)) (a_0,())=qbT a_0:=by kernel_rfl
abbrev e107:List (Nat×Ctr):=[(49,c49)]
def qsd:LH
 | _=>none
theorem qwg (a_0:List Int):fnF tb (envL e107) Tryz.f107 qsd c107.ps c107.rs (T:=Int×Bool) (fun y=>(y.2.1,y.2.2.1)) (a_0,())=qpY a_0:=by kernel_rfl
abbrev e79:List (Nat×Ctr):=[(40,c40),(107,c107)]
def qjg:LH
 | 6=>some ⟨qeO,qf9,lp qdc K0⟩
 | _=>none
theorem qqP (g:qeO.V->Option (OT qf9)) (v:qeO.V):q10q tb (envL e79) 27 qjg (q3q 3 (q4q Tryz.f79) .skip) qeO qf9 g v=qdc g v:=by kernel_rfl
theorem qqQ (a_0:List Int) (b_1:List Int):fnF tb (envL e79) Tryz.f79 qjg c79.ps c79.rs (T:=(List Int)) (fun y=>(y.2.1)) (a_0,b_1,())=qiM a_0 b_1:=by kernel_rfl
abbrev e80:List (Nat×Ctr):=[(108,c108)]
def qkb:LH
 | 6=>some ⟨qfJ,qg3,lp qdQ K0⟩
 | _=>none
theorem qrZ (g:qfJ.V->Option (OT qg3)) (v:qfJ.V):q10q tb (envL e80) 24 qkb (q3q 3 (q4q Tryz.f80) .skip) qfJ qg3 g v=qdQ g v:=by kernel_rfl
theorem qr0 (a_0:List Int):fnF tb (envL e80) Tryz.f80 qkb c80.ps c80.rs (T:=Int) (fun y=>(y.2.1)) (a_0,())=qb5 a_0:=by kernel_rfl
abbrev e88:List (Nat×Ctr):=[]
def qo1:LH
 | _=>none
theorem qto (a_0:List Int) (i_1:Int):fnF tb (envL e88) Tryz.f88 qo1 c88.ps c88.rs (T:=Int) (fun y=>(y.2.1)) (a_0,i_1,())=qgU a_0 i_1:=by kernel_rfl
abbrev e81:List (Nat×Ctr):=[(60,c60),(88,c88)]
def qng:LH
 | 12=>some ⟨qhF,qiK,lp qeM K0⟩
 | _=>none
theorem qu3 (g:qhF.V->Option (OT qiK)) (v:qhF.V):q10q tb (envL e81) 50 qng (q3q 6 (q4q Tryz.f81) .skip) qhF qiK g v=qeM g v:=by kernel_rfl
theorem qu4 (a_0:List Int) (n_1:Int):fnF tb (envL e81) Tryz.f81 qng c81.ps c81.rs (T:=(List Int)) (fun y=>(y.2.1)) (a_0,n_1,())=qdX a_0 n_1:=by kernel_rfl
abbrev e82:List (Nat×Ctr):=[]
def qke:LH
 | 12=>some ⟨qfL,qg5,lp qcO K0⟩
 | _=>none
theorem qr5 (g:qfL.V->Option (OT qg5)) (v:qfL.V):q10q tb (envL e82) 45 qke (q3q 6 (q4q Tryz.f82) .skip) qfL qg5 g v=qcO g v:=by kernel_rfl
theorem qr6 (a_0:List Int) (b_1:List Int):fnF tb (envL e82) Tryz.f82 qke c82.ps c82.rs (T:=Int) (fun y=>(y.2.1)) (a_0,b_1,())=qg6 a_0 b_1:=by kernel_rfl
abbrev e83:List (Nat×Ctr):=[(60,c60)]
def qnh:LH
 | 8=>some ⟨qhG,qiL,lp qeN K0⟩
 | _=>none
theorem qu6 (g:qhG.V->Option (OT qiL)) (v:qhG.V):q10q tb (envL e83) 51 qnh (q3q 4 (q4q Tryz.f83) .skip) qhG qiL g v=qeN g v:=by kernel_rfl
theorem qu7 (a_0:List Int) (n_1:Int):fnF tb (envL e83) Tryz.f83 qnh c83.ps c83.rs (T:=(List Int)) (fun y=>(y.2.1)) (a_0,n_1,())=qhY a_0 n_1:=by kernel_rfl
abbrev e86:List (Nat×Ctr):=[(60,c60)]
def qkc:LH
 | 8=>some ⟨qfK,qg4,lp qdR K0⟩
 | _=>none
theorem qr2 (g:qfK.V->Option (OT qg4)) (v:qfK.V):q10q tb (envL e86) 38 qkc (q3q 4 (q4q Tryz.f86) .skip) qfK qg4 g v=qdR g v:=by kernel_rfl
theorem qr3 (a_0:List Int) (d_1:Int):fnF tb (envL e86) Tryz.f86 qkc c86.ps c86.rs (T:=(List Int)×Int) (fun y=>(y.2.1,y.2.2.1)) (a_0,d_1,())=qkd a_0 d_1:=by kernel_rfl
abbrev e109:List (Nat×Ctr):=[(119,c119)]
def qgD:LH
 | _=>none
theorem qjM (x_0:Int):fnF tb (envL e109) Tryz.f109 qgD c109.ps c109.rs (T:=Int) (fun y=>(y.2.1)) (x_0,())=qc3 x_0:=by kernel_rfl
abbrev e120:List (Nat×Ctr):=[(88,c88)]
def qlP:LH
 | 6=>some ⟨qgN,qhX,lp qey K0⟩
 | _=>none
theorem qti (g:qgN.V->Option (OT qhX)) (v:qgN.V):q10q tb (envL e120) 46 qlP (q3q 3 (q4q Tryz.f120) .skip) qgN qhX g v=qey g v:=by kernel_rfl
theorem qtj (u_0:List Int) (v_1:List Int) (times_2:Int):fnF tb (envL e120) Tryz.f120 qlP c120.ps c120.rs (T:=(List Int)×Bool) (fun y=>(y.1.1,y.2.1)) (u_0,v_1,times_2,())=qmx u_0 v_1 times_2:=by kernel_rfl
abbrev e121:List (Nat×Ctr):=[(88,c88)]
def qlR:LH
 | 4=>some ⟨qgP,qh0,lp qez K0⟩
 | _=>none
theorem qtq (g:qgP.V->Option (OT qh0)) (v:qgP.V):q10q tb (envL e121) 29 qlR (q3q 2 (q4q Tryz.f121) .skip) qgP qh0 g v=qez g v:=by kernel_rfl
theorem qtr (u_0:List Int) (v_1:List Int):fnF tb (envL e121) Tryz.f121 qlR c121.ps c121.rs (T:=(List Int)) (fun y=>(y.1.1)) (u_0,v_1,())=qmB u_0 v_1:=by kernel_rfl
abbrev e110:List (Nat×Ctr):=[(120,c120),(121,c121)]
def qkg:LH
 | 8=>some ⟨qfN,qg8,lp qbv K0⟩
 | _=>none
theorem qsb (g:qfN.V->Option (OT qg8)) (v:qfN.V):q10q tb (envL e110) 77 qkg (q3q 4 (q4q Tryz.f110) .skip) qfN qg8 g v=qbv g v:=by kernel_rfl
theorem qsc (a_0:List Int) (a_1:List Int):fnF tb (envL e110) Tryz.f110 qkg c110.ps c110.rs (T:=(List Int)×Int) (fun y=>(y.1.1,y.2.1)) (a_0,a_1,())=qiN a_0 a_1:=by kernel_rfl
abbrev e87:List (Nat×Ctr):=[(60,c60),(81,c81),(83,c83),(109,c109),(110,c110)]
def qlQ:LH
 | 14=>some ⟨qgO,qhZ,lp qdY K0⟩
 | _=>none
theorem qtm (g:qgO.V->Option (OT qhZ)) (v:qgO.V):q10q tb (envL e87) 64 qlQ (q3q 7 (q4q Tryz.f87) .skip) qgO qhZ g v=qdY g v:=by kernel_rfl
theorem qtn (a_0:List Int) (b_1:List Int):fnF tb (envL e87) Tryz.f87 qlQ c87.ps c87.rs (T:=(List Int)×(List Int)) (fun y=>(y.2.1,y.2.2.1)) (a_0,b_1,())=qmA a_0 b_1:=by kernel_rfl
abbrev e62:List (Nat×Ctr):=[(40,c40),(49,c49),(82,c82),(86,c86),(87,c87)]
def qmC:LH
 | _=>none
theorem qqR (a_0:List Int) (b_1:List Int):fnF tb (envL e62) Tryz.f62 qmC c62.ps c62.rs (T:=(List Int)×(List Int)×Int) (fun y=>(y.2.1,y.2.2.1,y.2.2.2.1)) (a_0,b_1,())=qeQ a_0 b_1:=by kernel_rfl
abbrev e84:List (Nat×Ctr):=[(62,c62)]
def qo0:LH
 | _=>none
theorem qtk (a_0:List Int) (b_1:List Int):fnF tb (envL e84) Tryz.f84 qo0 c84.ps c84.rs (T:=(List Int)×(List Int)) (fun y=>(y.2.1,y.2.2.1)) (a_0,b_1,())=qh7 a_0 b_1:=by kernel_rfl
abbrev e85:List (Nat×Ctr):=[(60,c60),(88,c88)]
def qkf:LH
 | 8=>some ⟨qfM,qg7,lp qdS K0⟩
 | _=>none
theorem qr8 (g:qfM.V->Option (OT qg7)) (v:qfM.V):q10q tb (envL e85) 39 qkf (q3q 4 (q4q Tryz.f85) .skip) qfM qg7 g v=qdS g v:=by kernel_rfl
theorem qr9 (a_0:List Int) (b_1:List Int):fnF tb (envL e85) Tryz.f85 qkf c85.ps c85.rs (T:=(List Int)) (fun y=>(y.2.1)) (a_0,b_1,())=qf8 a_0 b_1:=by kernel_rfl
abbrev e61:List (Nat×Ctr):=[(49,c49),(79,c79),(80,c80),(81,c81),(82,c82),(83,c83),(84,c84),(85,c85)]
def qni:LH
 | 20=>some ⟨qgQ,qh1,lp qbS K0⟩
 | _=>none
theorem qtt (g:qgQ.V->Option (OT qh1)) (v:qgQ.V):q10q tb (envL e61) 86 qni (q3q 10 (q4q Tryz.f61) .skip) qgQ qh1 g v=qbS g v:=by kernel_rfl
theorem qve (a_0:List Int) (a_1:List Int):fnF tb (envL e61) Tryz.f61 qni c61.ps c61.rs (T:=(List Int)) (fun y=>(y.2.1)) (a_0,a_1,())=qo2 a_0 a_1:=by kernel_rfl
abbrev e41:List (Nat×Ctr):=[(40,c40),(61,c61),(62,c62)]
def qmj:LH
 | _=>none
theorem qqD (num_0:WH) (den_1:List Int):fnF tb (envL e41) Tryz.f41 qmj c41.ps c41.rs (T:=RAT) (fun y=>(y.2.1)) (num_0,den_1,())=qd9 num_0 den_1:=by kernel_rfl
abbrev e50:List (Nat×Ctr):=[(49,c49),(63,c63)]
def qlB:LH
 | _=>none
theorem qpt (a_0:WH):fnF tb (envL e50) Tryz.f50 qlB c50.ps c50.rs (T:=WH) (fun y=>(y.2.1)) (a_0,())=qbm a_0:=by kernel_rfl
abbrev e20:List (Nat×Ctr):=[(15,c15),(41,c41),(49,c49),(50,c50)]
def qlF:LH
 | _=>none
theorem qpD (a_0:RAT):fnF tb (envL e20) Tryz.f20 qlF c20.ps c20.rs (T:=RAT) (fun y=>(y.2.1)) (a_0,())=qbn a_0:=by kernel_rfl
abbrev e64:List (Nat×Ctr):=[(49,c49),(60,c60),(88,c88)]
def qnj:LH
 | 10=>some ⟨qhJ,qiQ,lp qfQ K0⟩
 | _=>none
theorem qvh (g:qhJ.V->Option (OT qiQ)) (v:qhJ.V):q10q tb (envL e64) 43 qnj (q3q 5 (q4q Tryz.f64) .skip) qhJ qiQ g v=qfQ g v:=by kernel_rfl
theorem qvi (a_0:List Int) (b_1:List Int):fnF tb (envL e64) Tryz.f64 qnj c64.ps c64.rs (T:=(List Int)) (fun y=>(y.2.1)) (a_0,b_1,())=qnk a_0 b_1:=by kernel_rfl
abbrev e65:List (Nat×Ctr):=[(49,c49),(82,c82)]
def qp0:LH
 | _=>none
theorem qvf (a_0:List Int) (b_1:List Int):fnF tb (envL e65) Tryz.f65 qp0 c65.ps c65.rs (T:=Int) (fun y=>(y.2.1)) (a_0,b_1,())=qig a_0 b_1:=by kernel_rfl
abbrev e66:List (Nat×Ctr):=[(49,c49),(82,c82),(85,c85)]
def qpZ:LH
 | _=>none
theorem qu8 (a_0:List Int) (b_1:List Int):fnF tb (envL e66) Tryz.f66 qpZ c66.ps c66.rs (T:=(List Int)×Int) (fun y=>(y.2.1,y.2.2.1)) (a_0,b_1,())=qkh a_0 b_1:=by kernel_rfl
abbrev e42:List (Nat×Ctr):=[(50,c50),(63,c63),(64,c64),(65,c65),(66,c66)]
def qnG:LH
 | _=>none
theorem qrk (a_0:WH) (b_1:WH):fnF tb (envL e42) Tryz.f42 qnG c42.ps c42.rs (T:=WH) (fun y=>(y.2.1)) (a_0,b_1,())=qjO a_0 b_1:=by kernel_rfl
abbrev e45:List (Nat×Ctr):=[(49,c49),(60,c60)]
def qk8:LH
 | 16=>some ⟨qhH,qiO,lp qeP K0⟩
 | 8=>some ⟨qhI,qiP,lp qfO K0⟩
 | _=>none
theorem qvb (g:qhH.V->Option (OT qiO)) (v:qhH.V):q10q tb (envL e45) 67 qk8 (q3q 8 (q4q Tryz.f45) .skip) qhH qiO g v=qeP g v:=by kernel_rfl
theorem qvc (g:qhI.V->Option (OT qiP)) (v:qhI.V):q10q tb (envL e45) 67 qk8 (q3q 4 (q4q Tryz.f45) .skip) qhI qiP g v=qfO g v:=by kernel_rfl
theorem qvd (a_0:List Int) (a_1:List Int):fnF tb (envL e45) Tryz.f45 qk8 c45.ps c45.rs (T:=(List Int)) (fun y=>(y.2.1)) (a_0,a_1,())=qkj a_0 a_1:=by kernel_rfl
abbrev e43:List (Nat×Ctr):=[(45,c45),(50,c50),(63,c63)]
def qnE:LH
 | _=>none
theorem qri (a_0:WH) (b_1:WH):fnF tb (envL e43) Tryz.f43 qnE c43.ps c43.rs (T:=WH) (fun y=>(y.2.1)) (a_0,b_1,())=qds a_0 b_1:=by kernel_rfl
abbrev e44:List (Nat×Ctr):=[]
def qnN:LH
 | _=>none
theorem qrz (a_0:RAT):fnF tb (envL e44) Tryz.f44 qnN c44.ps c44.rs (T:=WH) (fun y=>(y.2.1)) (a_0,())=qf3 a_0:=by kernel_rfl
abbrev e16:List (Nat×Ctr):=[(20,c20),(41,c41),(42,c42),(43,c43),(44,c44),(45,c45)]
def qnV:LH
 | _=>none
theorem qrN (a_0:RAT) (b_1:RAT):fnF tb (envL e16) Tryz.f16 qnV c16.ps c16.rs (T:=RAT) (fun y=>(y.2.1)) (a_0,b_1,())=qdC a_0 b_1:=by kernel_rfl
abbrev e18:List (Nat×Ctr):=[]
def qeu:LH
 | 8=>some ⟨qbt,qce,lp qak K0⟩
 | _=>none
theorem qj1 (g:qbt.V->Option (OT qce)) (v:qbt.V):q10q tb (envL e18) 29 qeu (q3q 4 (q4q Tryz.f18) .skip) qbt qce g v=qak g v:=by kernel_rfl
theorem qj2 (feature_0:Int) (b_1:List (Int×RAT×CELL)):fnFB tb (envL e18) Tryz.f18 qeu w18 c18.ps c18.rs (T:=Int×(List (Int×RAT×CELL))) (fun y=>(y.2.1,y.2.2.1)) (feature_0,b_1,())=qaP feature_0 b_1:=by kernel_rfl
abbrev e48:List (Nat×Ctr):=[(50,c50)]
def qmc:LH
 | _=>none
theorem qql (a_0:WH):fnF tb (envL e48) Tryz.f48 qmc c48.ps c48.rs (T:=Int) (fun y=>(y.2.1)) (a_0,())=qhD a_0:=by kernel_rfl
abbrev e19:List (Nat×Ctr):=[(20,c20),(48,c48)]
def qmm:LH
 | _=>none
theorem qqF (a_0:RAT):fnF tb (envL e19) Tryz.f19 qmm c19.ps c19.rs (T:=Int) (fun y=>(y.2.1)) (a_0,())=qfD a_0:=by kernel_rfl
abbrev e21:List (Nat×Ctr):=[(20,c20),(41,c41),(43,c43),(45,c45)]
def qnR:LH
 | _=>none
theorem qrI (a_0:RAT) (b_1:RAT):fnF tb (envL e21) Tryz.f21 qnR c21.ps c21.rs (T:=RAT) (fun y=>(y.2.1)) (a_0,b_1,())=qay a_0 b_1:=by kernel_rfl
abbrev e72:List (Nat×Ctr):=[(50,c50),(63,c63)]
def qnD:LH
 | _=>none
theorem qrh (a_0:WH):fnF tb (envL e72) Tryz.f72 qnD c72.ps c72.rs (T:=WH) (fun y=>(y.2.1)) (a_0,())=qin a_0:=by kernel_rfl
abbrev e51:List (Nat×Ctr):=[(41,c41),(48,c48),(50,c50),(72,c72)]
def qmo:LH
 | _=>none
theorem qqH (num_0:WH) (den_1:WH):fnF tb (envL e51) Tryz.f51 qmo c51.ps c51.rs (T:=RAT×Int) (fun y=>(y.2.1,y.2.2.1)) (num_0,den_1,())=qgH num_0 den_1:=by kernel_rfl
abbrev e22:List (Nat×Ctr):=[(20,c20),(51,c51),(52,c52)]
def qmp:LH
 | _=>none
theorem qqJ (n_0:Int) (d_1:Int):fnF tb (envL e22) Tryz.f22 qmp c22.ps c22.rs (T:=RAT) (fun y=>(y.2.1)) (n_0,d_1,())=qc4 n_0 d_1:=by kernel_rfl
abbrev e7:List (Nat×Ctr):=[(15,c15),(16,c16),(18,c18),(19,c19),(20,c20),(21,c21),(22,c22)]
def qdV:LH
 | 20=>some ⟨qa6,qbu,lp qao K0⟩
 | _=>none
theorem qiI (g:qa6.V->Option (OT qbu)) (v:qa6.V):q10q tb (envL e7) 113 qdV (q3q 10 (q4q Tryz.f7) .skip) qa6 qbu g v=qao g v:=by kernel_rfl
theorem qjd (a_0:Int) (a_1:RAT) (a_2:Bool) (b_3:List (Int×RAT×CELL)):fnFB tb (envL e7) Tryz.f7 qdV w7 c7.ps c7.rs (T:=Int×(List (Int×RAT×CELL))) (fun y=>(y.2.1,y.2.2.1)) (a_0,a_1,a_2,b_3,())=qae a_0 a_1 a_2 b_3:=by kernel_rfl
abbrev e14:List (Nat×Ctr):=[]
def qgr:LH
 | _=>none
theorem qjn (parts_0:List PART) (i_1:Int):fnF tb (envL e14) Tryz.f14 qgr c14.ps c14.rs (T:=(List PART)) (fun y=>(y.2.1)) (parts_0,i_1,())=qcG parts_0 i_1:=by kernel_rfl
abbrev e57:List (Nat×Ctr):=[(20,c20),(44,c44),(51,c51)]
def qnS:LH
 | _=>none
theorem qrK (a_0:RAT):fnF tb (envL e57) Tryz.f57 qnS c57.ps c57.rs (T:=RAT×Int) (fun y=>(y.2.1,y.2.2.1)) (a_0,())=qix a_0:=by kernel_rfl
abbrev e77:List (Nat×Ctr):=[(20,c20),(72,c72)]
def qnQ:LH
 | _=>none
theorem qrH (a_0:RAT):fnF tb (envL e77) Tryz.f77 qnQ c77.ps c77.rs (T:=RAT) (fun y=>(y.2.1)) (a_0,())=qiw a_0:=by kernel_rfl
abbrev e58:List (Nat×Ctr):=[(16,c16),(77,c77)]
def qnO:LH
 | _=>none
theorem qrE (a_0:RAT) (b_1:RAT):fnF tb (envL e58) Tryz.f58 qnO c58.ps c58.rs (T:=RAT) (fun y=>(y.2.1)) (a_0,b_1,())=qjW a_0 b_1:=by kernel_rfl
abbrev e34:List (Nat×Ctr):=[(21,c21),(22,c22),(57,c57),(58,c58)]
def qdG:LH
 | 14=>some ⟨qa4,qbq,lp qan K0⟩
 | _=>none
theorem qiC (g:qa4.V->Option (OT qbq)) (v:qa4.V):q10q tb (envL e34) 104 qdG (q3q 7 (q4q Tryz.f34) .skip) qa4 qbq g v=qan g v:=by kernel_rfl
theorem qiD (a_0:Int) (b_1:List (Int×RAT×CELL)):fnFB tb (envL e34) Tryz.f34 qdG w34 c34.ps c34.rs (T:=(List RAT)×(List (Int×RAT×CELL))) (fun y=>(y.2.1,y.2.2.1)) (a_0,b_1,())=qbr a_0 b_1:=by kernel_rfl
abbrev e24:List (Nat×Ctr):=[(34,c34)]
def qdU:LH
 | 16=>some ⟨qbd,qbQ,lp qat K0⟩
 | _=>none
theorem qjb (g:qbd.V->Option (OT qbQ)) (v:qbd.V):q10q tb (envL e24) 66 qdU (q3q 8 (q4q Tryz.f24) .skip) qbd qbQ g v=qat g v:=by kernel_rfl
theorem qjc (a_0:Int) (b_1:List (Int×RAT×CELL)):fnFB tb (envL e24) Tryz.f24 qdU w24 c24.ps c24.rs (T:=Int×(List (Int×RAT×CELL))) (fun y=>(y.2.1,y.2.2.1)) (a_0,b_1,())=qar a_0 b_1:=by kernel_rfl
abbrev e53:List (Nat×Ctr):=[]
def qgC:LH
 | _=>none
theorem qjL (a_0:RAT):fnF tb (envL e53) Tryz.f53 qgC c53.ps c53.rs (T:=RAT) (fun y=>(y.2.1)) (a_0,())=qc1 a_0:=by kernel_rfl
abbrev e25:List (Nat×Ctr):=[(53,c53)]
def qfB:LH
 | 6=>some ⟨qcb,qc2,lp qaW K0⟩
 | _=>none
theorem ql7 (g:qcb.V->Option (OT qc2)) (v:qcb.V):q10q tb (envL e25) 32 qfB (q3q 3 (q4q Tryz.f25) .skip) qcb qc2 g v=qaW g v:=by kernel_rfl
theorem ql8 (l_0:List CELL) (n_1:Int):fnF tb (envL e25) Tryz.f25 qfB c25.ps c25.rs (T:=(List CELL)) (fun y=>(y.2.1)) (l_0,n_1,())=qc6 l_0 n_1:=by kernel_rfl
abbrev e26:List (Nat×Ctr):=[]
def qeG:LH
 | 4=>some ⟨qbG,qco,lp qal K0⟩
 | _=>none
theorem qkX (g:qbG.V->Option (OT qco)) (v:qbG.V):q10q tb (envL e26) 21 qeG (q3q 2 (q4q Tryz.f26) .skip) qbG qco g v=qal g v:=by kernel_rfl
theorem qkY (parts_0:List PART) (feature_1:Int):fnF tb (envL e26) Tryz.f26 qeG c26.ps c26.rs (T:=Int) (fun y=>(y.2.1)) (parts_0,feature_1,())=qaQ parts_0 feature_1:=by kernel_rfl
abbrev e9:List (Nat×Ctr):=[(7,c7),(14,c14),(19,c19),(24,c24),(25,c25),(26,c26)]
def qhs:LH
 | _=>none
theorem qlw (a_0:List PART) (a_1:Int×Int×PART) (b_2:List (Int×RAT×CELL)):fnFB tb (envL e9) Tryz.f9 qhs w9 c9.ps c9.rs (T:=(List PART)×Bool×(List (Int×RAT×CELL))) (fun y=>(y.2.1,y.2.2.1,y.2.2.2.1)) (a_0,a_1,b_2,())=qbg a_0 a_1 b_2:=by kernel_rfl
abbrev e35:List (Nat×Ctr):=[]
def qnH:LH
 | _=>none
theorem qrm :fnFB tb (envL e35) Tryz.f35 qnH w35 c35.ps c35.rs (T:=Int×Int×Int×(List WH)) (fun y=>(y.2.1,y.2.2.1,y.2.2.2.1,y.2.2.2.2.1)) ()=qmd :=by kernel_rfl
abbrev e36:List (Nat×Ctr):=[]
def qfA:LH
 | 6=>some ⟨qca,qcZ,lp qaV K0⟩
 | _=>none
theorem ql4 (g:qca.V->Option (OT qcZ)) (v:qca.V):q10q tb (envL e36) 13 qfA (q3q 3 (q4q Tryz.f36) .skip) qca qcZ g v=qaV g v:=by kernel_rfl
theorem ql5 (n_0:Int):fnF tb (envL e36) Tryz.f36 qfA c36.ps c36.rs (T:=Int) (fun y=>(y.2.1)) (n_0,())=qd2 n_0:=by kernel_rfl
abbrev e37:List (Nat×Ctr):=[]
def qgs:LH
 | 4=>some ⟨qcv,qdk,lp qa0 K0⟩
 | _=>none
theorem qmQ (g:qcv.V->Option (OT qdk)) (v:qcv.V):q10q tb (envL e37) 16 qgs (q3q 2 (q4q Tryz.f37) .skip) qcv qdk g v=qa0 g v:=by kernel_rfl
theorem qmR (set_0:Int) (feature_1:Int):fnF tb (envL e37) Tryz.f37 qgs c37.ps c37.rs (T:=Bool) (fun y=>(y.2.1)) (set_0,feature_1,())=qdL set_0 feature_1:=by kernel_rfl
abbrev e38:List (Nat×Ctr):=[(37,c37)]
def qe5:LH
 | 6=>some ⟨qb1,qcI,lp qaO K0⟩
 | _=>none
theorem qly (g:qb1.V->Option (OT qcI)) (v:qb1.V):q10q tb (envL e38) 18 qe5 (q3q 3 (q4q Tryz.f38) .skip) qb1 qcI g v=qaO g v:=by kernel_rfl
theorem qlz (set_0:Int) (n_1:Int):fnF tb (envL e38) Tryz.f38 qe5 c38.ps c38.rs (T:=Int) (fun y=>(y.2.1)) (set_0,n_1,())=qcS set_0 n_1:=by kernel_rfl
abbrev e106:List (Nat×Ctr):=[(43,c43),(52,c52)]
def qgF:LH
 | 8=>some ⟨qcP,qdu,lp qdt K0⟩
 | _=>none
theorem qm4 (g:qcP.V->Option (OT qdu)) (v:qcP.V):q10q tb (envL e106) 21 qgF (q3q 4 (q4q Tryz.f106) .skip) qcP qdu g v=qdt g v:=by kernel_rfl
theorem qm5 :fnF tb (envL e106) Tryz.f106 qgF c106.ps c106.rs (T:=(List WH)) (fun y=>(y.2.1)) ()=qd4 :=by kernel_rfl
abbrev e105:List (Nat×Ctr):=[(106,c106)]
def qhm:LH
 | _=>none
theorem qlc (b_0:Int) (b_1:Int) (b_2:Int) (b_3:List WH):fnFB tb (envL e105) Tryz.f105 qhm w105 c105.ps c105.rs (T:=Int×Int×Int×(List WH)) (fun y=>(y.2.1,y.2.2.1,y.2.2.2.1,y.2.2.2.2.1)) (b_0,b_1,b_2,b_3,())=qeI b_0 b_1 b_2 b_3:=by kernel_rfl
abbrev e59:List (Nat×Ctr):=[(43,c43),(51,c51),(78,c78)]
def qfW:LH
 | _=>none
theorem qiV (a_0:Int) (b_1:Int) (c_2:Int) (b_3:Int) (b_4:Int) (b_5:Int) (b_6:List WH):fnFB tb (envL e59) Tryz.f59 qfW w59 c59.ps c59.rs (T:=RAT×Int×Int×Int×(List WH)) (fun y=>(y.2.1,y.2.2.1,y.2.2.2.1,y.2.2.2.2.1,y.2.2.2.2.2.1)) (a_0,b_1,c_2,b_3,b_4,b_5,b_6,())=qcA a_0 b_1 c_2 b_3 b_4 b_5 b_6:=by kernel_rfl
abbrev e39:List (Nat×Ctr):=[(59,c59)]
def qgV:LH
 | _=>none
theorem qjP (s_0:Int) (n_1:Int) (b_2:Int) (b_3:Int) (b_4:Int) (b_5:List WH):fnFB tb (envL e39) Tryz.f39 qgV w39 c39.ps c39.rs (T:=RAT×Int×Int×Int×Int×(List WH)) (fun y=>(y.2.1,y.2.2.1,y.2.2.2.1,y.2.2.2.2.1,y.2.2.2.2.2.1,y.2.2.2.2.2.2.1)) (s_0,n_1,b_2,b_3,b_4,b_5,())=qc7 s_0 n_1 b_2 b_3 b_4 b_5:=by kernel_rfl
abbrev e13:List (Nat×Ctr):=[(8,c8),(15,c15),(16,c16),(21,c21),(35,c35),(36,c36),(37,c37),(38,c38),(39,c39)]
def qcM:LH
 | 18=>some ⟨qbe,qbU,lp qau K0⟩
 | 10=>some ⟨qbf,qbV,lp qaL K0⟩
 | _=>none
theorem qjq (g:qbe.V->Option (OT qbU)) (v:qbe.V):q10q tb (envL e13) 71 qcM (q3q 9 (q4q Tryz.f13) .skip) qbe qbU g v=qau g v:=by kernel_rfl
theorem qjr (g:qbf.V->Option (OT qbV)) (v:qbf.V):q10q tb (envL e13) 71 qcM (q3q 5 (q4q Tryz.f13) .skip) qbf qbV g v=qaL g v:=by kernel_rfl
theorem qjs (a_0:List PART):fnF tb (envL e13) Tryz.f13 qcM c13.ps c13.rs (T:=(List RAT)) (fun y=>(y.2.1)) (a_0,())=qcH a_0:=by kernel_rfl
abbrev e92:List (Nat×Ctr):=[]
def qeC:LH
 | 4=>some ⟨qbB,qcj,lp qaT K0⟩
 | _=>none
theorem qkJ (g:qbB.V->Option (OT qcj)) (v:qbB.V):q10q tb (envL e92) 14 qeC (q3q 2 (q4q Tryz.f92) .skip) qbB qcj g v=qaT g v:=by kernel_rfl
theorem qkK (n_0:Int):fnF tb (envL e92) Tryz.f92 qeC c92.ps c92.rs (T:=(List Int)) (fun y=>(y.2.1)) (n_0,())=qam n_0:=by kernel_rfl
abbrev e112:List (Nat×Ctr):=[]
def qhg:LH
 | _=>none
theorem qkC (a_0:List Int) (i_1:Int):fnF tb (envL e112) Tryz.f112 qhg c112.ps c112.rs (T:=Int) (fun y=>(y.2.1)) (a_0,i_1,())=qaH a_0 i_1:=by kernel_rfl
abbrev e96:List (Nat×Ctr):=[(112,c112)]
def qe3:LH
 | 8=>some ⟨qbY,qcD,lp qaC K0⟩
 | _=>none
theorem qlo (g:qbY.V->Option (OT qcD)) (v:qbY.V):q10q tb (envL e96) 41 qe3 (q3q 4 (q4q Tryz.f96) .skip) qbY qcD g v=qaC g v:=by kernel_rfl
theorem qlp (a_0:List Int) (b_1:List Int):fnF tb (envL e96) Tryz.f96 qe3 c96.ps c96.rs (T:=(List Int)) (fun y=>(y.2.1)) (a_0,b_1,())=qcR a_0 b_1:=by kernel_rfl
abbrev e113:List (Nat×Ctr):=[]
def qe2:LH
 | 4=>some ⟨qbX,qcC,lp qaN K0⟩
 | _=>none
theorem qll (g:qbX.V->Option (OT qcC)) (v:qbX.V):q10q tb (envL e113) 21 qe2 (q3q 2 (q4q Tryz.f113) .skip) qbX qcC g v=qaN g v:=by kernel_rfl
theorem qlm (a_0:List Int):fnF tb (envL e113) Tryz.f113 qe2 c113.ps c113.rs (T:=(List Int)) (fun y=>(y.2.1)) (a_0,())=qby a_0:=by kernel_rfl
abbrev e97:List (Nat×Ctr):=[(113,c113)]
def qdi:LH
 | 14=>some ⟨qbz,qch,lp qaI K0⟩
 | 6=>some ⟨qbA,qci,lp qaS K0⟩
 | _=>none
theorem qkF (g:qbz.V->Option (OT qch)) (v:qbz.V):q10q tb (envL e97) 63 qdi (q3q 7 (q4q Tryz.f97) .skip) qbz qch g v=qaI g v:=by kernel_rfl
theorem qkG (g:qbA.V->Option (OT qci)) (v:qbA.V):q10q tb (envL e97) 63 qdi (q3q 3 (q4q Tryz.f97) .skip) qbA qci g v=qaS g v:=by kernel_rfl
theorem qkH (a_0:List Int) (b_1:List Int):fnF tb (envL e97) Tryz.f97 qdi c97.ps c97.rs (T:=(List Int)) (fun y=>(y.2.1)) (a_0,b_1,())=qbh a_0 b_1:=by kernel_rfl
abbrev e69:List (Nat×Ctr):=[(92,c92),(96,c96),(97,c97)]
def qe4:LH
 | 8=>some ⟨qb0,qcF,lp qaZ K0⟩
 | _=>none
theorem qlu (g:qb0.V->Option (OT qcF)) (v:qb0.V):q10q tb (envL e69) 26 qe4 (q3q 4 (q4q Tryz.f69) .skip) qb0 qcF g v=qaZ g v:=by kernel_rfl
theorem qlv (a_0:List Int):fnF tb (envL e69) Tryz.f69 qe4 c69.ps c69.rs (T:=(List Int)) (fun y=>(y.2.1)) (a_0,())=qaE a_0:=by kernel_rfl
abbrev e99:List (Nat×Ctr):=[]
def qhq:LH
 | _=>none
theorem qli (neg_0:Bool) (n_1:List Int):fnF tb (envL e99) Tryz.f99 qhq c99.ps c99.rs (T:=(Bool×List Int)) (fun y=>(y.2.1)) (neg_0,n_1,())=qbx neg_0 n_1:=by kernel_rfl
abbrev e98:List (Nat×Ctr):=[(92,c92),(96,c96),(99,c99)]
def qhe:LH
 | _=>none
theorem qkA (n_0:Int):fnF tb (envL e98) Tryz.f98 qhe c98.ps c98.rs (T:=(Bool×List Int)) (fun y=>(y.2.1)) (n_0,())=qef n_0:=by kernel_rfl
abbrev e70:List (Nat×Ctr):=[(92,c92),(98,c98)]
def qha:LH
 | _=>none
theorem qkw (n_0:Int) (d_1:Int):fnF tb (envL e70) Tryz.f70 qha c70.ps c70.rs (T:=((Bool×List Int)×List Int)) (fun y=>(y.2.1)) (n_0,d_1,())=qee n_0 d_1:=by kernel_rfl
abbrev e71:List (Nat×Ctr):=[(69,c69),(99,c99)]
def qhr:LH
 | _=>none
theorem qlj (a_0:WH):fnF tb (envL e71) Tryz.f71 qhr c71.ps c71.rs (T:=(Bool×List Int)) (fun y=>(y.2.1)) (a_0,())=qdJ a_0:=by kernel_rfl
abbrev e47:List (Nat×Ctr):=[(69,c69),(70,c70),(71,c71)]
def qhp:LH
 | _=>none
theorem qlh (a_0:RAT):fnF tb (envL e47) Tryz.f47 qhp c47.ps c47.rs (T:=((Bool×List Int)×List Int)) (fun y=>(y.2.1)) (a_0,())=qbw a_0:=by kernel_rfl
abbrev e89:List (Nat×Ctr):=[]
def qeD:LH
 | 4=>some ⟨qbC,qck,lp qaJ K0⟩
 | _=>none
theorem qkM (g:qbC.V->Option (OT qck)) (v:qbC.V):q10q tb (envL e89) 27 qeD (q3q 2 (q4q Tryz.f89) .skip) qbC qck g v=qaJ g v:=by kernel_rfl
theorem qkN (a_0:List Int):fnF tb (envL e89) Tryz.f89 qeD c89.ps c89.rs (T:=Bool) (fun y=>(y.2.1)) (a_0,())=qcu a_0:=by kernel_rfl
abbrev e91:List (Nat×Ctr):=[]
def qeE:LH
 | 12=>some ⟨qbE,qcm,lp qaw K0⟩
 | _=>none
theorem qkR (g:qbE.V->Option (OT qcm)) (v:qbE.V):q10q tb (envL e91) 41 qeE (q3q 6 (q4q Tryz.f91) .skip) qbE qcm g v=qaw g v:=by kernel_rfl
theorem qkS (a_0:List Int) (b_1:List Int):fnF tb (envL e91) Tryz.f91 qeE c91.ps c91.rs (T:=Int) (fun y=>(y.2.1)) (a_0,b_1,())=qaj a_0 b_1:=by kernel_rfl
abbrev e122:List (Nat×Ctr):=[(112,c112),(113,c113)]
def qeF:LH
 | 8=>some ⟨qbF,qcn,lp qaK K0⟩
 | _=>none
theorem qkU (g:qbF.V->Option (OT qcn)) (v:qbF.V):q10q tb (envL e122) 35 qeF (q3q 4 (q4q Tryz.f122) .skip) qbF qcn g v=qaK g v:=by kernel_rfl
theorem qkV (a_0:List Int) (b_1:List Int):fnF tb (envL e122) Tryz.f122 qeF c122.ps c122.rs (T:=(List Int)) (fun y=>(y.2.1)) (a_0,b_1,())=qdj a_0 b_1:=by kernel_rfl
abbrev e111:List (Nat×Ctr):=[(91,c91),(92,c92),(97,c97),(113,c113),(122,c122)]
def qdq:LH
 | 24=>some ⟨qbD,qcl,lp qav K0⟩
 | 8=>some ⟨qbZ,qcE,lp qaY K0⟩
 | _=>none
theorem qkP (g:qbD.V->Option (OT qcl)) (v:qbD.V):q10q tb (envL e111) 65 qdq (q3q 12 (q4q Tryz.f111) .skip) qbD qcl g v=qav g v:=by kernel_rfl
theorem qlr (g:qbZ.V->Option (OT qcE)) (v:qbZ.V):q10q tb (envL e111) 65 qdq (q3q 4 (q4q Tryz.f111) .skip) qbZ qcE g v=qaY g v:=by kernel_rfl
theorem qls (a_0:List Int) (a_1:List Int):fnF tb (envL e111) Tryz.f111 qdq c111.ps c111.rs (T:=(List Int)×(List Int)) (fun y=>(y.2.1,y.2.2.1)) (a_0,a_1,())=qdK a_0 a_1:=by kernel_rfl
abbrev e90:List (Nat×Ctr):=[(111,c111)]
def qfz:LH
 | 2=>some ⟨qb9,qcY,lp qa8 K0⟩
 | _=>none
theorem ql1 (g:qb9.V->Option (OT qcY)) (v:qb9.V):q10q tb (envL e90) 19 qfz (q3q 1 (q4q Tryz.f90) .skip) qb9 qcY g v=qa8 g v:=by kernel_rfl
theorem ql2 (a_0:List Int) (b_1:List Int):fnF tb (envL e90) Tryz.f90 qfz c90.ps c90.rs (T:=(List Int)) (fun y=>(y.2.1)) (a_0,b_1,())=qcy a_0 b_1:=by kernel_rfl
abbrev e67:List (Nat×Ctr):=[(69,c69),(89,c89),(90,c90),(91,c91),(92,c92)]
def qhb:LH
 | _=>none
theorem qkx (a_0:RAT):fnF tb (envL e67) Tryz.f67 qhb c67.ps c67.rs (T:=Bool) (fun y=>(y.2.1)) (a_0,())=qdf a_0:=by kernel_rfl
abbrev e93:List (Nat×Ctr):=[(91,c91)]
def qhf:LH
 | _=>none
theorem qkB (a_0:Bool×List Int) (b_1:Bool×List Int):fnF tb (envL e93) Tryz.f93 qhf c93.ps c93.rs (T:=Int) (fun y=>(y.2.1)) (a_0,b_1,())=qdh a_0 b_1:=by kernel_rfl
abbrev e94:List (Nat×Ctr):=[(97,c97),(99,c99)]
def qhd:LH
 | _=>none
theorem qkz (a_0:Bool×List Int) (b_1:Bool×List Int):fnF tb (envL e94) Tryz.f94 qhd c94.ps c94.rs (T:=(Bool×List Int)) (fun y=>(y.2.1)) (a_0,b_1,())=qct a_0 b_1:=by kernel_rfl
abbrev e95:List (Nat×Ctr):=[(99,c99)]
def qh4:LH
 | _=>none
theorem qlZ (a_0:(Bool×List Int)×List Int):fnF tb (envL e95) Tryz.f95 qh4 c95.ps c95.rs (T:=(Bool×List Int)) (fun y=>(y.2.1)) (a_0,())=qd1 a_0:=by kernel_rfl
abbrev e68:List (Nat×Ctr):=[(93,c93),(94,c94),(95,c95)]
def qhc:LH
 | _=>none
theorem qky (a_0:(Bool×List Int)×List Int) (b_1:(Bool×List Int)×List Int):fnF tb (envL e68) Tryz.f68 qhc c68.ps c68.rs (T:=Int) (fun y=>(y.2.1)) (a_0,b_1,())=qdg a_0 b_1:=by kernel_rfl
abbrev e46:List (Nat×Ctr):=[(47,c47),(67,c67),(68,c68)]
def qib:LH
 | _=>none
theorem qmO (a_0:RAT) (x_1:(Bool×List Int)×List Int):fnF tb (envL e46) Tryz.f46 qib c46.ps c46.rs (T:=Bool) (fun y=>(y.2.1)) (a_0,x_1,())=qgi a_0 x_1:=by kernel_rfl
abbrev e17:List (Nat×Ctr):=[(46,c46),(47,c47)]
def qia:LH
 | _=>none
theorem qmN (a_0:RAT) (b_1:RAT):fnF tb (envL e17) Tryz.f17 qia c17.ps c17.rs (T:=Bool) (fun y=>(y.2.1)) (a_0,b_1,())=qcW a_0 b_1:=by kernel_rfl
abbrev e27:List (Nat×Ctr):=[]
def qeb:LH
 | 10=>some ⟨qbj,qb4,lp qaz K0⟩
 | _=>none
theorem qjF (g:qbj.V->Option (OT qb4)) (v:qbj.V):q10q tb (envL e27) 32 qeb (q3q 5 (q4q Tryz.f27) .skip) qbj qb4 g v=qaz g v:=by kernel_rfl
theorem qjG (b_0:List (Int×RAT×CELL)):fnFB tb (envL e27) Tryz.f27 qeb w27 c27.ps c27.rs (T:=(List PART)×(List (Int×RAT×CELL))) (fun y=>(y.2.1,y.2.2.1)) (b_0,())=qbo b_0:=by kernel_rfl
abbrev e28:List (Nat×Ctr):=[]
def qho:LH
 | _=>none
theorem qlf (b_0:List (Int×RAT×CELL)):fnFB tb (envL e28) Tryz.f28 qho w28 c28.ps c28.rs (T:=Int×(List (Int×RAT×CELL))) (fun y=>(y.2.1,y.2.2.1)) (b_0,())=qdI b_0:=by kernel_rfl
abbrev e29:List (Nat×Ctr):=[(17,c17)]
def qfy:LH
 | 8=>some ⟨qb8,qcX,lp qaU K0⟩
 | _=>none
theorem qlX (g:qb8.V->Option (OT qcX)) (v:qb8.V):q10q tb (envL e29) 27 qfy (q3q 4 (q4q Tryz.f29) .skip) qb8 qcX g v=qaU g v:=by kernel_rfl
theorem qlY (a_0:List RAT) (b_1:List RAT):fnF tb (envL e29) Tryz.f29 qfy c29.ps c29.rs (T:=Bool) (fun y=>(y.2.1)) (a_0,b_1,())=qc5 a_0 b_1:=by kernel_rfl
abbrev e30:List (Nat×Ctr):=[]
def qdH:LH
 | 10=>some ⟨qa5,qbs,lp qap K0⟩
 | _=>none
theorem qiF (g:qa5.V->Option (OT qbs)) (v:qa5.V):q10q tb (envL e30) 24 qdH (q3q 5 (q4q Tryz.f30) .skip) qa5 qbs g v=qap g v:=by kernel_rfl
theorem qiG (b_0:List (Int×RAT×CELL)):fnFB tb (envL e30) Tryz.f30 qdH w30 c30.ps c30.rs (T:=(List RAT)×(List (Int×RAT×CELL))) (fun y=>(y.2.1,y.2.2.1)) (b_0,())=qcd b_0:=by kernel_rfl
abbrev e10:List (Nat×Ctr):=[(13,c13),(17,c17),(18,c18),(27,c27),(28,c28),(29,c29),(30,c30)]
def qec:LH
 | 10=>some ⟨qbk,qb6,lp qaA K0⟩
 | _=>none
theorem qjJ (g:qbk.V->Option (OT qb6)) (v:qbk.V):q10q tb (envL e10) 85 qec (q3q 5 (q4q Tryz.f10) .skip) qbk qb6 g v=qaA g v:=by kernel_rfl
theorem qjK (a_0:List PART) (b_1:List (Int×RAT×CELL)):fnFB tb (envL e10) Tryz.f10 qec w10 c10.ps c10.rs (T:=Bool×(List (Int×RAT×CELL))) (fun y=>(y.2.1,y.2.2.1)) (a_0,b_1,())=qc0 a_0 b_1:=by kernel_rfl
abbrev e123:List (Nat×Ctr):=[]
def qhv:LH
 | 18=>some ⟨qeR,qgc,lp qga K0⟩
 | 8=>some ⟨qeS,qgd,lp qgb K0⟩
 | _=>none
theorem qqU (g:qeR.V->Option (OT qgc)) (v:qeR.V):q10q tb (envL e123) 72 qhv (q3q 9 (q4q Tryz.f123) .skip) qeR qgc g v=qga g v:=by kernel_rfl
theorem qqV (g:qeS.V->Option (OT qgd)) (v:qeS.V):q10q tb (envL e123) 72 qhv (q3q 4 (q4q Tryz.f123) .skip) qeS qgd g v=qgb g v:=by kernel_rfl
theorem qqW (a_0:qmZ):fnF tb (envL e123) Tryz.f123 qhv c123.ps c123.rs (T:=Bool) (fun y=>(y.2.1)) (a_0,())=qnm a_0:=by kernel_rfl
abbrev e124:List (Nat×Ctr):=[]
def qhN:LH
 | 4=>some ⟨qdy,qeo,lp qen K0⟩
 | _=>none
theorem qox (g:qdy.V->Option (OT qeo)) (v:qdy.V):q10q tb (envL e124) 52 qhN (q3q 2 (q4q Tryz.f124) .skip) qdy qeo g v=qen g v:=by kernel_rfl
theorem qoy (t_0:List NODE) (features_1:Int):fnF tb (envL e124) Tryz.f124 qhN c124.ps c124.rs (T:=Int×Int) (fun y=>(y.2.1,y.2.2.1)) (t_0,features_1,())=qjQ t_0 features_1:=by kernel_rfl
abbrev e125:List (Nat×Ctr):=[]
def qd5:LH
 | 6=>some ⟨qd6,qe7,lp qe6 K0⟩
 | 20=>some ⟨qdx,qem,lp qej K0⟩
 | 34=>some ⟨qdw,qel,lp qei K0⟩
 | 50=>some ⟨qdv,qek,lp qeh K0⟩
 | _=>none
theorem qpv (g:qd6.V->Option (OT qe7)) (v:qd6.V):q10q tb (envL e125) 103 qd5 (q3q 3 (q4q Tryz.f125) .skip) qd6 qe7 g v=qe6 g v:=by kernel_rfl
theorem qov (g:qdx.V->Option (OT qem)) (v:qdx.V):q10q tb (envL e125) 103 qd5 (q3q 10 (q4q Tryz.f125) .skip) qdx qem g v=qej g v:=by kernel_rfl
theorem qou (g:qdw.V->Option (OT qel)) (v:qdw.V):q10q tb (envL e125) 103 qd5 (q3q 17 (q4q Tryz.f125) .skip) qdw qel g v=qei g v:=by kernel_rfl
theorem qot (g:qdv.V->Option (OT qek)) (v:qdv.V):q10q tb (envL e125) 103 qd5 (q3q 25 (q4q Tryz.f125) .skip) qdv qek g v=qeh g v:=by kernel_rfl
theorem qpw (a_0:List NODE):fnF tb (envL e125) Tryz.f125 qd5 c125.ps c125.rs (T:=Int×Int) (fun y=>(y.2.1,y.2.2.1)) (a_0,())=qlM a_0:=by kernel_rfl
abbrev e126:List (Nat×Ctr):=[(19,c19)]
def qhO:LH
 | 4=>some ⟨qdz,qeq,lp qep K0⟩
 | _=>none
theorem qoA (g:qdz.V->Option (OT qeq)) (v:qdz.V):q10q tb (envL e126) 19 qhO (q3q 2 (q4q Tryz.f126) .skip) qdz qeq g v=qep g v:=by kernel_rfl
theorem qoB (t_0:List NODE):fnF tb (envL e126) Tryz.f126 qhO c126.ps c126.rs (T:=Int×Int) (fun y=>(y.2.1,y.2.2.1)) (t_0,())=qjR t_0:=by kernel_rfl
abbrev e76:List (Nat×Ctr):=[(50,c50),(65,c65)]
def qnF:LH
 | _=>none
theorem qrj (a_0:WH) (b_1:WH):fnF tb (envL e76) Tryz.f76 qnF c76.ps c76.rs (T:=Int) (fun y=>(y.2.1)) (a_0,b_1,())=qop a_0 b_1:=by kernel_rfl
abbrev e56:List (Nat×Ctr):=[(20,c20),(43,c43),(44,c44),(76,c76)]
def qnU:LH
 | _=>none
theorem qrM (a_0:RAT) (b_1:RAT):fnF tb (envL e56) Tryz.f56 qnU c56.ps c56.rs (T:=Int) (fun y=>(y.2.1)) (a_0,b_1,())=qmq a_0 b_1:=by kernel_rfl
abbrev e32:List (Nat×Ctr):=[(56,c56)]
def qmn:LH
 | _=>none
theorem qqG (a_0:RAT) (b_1:RAT):fnF tb (envL e32) Tryz.f32 qmn c32.ps c32.rs (T:=Bool) (fun y=>(y.2.1)) (a_0,b_1,())=qk7 a_0 b_1:=by kernel_rfl
abbrev e127:List (Nat×Ctr):=[(16,c16),(32,c32)]
def qiW:LH
 | 4=>some ⟨qeJ,qfZ,lp qfY K0⟩
 | _=>none
theorem qqo (g:qeJ.V->Option (OT qfZ)) (v:qeJ.V):q10q tb (envL e127) 37 qiW (q3q 2 (q4q Tryz.f127) .skip) qeJ qfZ g v=qfY g v:=by kernel_rfl
theorem qqp (t_0:List NODE):fnF tb (envL e127) Tryz.f127 qiW c127.ps c127.rs (T:=Int×Int) (fun y=>(y.2.1,y.2.2.1)) (t_0,())=qm6 t_0:=by kernel_rfl
abbrev e128:List (Nat×Ctr):=[]
def qlC:LH
 | _=>none
theorem qpx (e_0:Int) (tree_1:Int) (node_2:Int):fnF tb (envL e128) Tryz.f128 qlC c128.ps c128.rs (T:=(Int×Int×Int×Int)) (fun y=>(y.2.1)) (e_0,tree_1,node_2,())=qfu e_0 tree_1 node_2:=by kernel_rfl
abbrev e114:List (Nat×Ctr):=[(123,c123),(124,c124),(125,c125),(126,c126),(127,c127),(128,c128)]
def qgT:LH
 | 14=>some ⟨qd7,qfa,lp qe8 K0⟩
 | 8=>some ⟨qd8,qfb,lp qe9 K0⟩
 | _=>none
theorem qpA (g:qd7.V->Option (OT qfa)) (v:qd7.V):q10q tb (envL e114) 63 qgT (q3q 7 (q4q Tryz.f114) .skip) qd7 qfa g v=qe8 g v:=by kernel_rfl
theorem qpB (g:qd8.V->Option (OT qfb)) (v:qd8.V):q10q tb (envL e114) 63 qgT (q3q 4 (q4q Tryz.f114) .skip) qd8 qfb g v=qe9 g v:=by kernel_rfl
theorem qpC (m_0:qmZ):fnF tb (envL e114) Tryz.f114 qgT c114.ps c114.rs (T:=(Int×Int×Int×Int)) (fun y=>(y.2.1)) (m_0,())=qlN m_0:=by kernel_rfl
abbrev e100:List (Nat×Ctr):=[(114,c114)]
def qoC:LH
 | _=>none
theorem qsT (m_0:qmZ):fnF tb (envL e100) Tryz.f100 qoC c100.ps c100.rs (T:=Bool) (fun y=>(y.2.1)) (m_0,())=qqq m_0:=by kernel_rfl
abbrev e73:List (Nat×Ctr):=[(100,c100)]
def qmg:LH
 | _=>none
theorem qqA (m_0:qmZ) (row_1:List CELL):fnF tb (envL e73) Tryz.f73 qmg c73.ps c73.rs (T:=Int) (fun y=>(y.2.1)) (m_0,row_1,())=qm9 m_0 row_1:=by kernel_rfl
abbrev e54:List (Nat×Ctr):=[(73,c73)]
def qmi:LH
 | _=>none
theorem qqC (m_0:qmZ) (row_1:List CELL):fnF tb (envL e54) Tryz.f54 qmi c54.ps c54.rs (T:=Int) (fun y=>(y.2.1)) (m_0,row_1,())=qnb m_0 row_1:=by kernel_rfl
abbrev e74:List (Nat×Ctr):=[(15,c15)]
def qgJ:LH
 | 6=>some ⟨qcQ,qdE,lp qdD K0⟩
 | _=>none
theorem qne (g:qcQ.V->Option (OT qdE)) (v:qcQ.V):q10q tb (envL e74) 13 qgJ (q3q 3 (q4q Tryz.f74) .skip) qcQ qdE g v=qdD g v:=by kernel_rfl
theorem qnf (n_0:Int):fnF tb (envL e74) Tryz.f74 qgJ c74.ps c74.rs (T:=(List RAT)) (fun y=>(y.2.1)) (n_0,())=qif n_0:=by kernel_rfl
abbrev e101:List (Nat×Ctr):=[(7,c7),(18,c18),(21,c21),(24,c24),(27,c27)]
def qgv:LH
 | _=>none
theorem qjD (b_0:Int) (b_1:Bool) (b_2:List Int) (b_3:List Int) (b_4:Int) (b_5:Bool) (b_6:List Int) (b_7:List Int) (b_8:Bool) (b_9:List (Int×RAT×CELL)):fnFB tb (envL e101) Tryz.f101 qgv w101 c101.ps c101.rs (T:=Int×Bool×(List Int)×(List Int)×Int×Bool×(List Int)×(List Int)×Bool×(List (Int×RAT×CELL))) (fun y=>(y.2.1,y.2.2.1,y.2.2.2.1,y.2.2.2.2.1,y.2.2.2.2.2.1,y.2.2.2.2.2.2.1,y.2.2.2.2.2.2.2.1,y.2.2.2.2.2.2.2.2.1,y.2.2.2.2.2.2.2.2.2.1,y.2.2.2.2.2.2.2.2.2.2.1)) (b_0,b_1,b_2,b_3,b_4,b_5,b_6,b_7,b_8,b_9,())=qfw b_0 b_1 b_2 b_3 b_4 b_5 b_6 b_7 b_8 b_9:=by kernel_rfl
abbrev e33:List (Nat×Ctr):=[(15,c15),(16,c16)]
def qjV:LH
 | 6=>some ⟨qfC,qg1,lp qg0 K0⟩
 | _=>none
theorem qrB (g:qfC.V->Option (OT qg1)) (v:qfC.V):q10q tb (envL e33) 18 qjV (q3q 3 (q4q Tryz.f33) .skip) qfC qg1 g v=qg0 g v:=by kernel_rfl
theorem qrC (l_0:List RAT):fnF tb (envL e33) Tryz.f33 qjV c33.ps c33.rs (T:=RAT) (fun y=>(y.2.1)) (l_0,())=qoL l_0:=by kernel_rfl
abbrev e12:List (Nat×Ctr):=[(33,c33),(34,c34)]
def qhn:LH
 | _=>none
theorem qle (at_0:Int) (b_1:List (Int×RAT×CELL)):fnFB tb (envL e12) Tryz.f12 qhn w12 c12.ps c12.rs (T:=RAT×Int×(List (Int×RAT×CELL))) (fun y=>(y.2.1,y.2.2.1,y.2.2.2.1)) (at_0,b_1,())=qgK at_0 b_1:=by kernel_rfl
abbrev e102:List (Nat×Ctr):=[(8,c8),(12,c12),(16,c16),(21,c21),(27,c27),(77,c77)]
def qdT:LH
 | 6=>some ⟨qbc,qbP,lp qbO K0⟩
 | _=>none
theorem qi8 (g:qbc.V->Option (OT qbP)) (v:qbc.V):q10q tb (envL e102) 69 qdT (q3q 3 (q4q Tryz.f102) .skip) qbc qbP g v=qbO g v:=by kernel_rfl
theorem qi9 (a_0:Int) (a_1:Bool) (a_2:List Int) (a_3:List Int) (a_4:Int) (a_5:Bool) (a_6:List Int) (a_7:List Int) (a_8:Bool) (b_9:List NODE) (b_10:List CELL) (b_11:Int) (b_12:Bool) (b_13:List RAT) (b_14:List (Int×RAT×CELL)):fnFB tb (envL e102) Tryz.f102 qdT w102 c102.ps c102.rs (T:=(List RAT)×(List NODE)×(List CELL)×Int×Bool×(List (Int×RAT×CELL))) (fun y=>(y.1.1,y.2.1,y.2.2.1,y.2.2.2.1,y.2.2.2.2.1,y.2.2.2.2.2.1)) (a_0,a_1,a_2,a_3,a_4,a_5,a_6,a_7,a_8,b_9,b_10,b_11,b_12,b_13,b_14,())=qe1 a_0 a_1 a_2 a_3 a_4 a_5 a_6 a_7 a_8 b_9 b_10 b_11 b_12 b_13 b_14:=by kernel_rfl
abbrev e115:List (Nat×Ctr):=[(21,c21),(57,c57)]
def qnT:LH
 | _=>none
theorem qrL (a_0:RAT) (b_1:RAT):fnF tb (envL e115) Tryz.f115 qnT c115.ps c115.rs (T:=RAT×Int) (fun y=>(y.2.1,y.2.2.1)) (a_0,b_1,())=qoN a_0 b_1:=by kernel_rfl
abbrev e129:List (Nat×Ctr):=[(56,c56)]
def qmf:LH
 | _=>none
theorem qqz (n_0:NODE) (c_1:CELL):fnF tb (envL e129) Tryz.f129 qmf c129.ps c129.rs (T:=Bool) (fun y=>(y.2.1)) (n_0,c_1,())=qm8 n_0 c_1:=by kernel_rfl
abbrev e116:List (Nat×Ctr):=[(129,c129)]
def qmh:LH
 | _=>none
theorem qqB (n_0:NODE) (c_1:CELL):fnF tb (envL e116) Tryz.f116 qmh c116.ps c116.rs (T:=Bool) (fun y=>(y.2.1)) (n_0,c_1,())=qna n_0 c_1:=by kernel_rfl
abbrev e103:List (Nat×Ctr):=[(6,c6),(21,c21),(115,c115),(116,c116)]
def qfE:LH
 | _=>none
theorem qiy (a_0:Int) (a_1:Bool) (a_2:List Int) (a_3:List Int) (a_4:Int) (a_5:Bool) (a_6:List Int) (a_7:List Int) (a_8:Bool) (a_9:Int) (a_10:Bool) (b_11:List NODE) (b_12:List CELL) (b_13:Int) (b_14:Bool) (b_15:List RAT) (b_16:List (Int×RAT×CELL)):fnFB tb (envL e103) Tryz.f103 qfE w103 c103.ps c103.rs (T:=(List RAT)×Int×Bool×(List Int)×(List Int)×Int×Bool×(List Int)×(List Int)×Bool×Bool×(List NODE)×(List CELL)×Int×Bool×(List (Int×RAT×CELL))×(List (Int×RAT×CELL))) (fun y=>(y.1.1,y.2.1,y.2.2.1,y.2.2.2.1,y.2.2.2.2.1,y.2.2.2.2.2.1,y.2.2.2.2.2.2.1,y.2.2.2.2.2.2.2.1,y.2.2.2.2.2.2.2.2.1,y.2.2.2.2.2.2.2.2.2.1,y.2.2.2.2.2.2.2.2.2.2.1,y.2.2.2.2.2.2.2.2.2.2.2.1,y.2.2.2.2.2.2.2.2.2.2.2.2.1,y.2.2.2.2.2.2.2.2.2.2.2.2.2.1,y.2.2.2.2.2.2.2.2.2.2.2.2.2.2.1,y.2.2.2.2.2.2.2.2.2.2.2.2.2.2.2.1,y.2.2.2.2.2.2.2.2.2.2.2.2.2.2.2.2.1)) (a_0,a_1,a_2,a_3,a_4,a_5,a_6,a_7,a_8,a_9,a_10,b_11,b_12,b_13,b_14,b_15,b_16,())=qdb a_0 a_1 a_2 a_3 a_4 a_5 a_6 a_7 a_8 a_9 a_10 b_11 b_12 b_13 b_14 b_15 b_16:=by kernel_rfl
abbrev e75:List (Nat×Ctr):=[(5,c5),(8,c8),(101,c101),(102,c102),(103,c103)]
def qcK:LH
 | 18=>some ⟨qba,qbM,lp qbK K0⟩
 | 2=>some ⟨qbb,qbN,lp qbL K0⟩
 | _=>none
theorem qi4 (g:qba.V->Option (OT qbM)) (v:qba.V):q10q tb (envL e75) 91 qcK (q3q 9 (q4q Tryz.f75) .skip) qba qbM g v=qbK g v:=by kernel_rfl
theorem qi5 (g:qbb.V->Option (OT qbN)) (v:qbb.V):q10q tb (envL e75) 91 qcK (q3q 1 (q4q Tryz.f75) .skip) qbb qbN g v=qbL g v:=by kernel_rfl
theorem qi6 (b_0:List NODE) (b_1:List CELL) (b_2:Int) (b_3:Bool) (b_4:List RAT) (b_5:List (Int×(Option ((Option (List (Int×RAT×CELL)))×Unit))×RAT×PART)):fnFB tb (envL e75) Tryz.f75 qcK w75 c75.ps c75.rs (T:=(List RAT)×(List NODE)×(List CELL)×Int×Bool×(List (Int×(Option ((Option (List (Int×RAT×CELL)))×Unit))×RAT×PART))) (fun y=>(y.1.1,y.2.1,y.2.2.1,y.2.2.2.1,y.2.2.2.2.1,y.2.2.2.2.2.1)) (b_0,b_1,b_2,b_3,b_4,b_5,())=qe0 b_0 b_1 b_2 b_3 b_4 b_5:=by kernel_rfl
abbrev e55:List (Nat×Ctr):=[(74,c74),(75,c75)]
def qhR:LH
 | 6=>some ⟨qdF,qet,lp qes K0⟩
 | _=>none
theorem qoT (g:qdF.V->Option (OT qet)) (v:qdF.V):q10q tb (envL e55) 34 qhR (q3q 3 (q4q Tryz.f55) .skip) qdF qet g v=qes g v:=by kernel_rfl
theorem qoU (m_0:qmZ) (row_1:List CELL) (fixed_2:Int) (on_3:Bool):fnF tb (envL e55) Tryz.f55 qhR c55.ps c55.rs (T:=(List RAT)) (fun y=>(y.2.1)) (m_0,row_1,fixed_2,on_3,())=qjZ m_0 row_1 fixed_2 on_3:=by kernel_rfl
abbrev e31:List (Nat×Ctr):=[(54,c54),(55,c55)]
def qh6:LH
 | _=>none
theorem qmu (m_0:qmZ) (row_1:List CELL):fnF tb (envL e31) Tryz.f31 qh6 c31.ps c31.rs (T:=(List RAT)×Int) (fun y=>(y.2.1,y.2.2.1)) (m_0,row_1,())=qhS m_0 row_1:=by kernel_rfl
abbrev e11:List (Nat×Ctr):=[(8,c8),(22,c22),(23,c23),(31,c31),(32,c32)]
def qeH:LH
 | _=>none
theorem qk0 :fnF tb (envL e11) Tryz.f11 qeH c11.ps c11.rs (T:=Bool) (fun y=>(y.2.1)) ()=qcw :=by kernel_rfl
abbrev e3:List (Nat×Ctr):=[(5,c5),(6,c6),(7,c7),(8,c8),(9,c9),(10,c10),(11,c11)]
def qcz:LH
 | 8=>some ⟨qaF,qaX,lp qai K0⟩
 | _=>none
theorem qhk (g:qaF.V->Option (OT qaX)) (v:qaF.V):q10q tb (envL e3) 55 qcz (q3q 4 (q4q Tryz.f3) .skip) qaF qaX g v=qai g v:=by kernel_rfl
theorem qhl (script_0:List (Int×Int×PART)):fnF tb (envL e3) Tryz.f3 qcz c3.ps c3.rs (T:=Bool) (fun y=>(y.2.1)) (script_0,())=qb3 script_0:=by kernel_rfl
end Go.Proofs.YtmabkjhobhbfdaaGreatDoor.X
