/- Own work: part of the proof; the first line of each part says what it tells. -/
import Derived.Test.YtlagkhlolphmdaaDoorLa7


namespace Go.Proofs.YtlagkhlolphmdaaDoor.X
open Go
set_option linter.unusedVariables false
set_option linter.unusedSimpArgs false
set_option maxRecDepth 100000
abbrev e16:List (Nat×Ctr):=[]
def qeh:LH
 | _=>none
theorem qgO (a_0:RAT):fnF tb (envL e16) Tryd.f16 qeh c16.ps c16.rs (T:=RAT) (fun y=>(y.2.1)) (a_0,())=qbV a_0:=by kernel_rfl
abbrev e5:List (Nat×Ctr):=[(16,c16)]
def qdA:LH
 | 6=>some ⟨qbx,qbW,lp qaE K0⟩
 | _=>none
theorem qig (g:qbx.V->Option (OT qbW)) (v:qbx.V):q10q tb (envL e5) 32 qdA (q3q 3 (q4q Tryd.f5) .skip) qbx qbW g v=qaE g v:=by kernel_rfl
theorem qih (l_0:List CELL) (n_1:Int):fnF tb (envL e5) Tryd.f5 qdA c5.ps c5.rs (T:=(List CELL)) (fun y=>(y.2.1)) (l_0,n_1,())=qa6 l_0 n_1:=by kernel_rfl
abbrev e34:List (Nat×Ctr):=[]
def qei:LH
 | _=>none
theorem qgP (a_0:RAT):fnF tb (envL e34) Tryd.f34 qei c34.ps c34.rs (T:=RAT) (fun y=>(y.2.1)) (a_0,())=qa9 a_0:=by kernel_rfl
abbrev e15:List (Nat×Ctr):=[(34,c34)]
def qcx:LH
 | 14=>some ⟨qby,qbX,lp qaz K0⟩
 | 6=>some ⟨qbz,qbY,lp qaA K0⟩
 | _=>none
theorem qik (g:qby.V->Option (OT qbX)) (v:qby.V):q10q tb (envL e15) 67 qcx (q3q 7 (q4q Tryd.f15) .skip) qby qbX g v=qaz g v:=by kernel_rfl
theorem qil (g:qbz.V->Option (OT qbY)) (v:qbz.V):q10q tb (envL e15) 67 qcx (q3q 3 (q4q Tryd.f15) .skip) qbz qbY g v=qaA g v:=by kernel_rfl
theorem qim (a_0:qak):fnF tb (envL e15) Tryd.f15 qcx c15.ps c15.rs (T:=qak) (fun y=>(y.2.1)) (a_0,())=qcD a_0:=by kernel_rfl
abbrev e4:List (Nat×Ctr):=[(5,c5),(15,c15)]
def qeL:LH
 | _=>none
theorem qhC (m_0:qak) (row_1:List CELL):fnF tb (envL e4) Tryd.f4 qeL c4.ps c4.rs (T:=qak×(List CELL)) (fun y=>(y.2.1,y.2.2.1)) (m_0,row_1,())=qbG m_0 row_1:=by kernel_rfl
abbrev e38:List (Nat×Ctr):=[]
def qeX:LH
 | 18=>some ⟨qdc,qd1,lp qbn K0⟩
 | 8=>some ⟨qdd,qd2,lp qaW K0⟩
 | _=>none
theorem qmW (g:qdc.V->Option (OT qd1)) (v:qdc.V):q10q tb (envL e38) 72 qeX (q3q 9 (q4q Tryd.f38) .skip) qdc qd1 g v=qbn g v:=by kernel_rfl
theorem qmX (g:qdd.V->Option (OT qd2)) (v:qdd.V):q10q tb (envL e38) 72 qeX (q3q 4 (q4q Tryd.f38) .skip) qdd qd2 g v=qaW g v:=by kernel_rfl
theorem qmY (a_0:qak):fnF tb (envL e38) Tryd.f38 qeX c38.ps c38.rs (T:=Bool) (fun y=>(y.2.1)) (a_0,())=qga a_0:=by kernel_rfl
abbrev e39:List (Nat×Ctr):=[]
def qff:LH
 | 4=>some ⟨qci,qcT,lp qaQ K0⟩
 | _=>none
theorem qkw (g:qci.V->Option (OT qcT)) (v:qci.V):q10q tb (envL e39) 52 qff (q3q 2 (q4q Tryd.f39) .skip) qci qcT g v=qaQ g v:=by kernel_rfl
theorem qkx (t_0:List NODE) (features_1:Int):fnF tb (envL e39) Tryd.f39 qff c39.ps c39.rs (T:=Int×Int) (fun y=>(y.2.1,y.2.2.1)) (t_0,features_1,())=qdB t_0 features_1:=by kernel_rfl
abbrev e40:List (Nat×Ctr):=[]
def qcG:LH
 | 6=>some ⟨qcH,qdi,lp qbf K0⟩
 | 20=>some ⟨qch,qcS,lp qaF K0⟩
 | 34=>some ⟨qcg,qcR,lp qbg K0⟩
 | 50=>some ⟨qcf,qcQ,lp qaP K0⟩
 | _=>none
theorem qlp (g:qcH.V->Option (OT qdi)) (v:qcH.V):q10q tb (envL e40) 103 qcG (q3q 3 (q4q Tryd.f40) .skip) qcH qdi g v=qbf g v:=by kernel_rfl
theorem qku (g:qch.V->Option (OT qcS)) (v:qch.V):q10q tb (envL e40) 103 qcG (q3q 10 (q4q Tryd.f40) .skip) qch qcS g v=qaF g v:=by kernel_rfl
theorem qkt (g:qcg.V->Option (OT qcR)) (v:qcg.V):q10q tb (envL e40) 103 qcG (q3q 17 (q4q Tryd.f40) .skip) qcg qcR g v=qbg g v:=by kernel_rfl
theorem qks (g:qcf.V->Option (OT qcQ)) (v:qcf.V):q10q tb (envL e40) 103 qcG (q3q 25 (q4q Tryd.f40) .skip) qcf qcQ g v=qaP g v:=by kernel_rfl
theorem qlq (a_0:List NODE):fnF tb (envL e40) Tryd.f40 qcG c40.ps c40.rs (T:=Int×Int) (fun y=>(y.2.1,y.2.2.1)) (a_0,())=qfe a_0:=by kernel_rfl
abbrev e58:List (Nat×Ctr):=[]
def qh7:LH
 | 4=>some ⟨qep,qfn,lp qcu K0⟩
 | _=>none
theorem qo4 (g:qep.V->Option (OT qfn)) (v:qep.V):q10q tb (envL e58) 23 qh7 (q3q 2 (q4q Tryd.f58) .skip) qep qfn g v=qcu g v:=by kernel_rfl
theorem qo5 (a_0:List Int):fnF tb (envL e58) Tryd.f58 qh7 c58.ps c58.rs (T:=(List Int)) (fun y=>(y.2.1)) (a_0,())=qcN a_0:=by kernel_rfl
abbrev e37:List (Nat×Ctr):=[(58,c58)]
def qhd:LH
 | 6=>some ⟨qdN,qeJ,lp qb6 K0⟩
 | _=>none
theorem qoc (g:qdN.V->Option (OT qeJ)) (v:qdN.V):q10q tb (envL e37) 24 qhd (q3q 3 (q4q Tryd.f37) .skip) qdN qeJ g v=qb6 g v:=by kernel_rfl
theorem qod (a_0:List Int):fnF tb (envL e37) Tryd.f37 qhd c37.ps c37.rs (T:=(List Int)) (fun y=>(y.2.1)) (a_0,())=qbm a_0:=by kernel_rfl
abbrev e57:List (Nat×Ctr):=[]
def qip:LH
 | _=>none
theorem qmk (neg_0:Bool) (abs_1:List Int):fnF tb (envL e57) Tryd.f57 qip c57.ps c57.rs (T:=WH) (fun y=>(y.2.1)) (neg_0,abs_1,())=qce neg_0 abs_1:=by kernel_rfl
abbrev e36:List (Nat×Ctr):=[(37,c37),(57,c57)]
def qhR:LH
 | _=>none
theorem qln (a_0:WH):fnF tb (envL e36) Tryd.f36 qhR c36.ps c36.rs (T:=WH) (fun y=>(y.2.1)) (a_0,())=qa7 a_0:=by kernel_rfl
abbrev e20:List (Nat×Ctr):=[(36,c36)]
def qiq:LH
 | _=>none
theorem qml (a_0:WH):fnF tb (envL e20) Tryd.f20 qiq c20.ps c20.rs (T:=Int) (fun y=>(y.2.1)) (a_0,())=qe4 a_0:=by kernel_rfl
abbrev e45:List (Nat×Ctr):=[(58,c58)]
def qoa:LH
 | _=>none
theorem qr1 (n_0:Int):fnF tb (envL e45) Tryd.f45 qoa c45.ps c45.rs (T:=(List Int)) (fun y=>(y.2.1)) (n_0,())=qhb n_0:=by kernel_rfl
abbrev e27:List (Nat×Ctr):=[(45,c45)]
def qiz:LH
 | _=>none
theorem qmH :fnF tb (envL e27) Tryd.f27 qiz c27.ps c27.rs (T:=RAT) (fun y=>(y.2.1)) ()=qe6 :=by kernel_rfl
abbrev e76:List (Nat×Ctr):=[(37,c37)]
def qn9:LH
 | _=>none
theorem qr0 (a_0:List Int):fnF tb (envL e76) Tryd.f76 qn9 c76.ps c76.rs (T:=Int×Bool) (fun y=>(y.2.1,y.2.2.1)) (a_0,())=ql0 a_0:=by kernel_rfl
abbrev e65:List (Nat×Ctr):=[(45,c45),(76,c76)]
def qgs:LH
 | 6=>some ⟨qc9,qd0,lp qb5 K0⟩
 | _=>none
theorem qmQ (g:qc9.V->Option (OT qd0)) (v:qc9.V):q10q tb (envL e65) 27 qgs (q3q 3 (q4q Tryd.f65) .skip) qc9 qd0 g v=qb5 g v:=by kernel_rfl
theorem qmR (a_0:List Int) (b_1:List Int):fnF tb (envL e65) Tryd.f65 qgs c65.ps c65.rs (T:=(List Int)) (fun y=>(y.2.1)) (a_0,b_1,())=qf5 a_0 b_1:=by kernel_rfl
abbrev e66:List (Nat×Ctr):=[(77,c77)]
def qg4:LH
 | 6=>some ⟨qdH,qeD,lp qcp K0⟩
 | _=>none
theorem qnV (g:qdH.V->Option (OT qeD)) (v:qdH.V):q10q tb (envL e66) 24 qg4 (q3q 3 (q4q Tryd.f66) .skip) qdH qeD g v=qcp g v:=by kernel_rfl
theorem qnW (a_0:List Int):fnF tb (envL e66) Tryd.f66 qg4 c66.ps c66.rs (T:=Int) (fun y=>(y.2.1)) (a_0,())=qbw a_0:=by kernel_rfl
abbrev e74:List (Nat×Ctr):=[]
def qkW:LH
 | _=>none
theorem qpd (a_0:List Int) (i_1:Int):fnF tb (envL e74) Tryd.f74 qkW c74.ps c74.rs (T:=Int) (fun y=>(y.2.1)) (a_0,i_1,())=qew a_0 i_1:=by kernel_rfl
abbrev e67:List (Nat×Ctr):=[(58,c58),(74,c74)]
def qjd:LH
 | 12=>some ⟨qe8,qf3,lp qc7 K0⟩
 | _=>none
theorem qqP (g:qe8.V->Option (OT qf3)) (v:qe8.V):q10q tb (envL e67) 50 qjd (q3q 6 (q4q Tryd.f67) .skip) qe8 qf3 g v=qc7 g v:=by kernel_rfl
theorem qqQ (a_0:List Int) (n_1:Int):fnF tb (envL e67) Tryd.f67 qjd c67.ps c67.rs (T:=(List Int)) (fun y=>(y.2.1)) (a_0,n_1,())=qcv a_0 n_1:=by kernel_rfl
abbrev e68:List (Nat×Ctr):=[]
def qg7:LH
 | 12=>some ⟨qdJ,qeF,lp qbQ K0⟩
 | _=>none
theorem qn1 (g:qdJ.V->Option (OT qeF)) (v:qdJ.V):q10q tb (envL e68) 45 qg7 (q3q 6 (q4q Tryd.f68) .skip) qdJ qeF g v=qbQ g v:=by kernel_rfl
theorem qn2 (a_0:List Int) (b_1:List Int):fnF tb (envL e68) Tryd.f68 qg7 c68.ps c68.rs (T:=Int) (fun y=>(y.2.1)) (a_0,b_1,())=qeG a_0 b_1:=by kernel_rfl
abbrev e69:List (Nat×Ctr):=[(58,c58)]
def qje:LH
 | 8=>some ⟨qe9,qf4,lp qc8 K0⟩
 | _=>none
theorem qqS (g:qe9.V->Option (OT qf4)) (v:qe9.V):q10q tb (envL e69) 51 qje (q3q 4 (q4q Tryd.f69) .skip) qe9 qf4 g v=qc8 g v:=by kernel_rfl
theorem qqT (a_0:List Int) (n_1:Int):fnF tb (envL e69) Tryd.f69 qje c69.ps c69.rs (T:=(List Int)) (fun y=>(y.2.1)) (a_0,n_1,())=qfp a_0 n_1:=by kernel_rfl
abbrev e72:List (Nat×Ctr):=[(58,c58)]
def qg5:LH
 | 8=>some ⟨qdI,qeE,lp qcq K0⟩
 | _=>none
theorem qnY (g:qdI.V->Option (OT qeE)) (v:qdI.V):q10q tb (envL e72) 38 qg5 (q3q 4 (q4q Tryd.f72) .skip) qdI qeE g v=qcq g v:=by kernel_rfl
theorem qnZ (a_0:List Int) (d_1:Int):fnF tb (envL e72) Tryd.f72 qg5 c72.ps c72.rs (T:=(List Int)×Int) (fun y=>(y.2.1,y.2.2.1)) (a_0,d_1,())=qg6 a_0 d_1:=by kernel_rfl
abbrev e78:List (Nat×Ctr):=[(81,c81)]
def qej:LH
 | _=>none
theorem qgQ (x_0:Int):fnF tb (envL e78) Tryd.f78 qej c78.ps c78.rs (T:=Int) (fun y=>(y.2.1)) (x_0,())=qbZ x_0:=by kernel_rfl
abbrev e82:List (Nat×Ctr):=[(74,c74)]
def qh8:LH
 | 6=>some ⟨qeq,qfo,lp qcZ K0⟩
 | _=>none
theorem qo7 (g:qeq.V->Option (OT qfo)) (v:qeq.V):q10q tb (envL e82) 46 qh8 (q3q 3 (q4q Tryd.f82) .skip) qeq qfo g v=qcZ g v:=by kernel_rfl
theorem qo8 (u_0:List Int) (v_1:List Int) (times_2:Int):fnF tb (envL e82) Tryd.f82 qh8 c82.ps c82.rs (T:=(List Int)×Bool) (fun y=>(y.1.1,y.2.1)) (u_0,v_1,times_2,())=qiJ u_0 v_1 times_2:=by kernel_rfl
abbrev e83:List (Nat×Ctr):=[(74,c74)]
def qia:LH
 | 4=>some ⟨qes,qfr,lp qc0 K0⟩
 | _=>none
theorem qpf (g:qes.V->Option (OT qfr)) (v:qes.V):q10q tb (envL e83) 29 qia (q3q 2 (q4q Tryd.f83) .skip) qes qfr g v=qc0 g v:=by kernel_rfl
theorem qpg (u_0:List Int) (v_1:List Int):fnF tb (envL e83) Tryd.f83 qia c83.ps c83.rs (T:=(List Int)) (fun y=>(y.1.1)) (u_0,v_1,())=qiN u_0 v_1:=by kernel_rfl
abbrev e79:List (Nat×Ctr):=[(82,c82),(83,c83)]
def qg9:LH
 | 8=>some ⟨qdL,qeI,lp qbb K0⟩
 | _=>none
theorem qn7 (g:qdL.V->Option (OT qeI)) (v:qdL.V):q10q tb (envL e79) 77 qg9 (q3q 4 (q4q Tryd.f79) .skip) qdL qeI g v=qbb g v:=by kernel_rfl
theorem qn8 (a_0:List Int) (a_1:List Int):fnF tb (envL e79) Tryd.f79 qg9 c79.ps c79.rs (T:=(List Int)×Int) (fun y=>(y.1.1,y.2.1)) (a_0,a_1,())=qf6 a_0 a_1:=by kernel_rfl
abbrev e73:List (Nat×Ctr):=[(58,c58),(67,c67),(69,c69),(78,c78),(79,c79)]
def qh9:LH
 | 14=>some ⟨qer,qfq,lp qcw K0⟩
 | _=>none
theorem qpb (g:qer.V->Option (OT qfq)) (v:qer.V):q10q tb (envL e73) 64 qh9 (q3q 7 (q4q Tryd.f73) .skip) qer qfq g v=qcw g v:=by kernel_rfl
theorem qpc (a_0:List Int) (b_1:List Int):fnF tb (envL e73) Tryd.f73 qh9 c73.ps c73.rs (T:=(List Int)×(List Int)) (fun y=>(y.2.1,y.2.2.1)) (a_0,b_1,())=qiM a_0 b_1:=by kernel_rfl
abbrev e56:List (Nat×Ctr):=[(37,c37),(45,c45),(68,c68),(72,c72),(73,c73)]
def qiO:LH
 | _=>none
theorem qmS (a_0:List Int) (b_1:List Int):fnF tb (envL e56) Tryd.f56 qiO c56.ps c56.rs (T:=(List Int)×(List Int)×Int) (fun y=>(y.2.1,y.2.2.1,y.2.2.2.1)) (a_0,b_1,())=qdb a_0 b_1:=by kernel_rfl
abbrev e70:List (Nat×Ctr):=[(56,c56)]
def qkV:LH
 | _=>none
theorem qo9 (a_0:List Int) (b_1:List Int):fnF tb (envL e70) Tryd.f70 qkV c70.ps c70.rs (T:=(List Int)×(List Int)) (fun y=>(y.2.1,y.2.2.1)) (a_0,b_1,())=qfE a_0 b_1:=by kernel_rfl
abbrev e71:List (Nat×Ctr):=[(58,c58),(74,c74)]
def qg8:LH
 | 8=>some ⟨qdK,qeH,lp qcr K0⟩
 | _=>none
theorem qn4 (g:qdK.V->Option (OT qeH)) (v:qdK.V):q10q tb (envL e71) 39 qg8 (q3q 4 (q4q Tryd.f71) .skip) qdK qeH g v=qcr g v:=by kernel_rfl
theorem qn5 (a_0:List Int) (b_1:List Int):fnF tb (envL e71) Tryd.f71 qg8 c71.ps c71.rs (T:=(List Int)) (fun y=>(y.2.1)) (a_0,b_1,())=qdZ a_0 b_1:=by kernel_rfl
abbrev e55:List (Nat×Ctr):=[(37,c37),(65,c65),(66,c66),(67,c67),(68,c68),(69,c69),(70,c70),(71,c71)]
def qjf:LH
 | 20=>some ⟨qet,qfs,lp qbl K0⟩
 | _=>none
theorem qpi (g:qet.V->Option (OT qfs)) (v:qet.V):q10q tb (envL e55) 86 qjf (q3q 10 (q4q Tryd.f55) .skip) qet qfs g v=qbl g v:=by kernel_rfl
theorem qq0 (a_0:List Int) (a_1:List Int):fnF tb (envL e55) Tryd.f55 qjf c55.ps c55.rs (T:=(List Int)) (fun y=>(y.2.1)) (a_0,a_1,())=qkX a_0 a_1:=by kernel_rfl
abbrev e31:List (Nat×Ctr):=[(45,c45),(55,c55),(56,c56)]
def qiy:LH
 | _=>none
theorem qmG (num_0:WH) (den_1:List Int):fnF tb (envL e31) Tryd.f31 qiy c31.ps c31.rs (T:=RAT) (fun y=>(y.2.1)) (num_0,den_1,())=qcK num_0 den_1:=by kernel_rfl
abbrev e21:List (Nat×Ctr):=[(27,c27),(31,c31),(36,c36),(37,c37)]
def qhW:LH
 | _=>none
theorem qlA (a_0:RAT):fnF tb (envL e21) Tryd.f21 qhW c21.ps c21.rs (T:=RAT) (fun y=>(y.2.1)) (a_0,())=qa8 a_0:=by kernel_rfl
abbrev e8:List (Nat×Ctr):=[(20,c20),(21,c21)]
def qiB:LH
 | _=>none
theorem qmI (a_0:RAT):fnF tb (envL e8) Tryd.f8 qiB c8.ps c8.rs (T:=Int) (fun y=>(y.2.1)) (a_0,())=qdF a_0:=by kernel_rfl
abbrev e41:List (Nat×Ctr):=[(8,c8)]
def qfg:LH
 | 4=>some ⟨qcj,qcU,lp qaR K0⟩
 | _=>none
theorem qkz (g:qcj.V->Option (OT qcU)) (v:qcj.V):q10q tb (envL e41) 19 qfg (q3q 2 (q4q Tryd.f41) .skip) qcj qcU g v=qaR g v:=by kernel_rfl
theorem qkA (t_0:List NODE):fnF tb (envL e41) Tryd.f41 qfg c41.ps c41.rs (T:=Int×Int) (fun y=>(y.2.1,y.2.2.1)) (t_0,())=qdC t_0:=by kernel_rfl
abbrev e33:List (Nat×Ctr):=[(37,c37),(58,c58)]
def qhH:LH
 | 16=>some ⟨qfa,qf7,lp qda K0⟩
 | 8=>some ⟨qfb,qf8,lp qdM K0⟩
 | _=>none
theorem qqX (g:qfa.V->Option (OT qf7)) (v:qfa.V):q10q tb (envL e33) 67 qhH (q3q 8 (q4q Tryd.f33) .skip) qfa qf7 g v=qda g v:=by kernel_rfl
theorem qqY (g:qfb.V->Option (OT qf8)) (v:qfb.V):q10q tb (envL e33) 67 qhH (q3q 4 (q4q Tryd.f33) .skip) qfb qf8 g v=qdM g v:=by kernel_rfl
theorem qqZ (a_0:List Int) (a_1:List Int):fnF tb (envL e33) Tryd.f33 qhH c33.ps c33.rs (T:=(List Int)) (fun y=>(y.2.1)) (a_0,a_1,())=qhc a_0 a_1:=by kernel_rfl
abbrev e32:List (Nat×Ctr):=[(33,c33),(36,c36),(57,c57)]
def qjA:LH
 | _=>none
theorem qnn (a_0:WH) (b_1:WH):fnF tb (envL e32) Tryd.f32 qjA c32.ps c32.rs (T:=WH) (fun y=>(y.2.1)) (a_0,b_1,())=qdh a_0 b_1:=by kernel_rfl
abbrev e50:List (Nat×Ctr):=[]
def qjH:LH
 | _=>none
theorem qnF (a_0:RAT):fnF tb (envL e50) Tryd.f50 qjH c50.ps c50.rs (T:=WH) (fun y=>(y.2.1)) (a_0,())=qdr a_0:=by kernel_rfl
abbrev e61:List (Nat×Ctr):=[(37,c37),(68,c68)]
def ql2:LH
 | _=>none
theorem qq1 (a_0:List Int) (b_1:List Int):fnF tb (envL e61) Tryd.f61 ql2 c61.ps c61.rs (T:=Int) (fun y=>(y.2.1)) (a_0,b_1,())=qeT a_0 b_1:=by kernel_rfl
abbrev e54:List (Nat×Ctr):=[(36,c36),(61,c61)]
def qjB:LH
 | _=>none
theorem qno (a_0:WH) (b_1:WH):fnF tb (envL e54) Tryd.f54 qjB c54.ps c54.rs (T:=Int) (fun y=>(y.2.1)) (a_0,b_1,())=qgT a_0 b_1:=by kernel_rfl
abbrev e30:List (Nat×Ctr):=[(21,c21),(32,c32),(50,c50),(54,c54)]
def qjO:LH
 | _=>none
theorem qnL (a_0:RAT) (b_1:RAT):fnF tb (envL e30) Tryd.f30 qjO c30.ps c30.rs (T:=Int) (fun y=>(y.2.1)) (a_0,b_1,())=qf1 a_0 b_1:=by kernel_rfl
abbrev e13:List (Nat×Ctr):=[(30,c30)]
def qiD:LH
 | _=>none
theorem qmJ (a_0:RAT) (b_1:RAT):fnF tb (envL e13) Tryd.f13 qiD c13.ps c13.rs (T:=Bool) (fun y=>(y.2.1)) (a_0,b_1,())=qah a_0 b_1:=by kernel_rfl
abbrev e60:List (Nat×Ctr):=[(37,c37),(58,c58),(74,c74)]
def qjg:LH
 | 10=>some ⟨qfc,qf9,lp qdO K0⟩
 | _=>none
theorem qq3 (g:qfc.V->Option (OT qf9)) (v:qfc.V):q10q tb (envL e60) 43 qjg (q3q 5 (q4q Tryd.f60) .skip) qfc qf9 g v=qdO g v:=by kernel_rfl
theorem qq4 (a_0:List Int) (b_1:List Int):fnF tb (envL e60) Tryd.f60 qjg c60.ps c60.rs (T:=(List Int)) (fun y=>(y.2.1)) (a_0,b_1,())=qjh a_0 b_1:=by kernel_rfl
abbrev e62:List (Nat×Ctr):=[(37,c37),(68,c68),(71,c71)]
def ql1:LH
 | _=>none
theorem qqU (a_0:List Int) (b_1:List Int):fnF tb (envL e62) Tryd.f62 ql1 c62.ps c62.rs (T:=(List Int)×Int) (fun y=>(y.2.1,y.2.2.1)) (a_0,b_1,())=qha a_0 b_1:=by kernel_rfl
abbrev e49:List (Nat×Ctr):=[(36,c36),(57,c57),(60,c60),(61,c61),(62,c62)]
def qjC:LH
 | _=>none
theorem qnp (a_0:WH) (b_1:WH):fnF tb (envL e49) Tryd.f49 qjC c49.ps c49.rs (T:=WH) (fun y=>(y.2.1)) (a_0,b_1,())=qgU a_0 b_1:=by kernel_rfl
abbrev e28:List (Nat×Ctr):=[(21,c21),(31,c31),(32,c32),(33,c33),(49,c49),(50,c50)]
def qjP:LH
 | _=>none
theorem qnM (a_0:RAT) (b_1:RAT):fnF tb (envL e28) Tryd.f28 qjP c28.ps c28.rs (T:=RAT) (fun y=>(y.2.1)) (a_0,b_1,())=qeB a_0 b_1:=by kernel_rfl
abbrev e42:List (Nat×Ctr):=[(13,c13),(28,c28)]
def qgf:LH
 | 4=>some ⟨qc5,qdR,lp qa3 K0⟩
 | _=>none
theorem qmp (g:qc5.V->Option (OT qdR)) (v:qc5.V):q10q tb (envL e42) 37 qgf (q3q 2 (q4q Tryd.f42) .skip) qc5 qdR g v=qa3 g v:=by kernel_rfl
theorem qmq (t_0:List NODE):fnF tb (envL e42) Tryd.f42 qgf c42.ps c42.rs (T:=Int×Int) (fun y=>(y.2.1,y.2.2.1)) (t_0,())=qe5 t_0:=by kernel_rfl
abbrev e43:List (Nat×Ctr):=[]
def qhS:LH
 | _=>none
theorem qlr (e_0:Int) (tree_1:Int) (node_2:Int):fnF tb (envL e43) Tryd.f43 qhS c43.ps c43.rs (T:=(Int×Int×Int×Int)) (fun y=>(y.2.1)) (e_0,tree_1,node_2,())=qdw e_0 tree_1 node_2:=by kernel_rfl
abbrev e22:List (Nat×Ctr):=[(38,c38),(39,c39),(40,c40),(41,c41),(42,c42),(43,c43)]
def qev:LH
 | 14=>some ⟨qcI,qdj,lp qax K0⟩
 | 8=>some ⟨qcJ,qdk,lp qa0 K0⟩
 | _=>none
theorem qlu (g:qcI.V->Option (OT qdj)) (v:qcI.V):q10q tb (envL e22) 63 qev (q3q 7 (q4q Tryd.f22) .skip) qcI qdj g v=qax g v:=by kernel_rfl
theorem qlv (g:qcJ.V->Option (OT qdk)) (v:qcJ.V):q10q tb (envL e22) 63 qev (q3q 4 (q4q Tryd.f22) .skip) qcJ qdk g v=qa0 g v:=by kernel_rfl
theorem qlw (m_0:qak):fnF tb (envL e22) Tryd.f22 qev c22.ps c22.rs (T:=(Int×Int×Int×Int)) (fun y=>(y.2.1)) (m_0,())=qel m_0:=by kernel_rfl
abbrev e9:List (Nat×Ctr):=[(22,c22)]
def qkB:LH
 | _=>none
theorem qoO (m_0:qak):fnF tb (envL e9) Tryd.f9 qkB c9.ps c9.rs (T:=Bool) (fun y=>(y.2.1)) (m_0,())=qaB m_0:=by kernel_rfl
abbrev e14:List (Nat×Ctr):=[(21,c21),(31,c31),(32,c32),(33,c33)]
def qjJ:LH
 | _=>none
theorem qnH (a_0:RAT) (b_1:RAT):fnF tb (envL e14) Tryd.f14 qjJ c14.ps c14.rs (T:=RAT) (fun y=>(y.2.1)) (a_0,b_1,())=qaJ a_0 b_1:=by kernel_rfl
abbrev e18:List (Nat×Ctr):=[(14,c14)]
def qeS:LH
 | 4=>some ⟨qb2,qcB,lp qa5 K0⟩
 | _=>none
theorem qj7 (g:qb2.V->Option (OT qcB)) (v:qb2.V):q10q tb (envL e18) 28 qeS (q3q 2 (q4q Tryd.f18) .skip) qb2 qcB g v=qa5 g v:=by kernel_rfl
theorem qj8 (t_0:List NODE) (b_1:Bool) (b_2:List Int) (b_3:List Int):fnFB tb (envL e18) Tryd.f18 qeS w18 c18.ps c18.rs (T:=(List NODE)×Bool×(List Int)×(List Int)) (fun y=>(y.2.1,y.2.2.1,y.2.2.2.1,y.2.2.2.2.1)) (t_0,b_1,b_2,b_3,())=qdT t_0 b_1 b_2 b_3:=by kernel_rfl
abbrev e35:List (Nat×Ctr):=[(21,c21)]
def qex:LH
 | 14=>some ⟨qcL,qds,lp qbA K0⟩
 | 6=>some ⟨qcM,qdt,lp qbB K0⟩
 | _=>none
theorem qlD (g:qcL.V->Option (OT qds)) (v:qcL.V):q10q tbO (envL e35) 67 qex (q3q 7 (q4q Tryd.f35) .skip) qcL qds g v=qbA g v:=by kernel_rfl
theorem qlE (g:qcM.V->Option (OT qdt)) (v:qcM.V):q10q tbO (envL e35) 67 qex (q3q 3 (q4q Tryd.f35) .skip) qcM qdt g v=qbB g v:=by kernel_rfl
theorem qlF (a_0:qak):fnFB tbO (envL e35) Tryd.f35 qex w35 c35.ps c35.rs (T:=Int×(List (Option (List NODE)))) (fun y=>(y.2.1,y.2.2.1)) (a_0,())=qdy a_0:=by kernel_rfl
abbrev qql:List (Nat×Ctr):=[(9,c9),(18,c18),(35,c35)]
def qct:LH
 | 10=>some ⟨qaV,qbi,lp qar K0⟩
 | _=>none
theorem qgl (g:qaV.V->Option (OT qbi)) (v:qaV.V):q10q tb (envL qql) 34 qct (q3q 5 (q4q Tryd.f17) .skip) qaV qbi g v=qar g v:=by kernel_rfl
theorem qgm (m_0:qak) (b_1:Bool) (b_2:List Int) (b_3:List Int):fnFB tb (envL qql) Tryd.f17 qct qrw qoJ.ps qoJ.rs (T:=qak×Int×Bool×(List Int)×(List Int)) (fun y=>(y.2.1,y.2.2.1,y.2.2.2.1,y.2.2.2.2.1,y.2.2.2.2.2.1)) (m_0,b_1,b_2,b_3,())=qbs m_0 b_1 b_2 b_3:=by kernel_rfl
abbrev e6:List (Nat×Ctr):=[(17,qoJ)]
def qit:LH
 | _=>none
theorem qmw (m_0:qak) (by_1:RAT):fnF tb (envL e6) Tryd.f6 qit c6.ps c6.rs (T:=qak×Int) (fun y=>(y.2.1,y.2.2.1)) (m_0,by_1,())=qdD m_0 by_1:=by kernel_rfl
abbrev e19:List (Nat×Ctr):=[(14,c14)]
def qeR:LH
 | 4=>some ⟨qb0,qcA,lp qa4 K0⟩
 | _=>none
theorem qj4 (g:qb0.V->Option (OT qcA)) (v:qb0.V):q10q tb (envL e19) 23 qeR (q3q 2 (q4q Tryd.f19) .skip) qb0 qcA g v=qa4 g v:=by kernel_rfl
theorem qj5 (t_0:List NODE) (b_1:Bool) (b_2:List Int) (b_3:List Int):fnFB tb (envL e19) Tryd.f19 qeR w19 c19.ps c19.rs (T:=(List NODE)×Bool×(List Int)×(List Int)) (fun y=>(y.2.1,y.2.2.1,y.2.2.2.1,y.2.2.2.2.1)) (t_0,b_1,b_2,b_3,())=qdS t_0 b_1 b_2 b_3:=by kernel_rfl
abbrev qqk:List (Nat×Ctr):=[(9,c9),(19,c19),(35,c35)]
def qcs:LH
 | 10=>some ⟨qaU,qbh,lp qaq K0⟩
 | _=>none
theorem qgi (g:qaU.V->Option (OT qbh)) (v:qaU.V):q10q tb (envL qqk) 34 qcs (q3q 5 (q4q Tryd.f17) .skip) qaU qbh g v=qaq g v:=by kernel_rfl
theorem qgj (m_0:qak) (b_1:Bool) (b_2:List Int) (b_3:List Int):fnFB tb (envL qqk) Tryd.f17 qcs qrv qoI.ps qoI.rs (T:=qak×Int×Bool×(List Int)×(List Int)) (fun y=>(y.2.1,y.2.2.1,y.2.2.2.1,y.2.2.2.2.1,y.2.2.2.2.2.1)) (m_0,b_1,b_2,b_3,())=qbr m_0 b_1 b_2 b_3:=by kernel_rfl
abbrev e7:List (Nat×Ctr):=[(8,c8),(17,qoI)]
def qis:LH
 | _=>none
theorem qmv (m_0:qak) (by_1:RAT):fnF tb (envL e7) Tryd.f7 qis c7.ps c7.rs (T:=qak×Int) (fun y=>(y.2.1,y.2.2.1)) (m_0,by_1,())=qb1 m_0 by_1:=by kernel_rfl
abbrev e23:List (Nat×Ctr):=[]
def qb8:LH
 | 8=>some ⟨qbd,qbD,lp qan K0⟩
 | 18=>some ⟨qbc,qbC,lp qam K0⟩
 | _=>none
theorem qht (g:qbd.V->Option (OT qbD)) (v:qbd.V):q10q tb (envL e23) 73 qb8 (q3q 4 (q4q Tryd.f23) .skip) qbd qbD g v=qan g v:=by kernel_rfl
theorem qhs (g:qbc.V->Option (OT qbC)) (v:qbc.V):q10q tb (envL e23) 73 qb8 (q3q 9 (q4q Tryd.f23) .skip) qbc qbC g v=qam g v:=by kernel_rfl
theorem qhu (a_0:RAT) (a_1:RAT):fnF tb (envL e23) Tryd.f23 qb8 c23.ps c23.rs (T:=Bool) (fun y=>(y.2.1)) (a_0,a_1,())=qbp a_0 a_1:=by kernel_rfl
abbrev e10:List (Nat×Ctr):=[(23,c23)]
def qcd:LH
 | 18=>some ⟨qbu,qbK,lp qaC K0⟩
 | 8=>some ⟨qbv,qbL,lp qaD K0⟩
 | _=>none
theorem qhO (g:qbu.V->Option (OT qbK)) (v:qbu.V):q10q tb (envL e10) 126 qcd (q3q 9 (q4q Tryd.f10) .skip) qbu qbK g v=qaC g v:=by kernel_rfl
theorem qhP (g:qbv.V->Option (OT qbL)) (v:qbv.V):q10q tb (envL e10) 126 qcd (q3q 4 (q4q Tryd.f10) .skip) qbv qbL g v=qaD g v:=by kernel_rfl
theorem qhQ (a_0:qak) (a_1:qak):fnF tb (envL e10) Tryd.f10 qcd c10.ps c10.rs (T:=Bool) (fun y=>(y.2.1)) (a_0,a_1,())=qaj a_0 a_1:=by kernel_rfl
abbrev e44:List (Nat×Ctr):=[(45,c45),(57,c57)]
def qkn:LH
 | _=>none
theorem qoN (n_0:Int):fnF tb (envL e44) Tryd.f44 qkn c44.ps c44.rs (T:=WH) (fun y=>(y.2.1)) (n_0,())=qmm n_0:=by kernel_rfl
abbrev e25:List (Nat×Ctr):=[(44,c44),(45,c45)]
def qkN:LH
 | _=>none
theorem qoY (n_0:Int):fnF tb (envL e25) Tryd.f25 qkN c25.ps c25.rs (T:=RAT) (fun y=>(y.2.1)) (n_0,())=qiE n_0:=by kernel_rfl
abbrev e24:List (Nat×Ctr):=[(25,c25)]
def qjI:LH
 | _=>none
theorem qnG :fnF tb (envL e24) Tryd.f24 qjI c24.ps c24.rs (T:=RAT) (fun y=>(y.2.1)) ()=qkM :=by kernel_rfl
abbrev e48 (n:Nat):List (Nat×Ctr):=[(48,(c48 n))]
def qhU (n:Nat):LH
 | _=>none
theorem qly (n:Nat) (t_0:List NODE) (at_1:Int) (out_2:List NODE):fnF tb (envL (e48 n)) Tryd.f48 (qhU n) (c48 n).ps (c48 n).rs (T:=(List NODE)×Int) (fun y=>(y.2.1,y.2.2.1)) (t_0,at_1,out_2,())=qfh (n+1) t_0 at_1 out_2:=by kernel_rfl
abbrev e59:List (Nat×Ctr):=[(9,c9)]
def qir:LH
 | _=>none
theorem qmr (t_0:List NODE) (features_1:Int):fnF tb (envL e59) Tryd.f59 qir c59.ps c59.rs (T:=Bool) (fun y=>(y.2.1)) (t_0,features_1,())=qi7 t_0 features_1:=by kernel_rfl
abbrev e46:List (Nat×Ctr):=[(35,c35),(48,(c48 R0)),(59,c59)]
def qiu:LH
 | _=>none
theorem qmx (t_0:List NODE) (features_1:Int):fnF tb (envL e46) Tryd.f46 qiu c46.ps c46.rs (T:=(List NODE)×Int) (fun y=>(y.2.1,y.2.2.1)) (t_0,features_1,())=qi8 t_0 features_1:=by kernel_rfl
abbrev e47 (n:Nat):List (Nat×Ctr):=[(13,c13),(47,(c47 n))]
def qhT (n:Nat):LH
 | _=>none
theorem qlx (n:Nat) (t_0:List NODE) (at_1:Int):fnF tb (envL (e47 n)) Tryd.f47 (qhT n) (c47 n).ps (c47 n).rs (T:=(List NODE)) (fun y=>(y.1.1)) (t_0,at_1,())=qgg (n+1) t_0 at_1:=by kernel_rfl
abbrev e26:List (Nat×Ctr):=[(46,c46),(47,(c47 R0)),(48,(c48 R0))]
def qhV:LH
 | _=>none
theorem qlz (t_0:List NODE) (features_1:Int):fnF tb (envL e26) Tryd.f26 qhV c26.ps c26.rs (T:=(List NODE)×Int) (fun y=>(y.2.1,y.2.2.1)) (t_0,features_1,())=qh4 t_0 features_1:=by kernel_rfl
abbrev e11:List (Nat×Ctr):=[(13,c13),(24,c24),(25,c25),(26,c26)]
def qc2:LH
 | _=>none
theorem qhw :fnF tb (envL e11) Tryd.f11 qc2 c11.ps c11.rs (T:=Bool) (fun y=>(y.2.1)) ()=qaa :=by kernel_rfl
abbrev e51:List (Nat×Ctr):=[]
def qd9:LH
 | 4=>some ⟨qbF,qb9,lp qaK K0⟩
 | _=>none
theorem qiW (g:qbF.V->Option (OT qb9)) (v:qbF.V):q10q tb (envL e51) 16 qd9 (q3q 2 (q4q Tryd.f51) .skip) qbF qb9 g v=qaK g v:=by kernel_rfl
theorem qiX (set_0:Int) (feature_1:Int):fnF tb (envL e51) Tryd.f51 qd9 c51.ps c51.rs (T:=Bool) (fun y=>(y.2.1)) (set_0,feature_1,())=qc3 set_0 feature_1:=by kernel_rfl
abbrev e63:List (Nat×Ctr):=[(30,c30)]
def qiw:LH
 | _=>none
theorem qmE (n_0:NODE) (c_1:CELL):fnF tb (envL e63) Tryd.f63 qiw c63.ps c63.rs (T:=Bool) (fun y=>(y.2.1)) (n_0,c_1,())=qfY n_0 c_1:=by kernel_rfl
abbrev e52:List (Nat×Ctr):=[(63,c63)]
def qix:LH
 | _=>none
theorem qmF (n_0:NODE) (c_1:CELL):fnF tb (envL e52) Tryd.f52 qix c52.ps c52.rs (T:=Bool) (fun y=>(y.2.1)) (n_0,c_1,())=qfZ n_0 c_1:=by kernel_rfl
abbrev e80:List (Nat×Ctr):=[(36,c36),(57,c57)]
def qjz:LH
 | _=>none
theorem qnm (a_0:WH):fnF tb (envL e80) Tryd.f80 qjz c80.ps c80.rs (T:=WH) (fun y=>(y.2.1)) (a_0,())=qgS a_0:=by kernel_rfl
abbrev e75:List (Nat×Ctr):=[(20,c20),(31,c31),(36,c36),(80,c80)]
def qiF:LH
 | _=>none
theorem qmL (num_0:WH) (den_1:WH):fnF tb (envL e75) Tryd.f75 qiF c75.ps c75.rs (T:=RAT×Int) (fun y=>(y.2.1,y.2.2.1)) (num_0,den_1,())=qf0 num_0 den_1:=by kernel_rfl
abbrev e64:List (Nat×Ctr):=[(21,c21),(50,c50),(75,c75)]
def qjK:LH
 | _=>none
theorem qnJ (a_0:RAT):fnF tb (envL e64) Tryd.f64 qjK c64.ps c64.rs (T:=RAT×Int) (fun y=>(y.2.1,y.2.2.1)) (a_0,())=qgW a_0:=by kernel_rfl
abbrev e53:List (Nat×Ctr):=[(14,c14),(64,c64)]
def qjM:LH
 | _=>none
theorem qnK (a_0:RAT) (b_1:RAT):fnF tb (envL e53) Tryd.f53 qjM c53.ps c53.rs (T:=RAT×Int) (fun y=>(y.2.1,y.2.2.1)) (a_0,b_1,())=qgX a_0 b_1:=by kernel_rfl
abbrev e29 (n:Nat):List (Nat×Ctr):=[(14,c14),(28,c28),(29,(c29 n)),(51,c51),(52,c52),(53,c53)]
def qeK (n:Nat):LH
 | _=>none
theorem qhy (n:Nat) (a_0:List NODE) (a_1:Int) (a_2:List CELL) (a_3:Int):fnF tb (envL (e29 n)) Tryd.f29 (qeK n) (c29 n).ps (c29 n).rs (T:=RAT) (fun y=>(y.2.1)) (a_0,a_1,a_2,a_3,())=qal (n+1) a_0 a_1 a_2 a_3:=by kernel_rfl
abbrev e12:List (Nat×Ctr):=[(27,c27),(28,c28),(29,(c29 R0))]
def qc4:LH
 | 6=>some ⟨qbe,qbE,lp qai K0⟩
 | _=>none
theorem qhA (g:qbe.V->Option (OT qbE)) (v:qbe.V):q10q tb (envL e12) 28 qc4 (q3q 3 (q4q Tryd.f12) .skip) qbe qbE g v=qai g v:=by kernel_rfl
theorem qhB (m_0:qak) (row_1:List CELL) (set_2:Int):fnF tb (envL e12) Tryd.f12 qc4 c12.ps c12.rs (T:=RAT) (fun y=>(y.2.1)) (m_0,row_1,set_2,())=qab m_0 row_1 set_2:=by kernel_rfl
abbrev e3:List (Nat×Ctr):=[(4,c4),(5,c5),(6,c6),(7,c7),(8,c8),(9,c9),(10,c10),(11,c11),(12,c12),(13,c13),(14,c14)]
def qdf:LH
 | _=>none
theorem qfy (a_0:qak) (a_1:List CELL) (a_2:Int) (a_3:RAT):fnF tb (envL e3) Tryd.f3 qdf c3.ps c3.rs (T:=Bool) (fun y=>(y.2.1)) (a_0,a_1,a_2,a_3,())=qbq a_0 a_1 a_2 a_3:=by kernel_rfl
end Go.Proofs.YtlagkhlolphmdaaDoor.X
