/- Own work: part of the proof; the first line of each part says what it tells. -/
import Derived.Test.YtfoedjifcmfogaaDoorLa7


namespace Go.Proofs.YtfoedjifcmfogaaDoor.X
open Go
set_option linter.unusedVariables false
set_option linter.unusedSimpArgs false
set_option maxRecDepth 100000
abbrev e14:List (Nat×Ctr):=[]
def qeq:LH
 | _=>none
theorem qhf (a_0:RAT):fnF tb (envL e14) Tryd.f14 qeq c14.ps c14.rs (T:=RAT) (fun y=>(y.2.1)) (a_0,())=qa2 a_0:=by kernel_rfl
abbrev e5:List (Nat×Ctr):=[(14,c14)]
def qcC:LH
 | 14=>some ⟨qbA,qbQ,lp qat K0⟩
 | 6=>some ⟨qbB,qbR,lp qau K0⟩
 | _=>none
theorem qiI (g:qbA.V->Option (OT qbQ)) (v:qbA.V):q10q tb (envL e5) 67 qcC (q3q 7 (q4q Tryd.f5) .skip) qbA qbQ g v=qat g v:=by kernel_rfl
theorem qiJ (g:qbB.V->Option (OT qbR)) (v:qbB.V):q10q tb (envL e5) 67 qcC (q3q 3 (q4q Tryd.f5) .skip) qbB qbR g v=qau g v:=by kernel_rfl
theorem qiK (a_0:qbs):fnF tb (envL e5) Tryd.f5 qcC c5.ps c5.rs (T:=qbs) (fun y=>(y.2.1)) (a_0,())=qcF a_0:=by kernel_rfl
abbrev e54:List (Nat×Ctr):=[]
def qiy:LH
 | 4=>some ⟨qez,qfF,lp qcz K0⟩
 | _=>none
theorem qo7 (g:qez.V->Option (OT qfF)) (v:qez.V):q10q tb (envL e54) 23 qiy (q3q 2 (q4q Tryd.f54) .skip) qez qfF g v=qcz g v:=by kernel_rfl
theorem qo8 (a_0:List Int):fnF tb (envL e54) Tryd.f54 qiy c54.ps c54.rs (T:=(List Int)) (fun y=>(y.2.1)) (a_0,())=qcQ a_0:=by kernel_rfl
abbrev e33:List (Nat×Ctr):=[(54,c54)]
def qoh:LH
 | _=>none
theorem qrN (n_0:Int):fnF tb (envL e33) Tryd.f33 qoh c33.ps c33.rs (T:=(List Int)) (fun y=>(y.2.1)) (n_0,())=qhI n_0:=by kernel_rfl
abbrev e53:List (Nat×Ctr):=[]
def qiN:LH
 | _=>none
theorem qmx (neg_0:Bool) (abs_1:List Int):fnF tb (envL e53) Tryd.f53 qiN c53.ps c53.rs (T:=WH) (fun y=>(y.2.1)) (neg_0,abs_1,())=qce neg_0 abs_1:=by kernel_rfl
abbrev e32:List (Nat×Ctr):=[(33,c33),(53,c53)]
def qkP:LH
 | _=>none
theorem qoR (n_0:Int):fnF tb (envL e32) Tryd.f32 qkP c32.ps c32.rs (T:=WH) (fun y=>(y.2.1)) (n_0,())=qiP n_0:=by kernel_rfl
abbrev e16:List (Nat×Ctr):=[(32,c32),(33,c33)]
def qld:LH
 | _=>none
theorem qo0 (n_0:Int):fnF tb (envL e16) Tryd.f16 qld c16.ps c16.rs (T:=RAT) (fun y=>(y.2.1)) (n_0,())=qh5 n_0:=by kernel_rfl
abbrev e15:List (Nat×Ctr):=[(16,c16)]
def qkh:LH
 | _=>none
theorem qnM :fnF tb (envL e15) Tryd.f15 qkh c15.ps c15.rs (T:=RAT) (fun y=>(y.2.1)) ()=qfB :=by kernel_rfl
abbrev e45:List (Nat×Ctr):=[(33,c33)]
def qiX:LH
 | _=>none
theorem qmP :fnF tb (envL e45) Tryd.f45 qiX c45.ps c45.rs (T:=RAT) (fun y=>(y.2.1)) ()=qdO :=by kernel_rfl
abbrev e51:List (Nat×Ctr):=[(54,c54)]
def qhK:LH
 | 6=>some ⟨qd0,qeV,lp qbZ K0⟩
 | _=>none
theorem qoj (g:qd0.V->Option (OT qeV)) (v:qd0.V):q10q tb (envL e51) 24 qhK (q3q 3 (q4q Tryd.f51) .skip) qd0 qeV g v=qbZ g v:=by kernel_rfl
theorem qok (a_0:List Int):fnF tb (envL e51) Tryd.f51 qhK c51.ps c51.rs (T:=(List Int)) (fun y=>(y.2.1)) (a_0,())=qbn a_0:=by kernel_rfl
abbrev e50:List (Nat×Ctr):=[(51,c51),(53,c53)]
def qil:LH
 | _=>none
theorem qlK (a_0:WH):fnF tb (envL e50) Tryd.f50 qil c50.ps c50.rs (T:=WH) (fun y=>(y.2.1)) (a_0,())=qaZ a_0:=by kernel_rfl
abbrev e91:List (Nat×Ctr):=[(51,c51)]
def qog:LH
 | _=>none
theorem qrM (a_0:List Int):fnF tb (envL e91) Tryd.f91 qog c91.ps c91.rs (T:=Int×Bool) (fun y=>(y.2.1,y.2.2.1)) (a_0,())=qme a_0:=by kernel_rfl
abbrev e73:List (Nat×Ctr):=[(33,c33),(91,c91)]
def qgS:LH
 | 6=>some ⟨qdc,qee,lp qbY K0⟩
 | _=>none
theorem qm0 (g:qdc.V->Option (OT qee)) (v:qdc.V):q10q tb (envL e73) 27 qgS (q3q 3 (q4q Tryd.f73) .skip) qdc qee g v=qbY g v:=by kernel_rfl
theorem qm1 (a_0:List Int) (b_1:List Int):fnF tb (envL e73) Tryd.f73 qgS c73.ps c73.rs (T:=(List Int)) (fun y=>(y.2.1)) (a_0,b_1,())=qgr a_0 b_1:=by kernel_rfl
abbrev e74:List (Nat×Ctr):=[(92,c92)]
def qhB:LH
 | 6=>some ⟨qdU,qeP,lp qcs K0⟩
 | _=>none
theorem qn2 (g:qdU.V->Option (OT qeP)) (v:qdU.V):q10q tb (envL e74) 24 qhB (q3q 3 (q4q Tryd.f74) .skip) qdU qeP g v=qcs g v:=by kernel_rfl
theorem qn3 (a_0:List Int):fnF tb (envL e74) Tryd.f74 qhB c74.ps c74.rs (T:=Int) (fun y=>(y.2.1)) (a_0,())=qbx a_0:=by kernel_rfl
abbrev e90:List (Nat×Ctr):=[]
def qlr:LH
 | _=>none
theorem qpg (a_0:List Int) (i_1:Int):fnF tb (envL e90) Tryd.f90 qlr c90.ps c90.rs (T:=Int) (fun y=>(y.2.1)) (a_0,i_1,())=qeH a_0 i_1:=by kernel_rfl
abbrev e75:List (Nat×Ctr):=[(54,c54),(90,c90)]
def qjL:LH
 | 12=>some ⟨qfr,qgp,lp qda K0⟩
 | _=>none
theorem qqG (g:qfr.V->Option (OT qgp)) (v:qfr.V):q10q tb (envL e75) 50 qjL (q3q 6 (q4q Tryd.f75) .skip) qfr qgp g v=qda g v:=by kernel_rfl
theorem qqH (a_0:List Int) (n_1:Int):fnF tb (envL e75) Tryd.f75 qjL c75.ps c75.rs (T:=(List Int)) (fun y=>(y.2.1)) (a_0,n_1,())=qcA a_0 n_1:=by kernel_rfl
abbrev e76:List (Nat×Ctr):=[]
def qhE:LH
 | 12=>some ⟨qdW,qeR,lp qbN K0⟩
 | _=>none
theorem qn8 (g:qdW.V->Option (OT qeR)) (v:qdW.V):q10q tb (envL e76) 45 qhE (q3q 6 (q4q Tryd.f76) .skip) qdW qeR g v=qbN g v:=by kernel_rfl
theorem qn9 (a_0:List Int) (b_1:List Int):fnF tb (envL e76) Tryd.f76 qhE c76.ps c76.rs (T:=Int) (fun y=>(y.2.1)) (a_0,b_1,())=qeS a_0 b_1:=by kernel_rfl
abbrev e77:List (Nat×Ctr):=[(54,c54)]
def qjM:LH
 | 8=>some ⟨qfs,qgq,lp qdb K0⟩
 | _=>none
theorem qqJ (g:qfs.V->Option (OT qgq)) (v:qfs.V):q10q tb (envL e77) 51 qjM (q3q 4 (q4q Tryd.f77) .skip) qfs qgq g v=qdb g v:=by kernel_rfl
theorem qqK (a_0:List Int) (n_1:Int):fnF tb (envL e77) Tryd.f77 qjM c77.ps c77.rs (T:=(List Int)) (fun y=>(y.2.1)) (a_0,n_1,())=qfH a_0 n_1:=by kernel_rfl
abbrev e80:List (Nat×Ctr):=[(54,c54)]
def qhC:LH
 | 8=>some ⟨qdV,qeQ,lp qct K0⟩
 | _=>none
theorem qn5 (g:qdV.V->Option (OT qeQ)) (v:qdV.V):q10q tb (envL e80) 38 qhC (q3q 4 (q4q Tryd.f80) .skip) qdV qeQ g v=qct g v:=by kernel_rfl
theorem qn6 (a_0:List Int) (d_1:Int):fnF tb (envL e80) Tryd.f80 qhC c80.ps c80.rs (T:=(List Int)×Int) (fun y=>(y.2.1,y.2.2.1)) (a_0,d_1,())=qhD a_0 d_1:=by kernel_rfl
abbrev e93:List (Nat×Ctr):=[(98,c98)]
def qer:LH
 | _=>none
theorem qhg (x_0:Int):fnF tb (envL e93) Tryd.f93 qer c93.ps c93.rs (T:=Int) (fun y=>(y.2.1)) (x_0,())=qbS x_0:=by kernel_rfl
abbrev e99:List (Nat×Ctr):=[(90,c90)]
def qiz:LH
 | 6=>some ⟨qeA,qfG,lp qc5 K0⟩
 | _=>none
theorem qpa (g:qeA.V->Option (OT qfG)) (v:qeA.V):q10q tb (envL e99) 46 qiz (q3q 3 (q4q Tryd.f99) .skip) qeA qfG g v=qc5 g v:=by kernel_rfl
theorem qpb (u_0:List Int) (v_1:List Int) (times_2:Int):fnF tb (envL e99) Tryd.f99 qiz c99.ps c99.rs (T:=(List Int)×Bool) (fun y=>(y.1.1,y.2.1)) (u_0,v_1,times_2,())=qi8 u_0 v_1 times_2:=by kernel_rfl
abbrev e100:List (Nat×Ctr):=[(90,c90)]
def qiB:LH
 | 4=>some ⟨qeC,qfJ,lp qc6 K0⟩
 | _=>none
theorem qpi (g:qeC.V->Option (OT qfJ)) (v:qeC.V):q10q tb (envL e100) 29 qiB (q3q 2 (q4q Tryd.f100) .skip) qeC qfJ g v=qc6 g v:=by kernel_rfl
theorem qpj (u_0:List Int) (v_1:List Int):fnF tb (envL e100) Tryd.f100 qiB c100.ps c100.rs (T:=(List Int)) (fun y=>(y.1.1)) (u_0,v_1,())=qjc u_0 v_1:=by kernel_rfl
abbrev e94:List (Nat×Ctr):=[(99,c99),(100,c100)]
def qhG:LH
 | 8=>some ⟨qdY,qeU,lp qba K0⟩
 | _=>none
theorem qoe (g:qdY.V->Option (OT qeU)) (v:qdY.V):q10q tb (envL e94) 77 qhG (q3q 4 (q4q Tryd.f94) .skip) qdY qeU g v=qba g v:=by kernel_rfl
theorem qof (a_0:List Int) (a_1:List Int):fnF tb (envL e94) Tryd.f94 qhG c94.ps c94.rs (T:=(List Int)×Int) (fun y=>(y.1.1,y.2.1)) (a_0,a_1,())=qgs a_0 a_1:=by kernel_rfl
abbrev e81:List (Nat×Ctr):=[(54,c54),(75,c75),(77,c77),(93,c93),(94,c94)]
def qiA:LH
 | 14=>some ⟨qeB,qfI,lp qcB K0⟩
 | _=>none
theorem qpe (g:qeB.V->Option (OT qfI)) (v:qeB.V):q10q tb (envL e81) 64 qiA (q3q 7 (q4q Tryd.f81) .skip) qeB qfI g v=qcB g v:=by kernel_rfl
theorem qpf (a_0:List Int) (b_1:List Int):fnF tb (envL e81) Tryd.f81 qiA c81.ps c81.rs (T:=(List Int)×(List Int)) (fun y=>(y.2.1,y.2.2.1)) (a_0,b_1,())=qjb a_0 b_1:=by kernel_rfl
abbrev e65:List (Nat×Ctr):=[(33,c33),(51,c51),(76,c76),(80,c80),(81,c81)]
def qjd:LH
 | _=>none
theorem qm2 (a_0:List Int) (b_1:List Int):fnF tb (envL e65) Tryd.f65 qjd c65.ps c65.rs (T:=(List Int)×(List Int)×Int) (fun y=>(y.2.1,y.2.2.1,y.2.2.2.1)) (a_0,b_1,())=qde a_0 b_1:=by kernel_rfl
abbrev e78:List (Nat×Ctr):=[(65,c65)]
def qlq:LH
 | _=>none
theorem qpc (a_0:List Int) (b_1:List Int):fnF tb (envL e78) Tryd.f78 qlq c78.ps c78.rs (T:=(List Int)×(List Int)) (fun y=>(y.2.1,y.2.2.1)) (a_0,b_1,())=qfT a_0 b_1:=by kernel_rfl
abbrev e79:List (Nat×Ctr):=[(54,c54),(90,c90)]
def qhF:LH
 | 8=>some ⟨qdX,qeT,lp qcu K0⟩
 | _=>none
theorem qob (g:qdX.V->Option (OT qeT)) (v:qdX.V):q10q tb (envL e79) 39 qhF (q3q 4 (q4q Tryd.f79) .skip) qdX qeT g v=qcu g v:=by kernel_rfl
theorem qoc (a_0:List Int) (b_1:List Int):fnF tb (envL e79) Tryd.f79 qhF c79.ps c79.rs (T:=(List Int)) (fun y=>(y.2.1)) (a_0,b_1,())=qed a_0 b_1:=by kernel_rfl
abbrev e64:List (Nat×Ctr):=[(51,c51),(73,c73),(74,c74),(75,c75),(76,c76),(77,c77),(78,c78),(79,c79)]
def qjN:LH
 | 20=>some ⟨qeD,qfK,lp qbm K0⟩
 | _=>none
theorem qpl (g:qeD.V->Option (OT qfK)) (v:qeD.V):q10q tb (envL e64) 86 qjN (q3q 10 (q4q Tryd.f64) .skip) qeD qfK g v=qbm g v:=by kernel_rfl
theorem qqR (a_0:List Int) (a_1:List Int):fnF tb (envL e64) Tryd.f64 qjN c64.ps c64.rs (T:=(List Int)) (fun y=>(y.2.1)) (a_0,a_1,())=qls a_0 a_1:=by kernel_rfl
abbrev e52:List (Nat×Ctr):=[(33,c33),(64,c64),(65,c65)]
def qiW:LH
 | _=>none
theorem qmN (num_0:WH) (den_1:List Int):fnF tb (envL e52) Tryd.f52 qiW c52.ps c52.rs (T:=RAT) (fun y=>(y.2.1)) (num_0,den_1,())=qcM num_0 den_1:=by kernel_rfl
abbrev e31:List (Nat×Ctr):=[(45,c45),(50,c50),(51,c51),(52,c52)]
def qip:LH
 | _=>none
theorem qlU (a_0:RAT):fnF tb (envL e31) Tryd.f31 qip c31.ps c31.rs (T:=RAT) (fun y=>(y.2.1)) (a_0,())=qa1 a_0:=by kernel_rfl
abbrev e30:List (Nat×Ctr):=[(50,c50)]
def qiO:LH
 | _=>none
theorem qmy (a_0:WH):fnF tb (envL e30) Tryd.f30 qiO c30.ps c30.rs (T:=Int) (fun y=>(y.2.1)) (a_0,())=qfm a_0:=by kernel_rfl
abbrev e59:List (Nat×Ctr):=[(50,c50),(53,c53)]
def qj7:LH
 | _=>none
theorem qnr (a_0:WH):fnF tb (envL e59) Tryd.f59 qj7 c59.ps c59.rs (T:=WH) (fun y=>(y.2.1)) (a_0,())=qiQ a_0:=by kernel_rfl
abbrev e36:List (Nat×Ctr):=[(30,c30),(50,c50),(52,c52),(59,c59)]
def qi2:LH
 | _=>none
theorem qmU (num_0:WH) (den_1:WH):fnF tb (envL e36) Tryd.f36 qi2 c36.ps c36.rs (T:=RAT×Int) (fun y=>(y.2.1,y.2.2.1)) (num_0,den_1,())=qh6 num_0 den_1:=by kernel_rfl
abbrev e19:List (Nat×Ctr):=[(31,c31),(32,c32),(36,c36)]
def qi4:LH
 | _=>none
theorem qmV (n_0:Int) (d_1:Int):fnF tb (envL e19) Tryd.f19 qi4 c19.ps c19.rs (T:=RAT) (fun y=>(y.2.1)) (n_0,d_1,())=qcN n_0 d_1:=by kernel_rfl
abbrev e62:List (Nat×Ctr):=[(51,c51),(54,c54)]
def qh7:LH
 | 16=>some ⟨qft,qgt,lp qdd K0⟩
 | 8=>some ⟨qfu,qgu,lp qdZ K0⟩
 | _=>none
theorem qqO (g:qft.V->Option (OT qgt)) (v:qft.V):q10q tb (envL e62) 67 qh7 (q3q 8 (q4q Tryd.f62) .skip) qft qgt g v=qdd g v:=by kernel_rfl
theorem qqP (g:qfu.V->Option (OT qgu)) (v:qfu.V):q10q tb (envL e62) 67 qh7 (q3q 4 (q4q Tryd.f62) .skip) qfu qgu g v=qdZ g v:=by kernel_rfl
theorem qqQ (a_0:List Int) (a_1:List Int):fnF tb (envL e62) Tryd.f62 qh7 c62.ps c62.rs (T:=(List Int)) (fun y=>(y.2.1)) (a_0,a_1,())=qhJ a_0 a_1:=by kernel_rfl
abbrev e57:List (Nat×Ctr):=[(50,c50),(53,c53),(62,c62)]
def qj8:LH
 | _=>none
theorem qns (a_0:WH) (b_1:WH):fnF tb (envL e57) Tryd.f57 qj8 c57.ps c57.rs (T:=WH) (fun y=>(y.2.1)) (a_0,b_1,())=qdp a_0 b_1:=by kernel_rfl
abbrev e58:List (Nat×Ctr):=[]
def qkf:LH
 | _=>none
theorem qnH (a_0:RAT):fnF tb (envL e58) Tryd.f58 qkf c58.ps c58.rs (T:=WH) (fun y=>(y.2.1)) (a_0,())=qd7 a_0:=by kernel_rfl
abbrev e66:List (Nat×Ctr):=[(51,c51),(76,c76)]
def qmg:LH
 | _=>none
theorem qqS (a_0:List Int) (b_1:List Int):fnF tb (envL e66) Tryd.f66 qmg c66.ps c66.rs (T:=Int) (fun y=>(y.2.1)) (a_0,b_1,())=qe9 a_0 b_1:=by kernel_rfl
abbrev e71:List (Nat×Ctr):=[(51,c51),(54,c54),(90,c90)]
def qjO:LH
 | 10=>some ⟨qfv,qgv,lp qd1 K0⟩
 | _=>none
theorem qqU (g:qfv.V->Option (OT qgv)) (v:qfv.V):q10q tb (envL e71) 43 qjO (q3q 5 (q4q Tryd.f71) .skip) qfv qgv g v=qd1 g v:=by kernel_rfl
theorem qqV (a_0:List Int) (b_1:List Int):fnF tb (envL e71) Tryd.f71 qjO c71.ps c71.rs (T:=(List Int)) (fun y=>(y.2.1)) (a_0,b_1,())=qjP a_0 b_1:=by kernel_rfl
abbrev e72:List (Nat×Ctr):=[(51,c51),(76,c76),(79,c79)]
def qmf:LH
 | _=>none
theorem qqL (a_0:List Int) (b_1:List Int):fnF tb (envL e72) Tryd.f72 qmf c72.ps c72.rs (T:=(List Int)×Int) (fun y=>(y.2.1,y.2.2.1)) (a_0,b_1,())=qhH a_0 b_1:=by kernel_rfl
abbrev e63:List (Nat×Ctr):=[(50,c50),(53,c53),(66,c66),(71,c71),(72,c72)]
def qka:LH
 | _=>none
theorem qnu (a_0:WH) (b_1:WH):fnF tb (envL e63) Tryd.f63 qka c63.ps c63.rs (T:=WH) (fun y=>(y.2.1)) (a_0,b_1,())=qhj a_0 b_1:=by kernel_rfl
abbrev e48:List (Nat×Ctr):=[(31,c31),(52,c52),(57,c57),(58,c58),(62,c62),(63,c63)]
def qkn:LH
 | _=>none
theorem qnU (a_0:RAT) (b_1:RAT):fnF tb (envL e48) Tryd.f48 qkn c48.ps c48.rs (T:=RAT) (fun y=>(y.2.1)) (a_0,b_1,())=qcY a_0 b_1:=by kernel_rfl
abbrev e49:List (Nat×Ctr):=[(31,c31),(59,c59)]
def qki:LH
 | _=>none
theorem qnN (a_0:RAT):fnF tb (envL e49) Tryd.f49 qki c49.ps c49.rs (T:=RAT) (fun y=>(y.2.1)) (a_0,())=qi1 a_0:=by kernel_rfl
abbrev e28:List (Nat×Ctr):=[(48,c48),(49,c49)]
def qkg:LH
 | _=>none
theorem qnL (a_0:RAT) (b_1:RAT):fnF tb (envL e28) Tryd.f28 qkg c28.ps c28.rs (T:=RAT) (fun y=>(y.2.1)) (a_0,b_1,())=qiY a_0 b_1:=by kernel_rfl
abbrev e37:List (Nat×Ctr):=[]
def qfg:LH
 | 18=>some ⟨qdf,qef,lp qbo K0⟩
 | 8=>some ⟨qdg,qeg,lp qaQ K0⟩
 | _=>none
theorem qm6 (g:qdf.V->Option (OT qef)) (v:qdf.V):q10q tb (envL e37) 72 qfg (q3q 9 (q4q Tryd.f37) .skip) qdf qef g v=qbo g v:=by kernel_rfl
theorem qm7 (g:qdg.V->Option (OT qeg)) (v:qdg.V):q10q tb (envL e37) 72 qfg (q3q 4 (q4q Tryd.f37) .skip) qdg qeg g v=qaQ g v:=by kernel_rfl
theorem qm8 (a_0:qbs):fnF tb (envL e37) Tryd.f37 qfg c37.ps c37.rs (T:=Bool) (fun y=>(y.2.1)) (a_0,())=qgw a_0:=by kernel_rfl
abbrev e38:List (Nat×Ctr):=[]
def qfy:LH
 | 4=>some ⟨qci,qcV,lp qaI K0⟩
 | _=>none
theorem qkX (g:qci.V->Option (OT qcV)) (v:qci.V):q10q tb (envL e38) 52 qfy (q3q 2 (q4q Tryd.f38) .skip) qci qcV g v=qaI g v:=by kernel_rfl
theorem qkY (t_0:List NODE) (features_1:Int):fnF tb (envL e38) Tryd.f38 qfy c38.ps c38.rs (T:=Int×Int) (fun y=>(y.2.1,y.2.2.1)) (t_0,features_1,())=qdM t_0 features_1:=by kernel_rfl
abbrev e39:List (Nat×Ctr):=[]
def qcH:LH
 | 6=>some ⟨qcI,qdq,lp qbb K0⟩
 | 20=>some ⟨qch,qcU,lp qay K0⟩
 | 34=>some ⟨qcg,qcT,lp qbc K0⟩
 | 50=>some ⟨qcf,qcS,lp qaH K0⟩
 | _=>none
theorem qlM (g:qcI.V->Option (OT qdq)) (v:qcI.V):q10q tb (envL e39) 103 qcH (q3q 3 (q4q Tryd.f39) .skip) qcI qdq g v=qbb g v:=by kernel_rfl
theorem qkV (g:qch.V->Option (OT qcU)) (v:qch.V):q10q tb (envL e39) 103 qcH (q3q 10 (q4q Tryd.f39) .skip) qch qcU g v=qay g v:=by kernel_rfl
theorem qkU (g:qcg.V->Option (OT qcT)) (v:qcg.V):q10q tb (envL e39) 103 qcH (q3q 17 (q4q Tryd.f39) .skip) qcg qcT g v=qbc g v:=by kernel_rfl
theorem qkT (g:qcf.V->Option (OT qcS)) (v:qcf.V):q10q tb (envL e39) 103 qcH (q3q 25 (q4q Tryd.f39) .skip) qcf qcS g v=qaH g v:=by kernel_rfl
theorem qlN (a_0:List NODE):fnF tb (envL e39) Tryd.f39 qcH c39.ps c39.rs (T:=Int×Int) (fun y=>(y.2.1,y.2.2.1)) (a_0,())=qfx a_0:=by kernel_rfl
abbrev e13:List (Nat×Ctr):=[(30,c30),(31,c31)]
def qiZ:LH
 | _=>none
theorem qmR (a_0:RAT):fnF tb (envL e13) Tryd.f13 qiZ c13.ps c13.rs (T:=Int) (fun y=>(y.2.1)) (a_0,())=qfo a_0:=by kernel_rfl
abbrev e40:List (Nat×Ctr):=[(13,c13)]
def qfz:LH
 | 4=>some ⟨qcj,qcW,lp qaJ K0⟩
 | _=>none
theorem qk0 (g:qcj.V->Option (OT qcW)) (v:qcj.V):q10q tb (envL e40) 19 qfz (q3q 2 (q4q Tryd.f40) .skip) qcj qcW g v=qaJ g v:=by kernel_rfl
theorem qk1 (t_0:List NODE):fnF tb (envL e40) Tryd.f40 qfz c40.ps c40.rs (T:=Int×Int) (fun y=>(y.2.1,y.2.2.1)) (t_0,())=qdN t_0:=by kernel_rfl
abbrev e56:List (Nat×Ctr):=[(50,c50),(66,c66)]
def qj9:LH
 | _=>none
theorem qnt (a_0:WH) (b_1:WH):fnF tb (envL e56) Tryd.f56 qj9 c56.ps c56.rs (T:=Int) (fun y=>(y.2.1)) (a_0,b_1,())=qhi a_0 b_1:=by kernel_rfl
abbrev e35:List (Nat×Ctr):=[(31,c31),(56,c56),(57,c57),(58,c58)]
def qkm:LH
 | _=>none
theorem qnS (a_0:RAT) (b_1:RAT):fnF tb (envL e35) Tryd.f35 qkm c35.ps c35.rs (T:=Int) (fun y=>(y.2.1)) (a_0,b_1,())=qgd a_0 b_1:=by kernel_rfl
abbrev e18:List (Nat×Ctr):=[(35,c35)]
def qi0:LH
 | _=>none
theorem qmT (a_0:RAT) (b_1:RAT):fnF tb (envL e18) Tryd.f18 qi0 c18.ps c18.rs (T:=Bool) (fun y=>(y.2.1)) (a_0,b_1,())=qfp a_0 b_1:=by kernel_rfl
abbrev e41:List (Nat×Ctr):=[(18,c18),(48,c48)]
def qgB:LH
 | 4=>some ⟨qc9,qd3,lp qaX K0⟩
 | _=>none
theorem qmA (g:qc9.V->Option (OT qd3)) (v:qc9.V):q10q tb (envL e41) 37 qgB (q3q 2 (q4q Tryd.f41) .skip) qc9 qd3 g v=qaX g v:=by kernel_rfl
theorem qmB (t_0:List NODE):fnF tb (envL e41) Tryd.f41 qgB c41.ps c41.rs (T:=Int×Int) (fun y=>(y.2.1,y.2.2.1)) (t_0,())=qfn t_0:=by kernel_rfl
abbrev e42:List (Nat×Ctr):=[]
def qim:LH
 | _=>none
theorem qlO (e_0:Int) (tree_1:Int) (node_2:Int):fnF tb (envL e42) Tryd.f42 qim c42.ps c42.rs (T:=(Int×Int×Int×Int)) (fun y=>(y.2.1)) (e_0,tree_1,node_2,())=qdH e_0 tree_1 node_2:=by kernel_rfl
abbrev e21:List (Nat×Ctr):=[(37,c37),(38,c38),(39,c39),(40,c40),(41,c41),(42,c42)]
def qeF:LH
 | 14=>some ⟨qcJ,qdr,lp qap K0⟩
 | 8=>some ⟨qcK,qds,lp qaU K0⟩
 | _=>none
theorem qlR (g:qcJ.V->Option (OT qdr)) (v:qcJ.V):q10q tb (envL e21) 63 qeF (q3q 7 (q4q Tryd.f21) .skip) qcJ qdr g v=qap g v:=by kernel_rfl
theorem qlS (g:qcK.V->Option (OT qds)) (v:qcK.V):q10q tb (envL e21) 63 qeF (q3q 4 (q4q Tryd.f21) .skip) qcK qds g v=qaU g v:=by kernel_rfl
theorem qlT (m_0:qbs):fnF tb (envL e21) Tryd.f21 qeF c21.ps c21.rs (T:=(Int×Int×Int×Int)) (fun y=>(y.2.1)) (m_0,())=qet m_0:=by kernel_rfl
abbrev e8:List (Nat×Ctr):=[(21,c21)]
def qk2:LH
 | _=>none
theorem qoS (m_0:qbs):fnF tb (envL e8) Tryd.f8 qk2 c8.ps c8.rs (T:=Bool) (fun y=>(y.2.1)) (m_0,())=qdE m_0:=by kernel_rfl
abbrev e55:List (Nat×Ctr):=[(8,c8)]
def qiT:LH
 | _=>none
theorem qmK (m_0:qbs) (row_1:List CELL):fnF tb (envL e55) Tryd.f55 qiT c55.ps c55.rs (T:=Int) (fun y=>(y.2.1)) (m_0,row_1,())=qjE m_0 row_1:=by kernel_rfl
abbrev e34:List (Nat×Ctr):=[(55,c55)]
def qiV:LH
 | _=>none
theorem qmM (m_0:qbs) (row_1:List CELL):fnF tb (envL e34) Tryd.f34 qiV c34.ps c34.rs (T:=Int) (fun y=>(y.2.1)) (m_0,row_1,())=qh4 m_0 row_1:=by kernel_rfl
abbrev e60:List (Nat×Ctr):=[(45,c45)]
def qew:LH
 | 6=>some ⟨qbO,qcm,lp qcl K0⟩
 | _=>none
theorem qjI (g:qbO.V->Option (OT qcm)) (v:qbO.V):q10q tb (envL e60) 13 qew (q3q 3 (q4q Tryd.f60) .skip) qbO qcm g v=qcl g v:=by kernel_rfl
theorem qjJ (n_0:Int):fnF tb (envL e60) Tryd.f60 qew c60.ps c60.rs (T:=(List RAT)) (fun y=>(y.2.1)) (n_0,())=qfX n_0:=by kernel_rfl
abbrev e67:List (Nat×Ctr):=[(15,c15)]
def qhs:LH
 | _=>none
theorem qlm :fnFB tb (envL e67) Tryd.f67 qhs w67 c67.ps c67.rs (T:=(List (Int×RAT×CELL))) (fun y=>(y.2.1)) ()=qht :=by kernel_rfl
abbrev e47:List (Nat×Ctr):=[(31,c31),(52,c52),(57,c57),(62,c62)]
def qkj:LH
 | _=>none
theorem qnO (a_0:RAT) (b_1:RAT):fnF tb (envL e47) Tryd.f47 qkj c47.ps c47.rs (T:=RAT) (fun y=>(y.2.1)) (a_0,b_1,())=qaV a_0 b_1:=by kernel_rfl
abbrev e82:List (Nat×Ctr):=[]
def qc1:LH
 | 8=>some ⟨qa7,qbD,lp qbC K0⟩
 | _=>none
theorem qhp (g:qa7.V->Option (OT qbD)) (v:qa7.V):q10q tb (envL e82) 29 qc1 (q3q 4 (q4q Tryd.f82) .skip) qa7 qbD g v=qbC g v:=by kernel_rfl
theorem qhq (feature_0:Int) (b_1:List (Int×RAT×CELL)):fnFB tb (envL e82) Tryd.f82 qc1 w82 c82.ps c82.rs (T:=Int×(List (Int×RAT×CELL))) (fun y=>(y.2.1,y.2.2.1)) (feature_0,b_1,())=qcP feature_0 b_1:=by kernel_rfl
abbrev e83:List (Nat×Ctr):=[]
def qcO:LH
 | 10=>some ⟨qaT,qbw,lp qbv K0⟩
 | _=>none
theorem qhc (g:qaT.V->Option (OT qbw)) (v:qaT.V):q10q tb (envL e83) 32 qcO (q3q 5 (q4q Tryd.f83) .skip) qaT qbw g v=qbv g v:=by kernel_rfl
theorem qhd (b_0:List (Int×RAT×CELL)):fnFB tb (envL e83) Tryd.f83 qcO w83 c83.ps c83.rs (T:=(List PART)×(List (Int×RAT×CELL))) (fun y=>(y.2.1,y.2.2.1)) (b_0,())=qcx b_0:=by kernel_rfl
abbrev e96:List (Nat×Ctr):=[(31,c31),(36,c36),(58,c58)]
def qkk:LH
 | _=>none
theorem qnP (a_0:RAT):fnF tb (envL e96) Tryd.f96 qkk c96.ps c96.rs (T:=RAT×Int) (fun y=>(y.2.1,y.2.2.1)) (a_0,())=qi3 a_0:=by kernel_rfl
abbrev e95:List (Nat×Ctr):=[(19,c19),(28,c28),(47,c47),(96,c96)]
def qco:LH
 | 14=>some ⟨qaE,qa6,lp qa5 K0⟩
 | _=>none
theorem qgi (g:qaE.V->Option (OT qa6)) (v:qaE.V):q10q tb (envL e95) 104 qco (q3q 7 (q4q Tryd.f95) .skip) qaE qa6 g v=qa5 g v:=by kernel_rfl
theorem qgj (a_0:Int) (b_1:List (Int×RAT×CELL)):fnFB tb (envL e95) Tryd.f95 qco w95 c95.ps c95.rs (T:=(List RAT)×(List (Int×RAT×CELL))) (fun y=>(y.2.1,y.2.2.1)) (a_0,b_1,())=qbX a_0 b_1:=by kernel_rfl
abbrev e84:List (Nat×Ctr):=[(95,c95)]
def qcw:LH
 | 16=>some ⟨qaP,qbk,lp qbj K0⟩
 | _=>none
theorem qgN (g:qaP.V->Option (OT qbk)) (v:qaP.V):q10q tb (envL e84) 66 qcw (q3q 8 (q4q Tryd.f84) .skip) qaP qbk g v=qbj g v:=by kernel_rfl
theorem qgO (a_0:Int) (b_1:List (Int×RAT×CELL)):fnFB tb (envL e84) Tryd.f84 qcw w84 c84.ps c84.rs (T:=Int×(List (Int×RAT×CELL))) (fun y=>(y.2.1,y.2.2.1)) (a_0,b_1,())=qcb a_0 b_1:=by kernel_rfl
abbrev e85:List (Nat×Ctr):=[(13,c13),(19,c19),(31,c31),(45,c45),(47,c47),(48,c48),(82,c82)]
def qcy:LH
 | 20=>some ⟨qaF,qa9,lp qa8 K0⟩
 | _=>none
theorem qgl (g:qaF.V->Option (OT qa9)) (v:qaF.V):q10q tb (envL e85) 113 qcy (q3q 10 (q4q Tryd.f85) .skip) qaF qa9 g v=qa8 g v:=by kernel_rfl
theorem qgP (a_0:Int) (a_1:RAT) (a_2:Bool) (b_3:List (Int×RAT×CELL)):fnFB tb (envL e85) Tryd.f85 qcy w85 c85.ps c85.rs (T:=Int×(List (Int×RAT×CELL))) (fun y=>(y.2.1,y.2.2.1)) (a_0,a_1,a_2,b_3,())=qbH a_0 a_1 a_2 b_3:=by kernel_rfl
abbrev e68:List (Nat×Ctr):=[(47,c47),(82,c82),(83,c83),(84,c84),(85,c85)]
def qel:LH
 | _=>none
theorem qha (b_0:Int) (b_1:Bool) (b_2:List Int) (b_3:List Int) (b_4:Int) (b_5:Bool) (b_6:List Int) (b_7:List Int) (b_8:Bool) (b_9:List (Int×RAT×CELL)):fnFB tb (envL e68) Tryd.f68 qel w68 c68.ps c68.rs (T:=Int×Bool×(List Int)×(List Int)×Int×Bool×(List Int)×(List Int)×Bool×(List (Int×RAT×CELL))) (fun y=>(y.2.1,y.2.2.1,y.2.2.2.1,y.2.2.2.2.1,y.2.2.2.2.2.1,y.2.2.2.2.2.2.1,y.2.2.2.2.2.2.2.1,y.2.2.2.2.2.2.2.2.1,y.2.2.2.2.2.2.2.2.2.1,y.2.2.2.2.2.2.2.2.2.2.1)) (b_0,b_1,b_2,b_3,b_4,b_5,b_6,b_7,b_8,b_9,())=qdJ b_0 b_1 b_2 b_3 b_4 b_5 b_6 b_7 b_8 b_9:=by kernel_rfl
abbrev e29:List (Nat×Ctr):=[(45,c45),(48,c48)]
def qhm:LH
 | 6=>some ⟨qdP,qeN,lp qeM K0⟩
 | _=>none
theorem qnJ (g:qdP.V->Option (OT qeN)) (v:qdP.V):q10q tb (envL e29) 18 qhm (q3q 3 (q4q Tryd.f29) .skip) qdP qeN g v=qeM g v:=by kernel_rfl
theorem qnK (l_0:List RAT):fnF tb (envL e29) Tryd.f29 qhm c29.ps c29.rs (T:=RAT) (fun y=>(y.2.1)) (l_0,())=qlc l_0:=by kernel_rfl
abbrev e86:List (Nat×Ctr):=[(29,c29),(95,c95)]
def qfc:LH
 | _=>none
theorem qie (at_0:Int) (b_1:List (Int×RAT×CELL)):fnFB tb (envL e86) Tryd.f86 qfc w86 c86.ps c86.rs (T:=RAT×Int×(List (Int×RAT×CELL))) (fun y=>(y.2.1,y.2.2.1,y.2.2.2.1)) (at_0,b_1,())=qex at_0 b_1:=by kernel_rfl
abbrev e69:List (Nat×Ctr):=[(15,c15),(47,c47),(48,c48),(49,c49),(83,c83),(86,c86)]
def qcv:LH
 | 6=>some ⟨qaO,qbi,lp qbh K0⟩
 | _=>none
theorem qgK (g:qaO.V->Option (OT qbi)) (v:qaO.V):q10q tb (envL e69) 69 qcv (q3q 3 (q4q Tryd.f69) .skip) qaO qbi g v=qbh g v:=by kernel_rfl
theorem qgL (a_0:Int) (a_1:Bool) (a_2:List Int) (a_3:List Int) (a_4:Int) (a_5:Bool) (a_6:List Int) (a_7:List Int) (a_8:Bool) (b_9:List NODE) (b_10:List CELL) (b_11:Int) (b_12:Bool) (b_13:List RAT) (b_14:List (Int×RAT×CELL)):fnFB tb (envL e69) Tryd.f69 qcv w69 c69.ps c69.rs (T:=(List RAT)×(List NODE)×(List CELL)×Int×Bool×(List (Int×RAT×CELL))) (fun y=>(y.1.1,y.2.1,y.2.2.1,y.2.2.2.1,y.2.2.2.2.1,y.2.2.2.2.2.1)) (a_0,a_1,a_2,a_3,a_4,a_5,a_6,a_7,a_8,b_9,b_10,b_11,b_12,b_13,b_14,())=qdo a_0 a_1 a_2 a_3 a_4 a_5 a_6 a_7 a_8 b_9 b_10 b_11 b_12 b_13 b_14:=by kernel_rfl
abbrev e87:List (Nat×Ctr):=[(47,c47),(96,c96)]
def qkl:LH
 | _=>none
theorem qnQ (a_0:RAT) (b_1:RAT):fnF tb (envL e87) Tryd.f87 qkl c87.ps c87.rs (T:=RAT×Int) (fun y=>(y.2.1,y.2.2.1)) (a_0,b_1,())=qle a_0 b_1:=by kernel_rfl
abbrev e97:List (Nat×Ctr):=[(35,c35)]
def qiS:LH
 | _=>none
theorem qmJ (n_0:NODE) (c_1:CELL):fnF tb (envL e97) Tryd.f97 qiS c97.ps c97.rs (T:=Bool) (fun y=>(y.2.1)) (n_0,c_1,())=qjD n_0 c_1:=by kernel_rfl
abbrev e88:List (Nat×Ctr):=[(97,c97)]
def qiU:LH
 | _=>none
theorem qmL (n_0:NODE) (c_1:CELL):fnF tb (envL e88) Tryd.f88 qiU c88.ps c88.rs (T:=Bool) (fun y=>(y.2.1)) (n_0,c_1,())=qjF n_0 c_1:=by kernel_rfl
abbrev e89:List (Nat×Ctr):=[]
def qeO:LH
 | _=>none
theorem qhr (b_0:List (Int×RAT×CELL)):fnFB tb (envL e89) Tryd.f89 qeO w89 c89.ps c89.rs (T:=(List (Int×RAT×CELL))×(List (Int×RAT×CELL))) (fun y=>(y.2.1,y.2.2.1)) (b_0,())=qea b_0:=by kernel_rfl
abbrev e70:List (Nat×Ctr):=[(47,c47),(87,c87),(88,c88),(89,c89)]
def qdQ:LH
 | _=>none
theorem qge (a_0:Int) (a_1:Bool) (a_2:List Int) (a_3:List Int) (a_4:Int) (a_5:Bool) (a_6:List Int) (a_7:List Int) (a_8:Bool) (a_9:Int) (a_10:Bool) (b_11:List NODE) (b_12:List CELL) (b_13:Int) (b_14:Bool) (b_15:List RAT) (b_16:List (Int×RAT×CELL)):fnFB tb (envL e70) Tryd.f70 qdQ w70 c70.ps c70.rs (T:=(List RAT)×Int×Bool×(List Int)×(List Int)×Int×Bool×(List Int)×(List Int)×Bool×Bool×(List NODE)×(List CELL)×Int×Bool×(List (Int×RAT×CELL))×(List (Int×RAT×CELL))) (fun y=>(y.1.1,y.2.1,y.2.2.1,y.2.2.2.1,y.2.2.2.2.1,y.2.2.2.2.2.1,y.2.2.2.2.2.2.1,y.2.2.2.2.2.2.2.1,y.2.2.2.2.2.2.2.2.1,y.2.2.2.2.2.2.2.2.2.1,y.2.2.2.2.2.2.2.2.2.2.1,y.2.2.2.2.2.2.2.2.2.2.2.1,y.2.2.2.2.2.2.2.2.2.2.2.2.1,y.2.2.2.2.2.2.2.2.2.2.2.2.2.1,y.2.2.2.2.2.2.2.2.2.2.2.2.2.2.1,y.2.2.2.2.2.2.2.2.2.2.2.2.2.2.2.1,y.2.2.2.2.2.2.2.2.2.2.2.2.2.2.2.2.1)) (a_0,a_1,a_2,a_3,a_4,a_5,a_6,a_7,a_8,a_9,a_10,b_11,b_12,b_13,b_14,b_15,b_16,())=qbW a_0 a_1 a_2 a_3 a_4 a_5 a_6 a_7 a_8 a_9 a_10 b_11 b_12 b_13 b_14 b_15 b_16:=by kernel_rfl
abbrev e61:List (Nat×Ctr):=[(15,c15),(67,c67),(68,c68),(69,c69),(70,c70)]
def qbM:LH
 | 18=>some ⟨qaM,qbf,lp qbd K0⟩
 | 2=>some ⟨qaN,qbg,lp qbe K0⟩
 | _=>none
theorem qgG (g:qaM.V->Option (OT qbf)) (v:qaM.V):q10q tb (envL e61) 91 qbM (q3q 9 (q4q Tryd.f61) .skip) qaM qbf g v=qbd g v:=by kernel_rfl
theorem qgH (g:qaN.V->Option (OT qbg)) (v:qaN.V):q10q tb (envL e61) 91 qbM (q3q 1 (q4q Tryd.f61) .skip) qaN qbg g v=qbe g v:=by kernel_rfl
theorem qgI (b_0:List NODE) (b_1:List CELL) (b_2:Int) (b_3:Bool) (b_4:List RAT) (b_5:List (Int×(Option ((Option (List (Int×RAT×CELL)))×Unit))×RAT×PART)):fnFB tb (envL e61) Tryd.f61 qbM w61 c61.ps c61.rs (T:=(List RAT)×(List NODE)×(List CELL)×Int×Bool×(List (Int×(Option ((Option (List (Int×RAT×CELL)))×Unit))×RAT×PART))) (fun y=>(y.1.1,y.2.1,y.2.2.1,y.2.2.2.1,y.2.2.2.2.1,y.2.2.2.2.2.1)) (b_0,b_1,b_2,b_3,b_4,b_5,())=qdn b_0 b_1 b_2 b_3 b_4 b_5:=by kernel_rfl
abbrev e44:List (Nat×Ctr):=[(60,c60),(61,c61)]
def qfC:LH
 | 6=>some ⟨qcn,qc0,lp qcZ K0⟩
 | _=>none
theorem qlk (g:qcn.V->Option (OT qc0)) (v:qcn.V):q10q tb (envL e44) 34 qfC (q3q 3 (q4q Tryd.f44) .skip) qcn qc0 g v=qcZ g v:=by kernel_rfl
theorem qll (m_0:qbs) (row_1:List CELL) (fixed_2:Int) (on_3:Bool):fnF tb (envL e44) Tryd.f44 qfC c44.ps c44.rs (T:=(List RAT)) (fun y=>(y.2.1)) (m_0,row_1,fixed_2,on_3,())=qhn m_0 row_1 fixed_2 on_3:=by kernel_rfl
abbrev e46:List (Nat×Ctr):=[(34,c34),(44,c44)]
def qgm:LH
 | _=>none
theorem qjK (m_0:qbs) (row_1:List CELL) (fixed_2:Int) (on_3:Bool):fnF tb (envL e46) Tryd.f46 qgm c46.ps c46.rs (T:=(List RAT)×Int) (fun y=>(y.2.1,y.2.2.1)) (m_0,row_1,fixed_2,on_3,())=qeG m_0 row_1 fixed_2 on_3:=by kernel_rfl
abbrev e27:List (Nat×Ctr):=[(19,c19),(28,c28),(46,c46),(47,c47)]
def qeh:LH
 | 10=>some ⟨qbF,qb2,lp qb1 K0⟩
 | _=>none
theorem qjm (g:qbF.V->Option (OT qb2)) (v:qbF.V):q10q tb (envL e27) 48 qeh (q3q 5 (q4q Tryd.f27) .skip) qbF qb2 g v=qb1 g v:=by kernel_rfl
theorem qjn (m_0:qbs) (row_1:List CELL) (k_2:Int):fnF tb (envL e27) Tryd.f27 qeh c27.ps c27.rs (T:=(List RAT)) (fun y=>(y.2.1)) (m_0,row_1,k_2,())=qfN m_0 row_1 k_2:=by kernel_rfl
abbrev e17:List (Nat×Ctr):=[(27,c27),(34,c34)]
def qg8:LH
 | _=>none
theorem qkB (m_0:qbs) (row_1:List CELL) (i_2:Int) (k_3:Int):fnF tb (envL e17) Tryd.f17 qg8 c17.ps c17.rs (T:=RAT×Int) (fun y=>(y.2.1,y.2.2.1)) (m_0,row_1,i_2,k_3,())=qgX m_0 row_1 i_2 k_3:=by kernel_rfl
abbrev e6:List (Nat×Ctr):=[(15,c15),(16,c16),(17,c17),(18,c18),(19,c19)]
def qc8:LH
 | _=>none
theorem qhX :fnF tb (envL e6) Tryd.f6 qc8 c6.ps c6.rs (T:=Bool) (fun y=>(y.2.1)) ()=qaR :=by kernel_rfl
abbrev e22 (n:Nat):List (Nat×Ctr):=[(22,(c22 n))]
def qeX (n:Nat):LH
 | _=>none
theorem qhV (n:Nat) (t_0:List NODE) (at_1:Int) (feature_2:Int):fnF tb (envL (e22 n)) Tryd.f22 (qeX n) (c22 n).ps (c22 n).rs (T:=Bool) (fun y=>(y.2.1)) (t_0,at_1,feature_2,())=qar (n+1) t_0 at_1 feature_2:=by kernel_rfl
abbrev e9:List (Nat×Ctr):=[(22,(c22 R0))]
def qcc:LH
 | 12=>some ⟨qbq,qbJ,lp qah K0⟩
 | 4=>some ⟨qbr,qbK,lp qak K0⟩
 | _=>none
theorem qih (g:qbq.V->Option (OT qbJ)) (v:qbq.V):q10q tb (envL e9) 66 qcc (q3q 6 (q4q Tryd.f9) .skip) qbq qbJ g v=qah g v:=by kernel_rfl
theorem qii (g:qbr.V->Option (OT qbK)) (v:qbr.V):q10q tb (envL e9) 66 qcc (q3q 2 (q4q Tryd.f9) .skip) qbr qbK g v=qak g v:=by kernel_rfl
theorem qij (a_0:qbs) (a_1:Int) (a_2:Int):fnF tb (envL e9) Tryd.f9 qcc c9.ps c9.rs (T:=Bool) (fun y=>(y.2.1)) (a_0,a_1,a_2,())=qbz a_0 a_1 a_2:=by kernel_rfl
abbrev e3:List (Nat×Ctr):=[(5,c5),(6,c6),(7,c7),(8,c8),(9,c9)]
def qaY:LH
 | 30=>some ⟨qan,qav,lp qae K0⟩
 | 20=>some ⟨qao,qaw,lp qaf K0⟩
 | _=>none
theorem qe0 (g:qan.V->Option (OT qav)) (v:qan.V):q10q tb (envL e3) 78 qaY (q3q 15 (q4q Tryd.f3) .skip) qan qav g v=qae g v:=by kernel_rfl
theorem qe1 (g:qao.V->Option (OT qaw)) (v:qao.V):q10q tb (envL e3) 78 qaY (q3q 10 (q4q Tryd.f3) .skip) qao qaw g v=qaf g v:=by kernel_rfl
theorem qfa (a_0:qbs):fnF tb (envL e3) Tryd.f3 qaY c3.ps c3.rs (T:=Bool) (fun y=>(y.2.1)) (a_0,())=qbu a_0:=by kernel_rfl
end Go.Proofs.YtfoedjifcmfogaaDoor.X
