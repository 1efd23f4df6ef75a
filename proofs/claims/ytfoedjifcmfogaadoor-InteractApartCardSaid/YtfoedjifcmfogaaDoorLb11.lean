/- Own work: part of the proof; the first line of each part says what it tells. -/
import Derived.Test.YtfoedjifcmfogaaDoorLb7


namespace Go.Proofs.YtfoedjifcmfogaaDoor.X
open Go
set_option linter.unusedVariables false
set_option linter.unusedSimpArgs false
set_option maxRecDepth 100000
abbrev e54:List (Nat×Ctr):=[]
def qj2:LH
 | 4=>some ⟨qfo,qgH,lp qdj K0⟩
 | _=>none
theorem qrM (g:qfo.V->Option (OT qgH)) (v:qfo.V):q10q tb (envL e54) 23 qj2 (q3q 2 (q4q Tryd.f54) .skip) qfo qgH g v=qdj g v:=by kernel_rfl
theorem qrN (a_0:List Int):fnF tb (envL e54) Tryd.f54 qj2 c54.ps c54.rs (T:=(List Int)) (fun y=>(y.2.1)) (a_0,())=qdE a_0:=by kernel_rfl
abbrev e33:List (Nat×Ctr):=[(54,c54)]
def qqF:LH
 | _=>none
theorem qvl (n_0:Int):fnF tb (envL e33) Tryd.f33 qqF c33.ps c33.rs (T:=(List Int)) (fun y=>(y.2.1)) (n_0,())=qjc n_0:=by kernel_rfl
abbrev e53:List (Nat×Ctr):=[]
def qkp:LH
 | _=>none
theorem qoJ (neg_0:Bool) (abs_1:List Int):fnF tb (envL e53) Tryd.f53 qkp c53.ps c53.rs (T:=WH) (fun y=>(y.2.1)) (neg_0,abs_1,())=qcT neg_0 abs_1:=by kernel_rfl
abbrev e32:List (Nat×Ctr):=[(33,c33),(53,c53)]
def qmK:LH
 | _=>none
theorem qrn (n_0:Int):fnF tb (envL e32) Tryd.f32 qmK c32.ps c32.rs (T:=WH) (fun y=>(y.2.1)) (n_0,())=qg0 n_0:=by kernel_rfl
abbrev e16:List (Nat×Ctr):=[(32,c32),(33,c33)]
def qnc:LH
 | _=>none
theorem qrE (n_0:Int):fnF tb (envL e16) Tryd.f16 qnc c16.ps c16.rs (T:=RAT) (fun y=>(y.2.1)) (n_0,())=qg2 n_0:=by kernel_rfl
abbrev e15:List (Nat×Ctr):=[(16,c16)]
def ql2:LH
 | _=>none
theorem qp9 :fnF tb (envL e15) Tryd.f15 ql2 c15.ps c15.rs (T:=RAT) (fun y=>(y.2.1)) ()=qeX :=by kernel_rfl
abbrev e45:List (Nat×Ctr):=[(33,c33)]
def qkB:LH
 | _=>none
theorem qo2 :fnF tb (envL e45) Tryd.f45 qkB c45.ps c45.rs (T:=RAT) (fun y=>(y.2.1)) ()=qdy :=by kernel_rfl
abbrev e51:List (Nat×Ctr):=[(54,c54)]
def qje:LH
 | 6=>some ⟨qeR,qfL,lp qcF K0⟩
 | _=>none
theorem qqH (g:qeR.V->Option (OT qfL)) (v:qeR.V):q10q tb (envL e51) 24 qje (q3q 3 (q4q Tryd.f51) .skip) qeR qfL g v=qcF g v:=by kernel_rfl
theorem qqI (a_0:List Int):fnF tb (envL e51) Tryd.f51 qje c51.ps c51.rs (T:=(List Int)) (fun y=>(y.2.1)) (a_0,())=qbL a_0:=by kernel_rfl
abbrev e50:List (Nat×Ctr):=[(51,c51),(53,c53)]
def qjN:LH
 | _=>none
theorem qnQ (a_0:WH):fnF tb (envL e50) Tryd.f50 qjN c50.ps c50.rs (T:=WH) (fun y=>(y.2.1)) (a_0,())=qbn a_0:=by kernel_rfl
abbrev e91:List (Nat×Ctr):=[(51,c51)]
def qqE:LH
 | _=>none
theorem qvk (a_0:List Int):fnF tb (envL e91) Tryd.f91 qqE c91.ps c91.rs (T:=Int×Bool) (fun y=>(y.2.1,y.2.2.1)) (a_0,())=qol a_0:=by kernel_rfl
abbrev e73:List (Nat×Ctr):=[(33,c33),(91,c91)]
def qik:LH
 | 6=>some ⟨qd2,qe3,lp qcE K0⟩
 | _=>none
theorem qpc (g:qd2.V->Option (OT qe3)) (v:qd2.V):q10q tb (envL e73) 27 qik (q3q 3 (q4q Tryd.f73) .skip) qd2 qe3 g v=qcE g v:=by kernel_rfl
theorem qpd (a_0:List Int) (b_1:List Int):fnF tb (envL e73) Tryd.f73 qik c73.ps c73.rs (T:=(List Int)) (fun y=>(y.2.1)) (a_0,b_1,())=qhO a_0 b_1:=by kernel_rfl
abbrev e74:List (Nat×Ctr):=[(92,c92)]
def qi5:LH
 | 6=>some ⟨qeL,qfF,lp qdd K0⟩
 | _=>none
theorem qqq (g:qeL.V->Option (OT qfF)) (v:qeL.V):q10q tb (envL e74) 24 qi5 (q3q 3 (q4q Tryd.f74) .skip) qeL qfF g v=qdd g v:=by kernel_rfl
theorem qqr (a_0:List Int):fnF tb (envL e74) Tryd.f74 qi5 c74.ps c74.rs (T:=Int) (fun y=>(y.2.1)) (a_0,())=qbU a_0:=by kernel_rfl
abbrev e90:List (Nat×Ctr):=[]
def qns:LH
 | _=>none
theorem qrV (a_0:List Int) (i_1:Int):fnF tb (envL e90) Tryd.f90 qns c90.ps c90.rs (T:=Int) (fun y=>(y.2.1)) (a_0,i_1,())=qfy a_0 i_1:=by kernel_rfl
abbrev e75:List (Nat×Ctr):=[(54,c54),(90,c90)]
def qlp:LH
 | 12=>some ⟨qgt,qhM,lp qd0 K0⟩
 | _=>none
theorem qtJ (g:qgt.V->Option (OT qhM)) (v:qgt.V):q10q tb (envL e75) 50 qlp (q3q 6 (q4q Tryd.f75) .skip) qgt qhM g v=qd0 g v:=by kernel_rfl
theorem qtK (a_0:List Int) (n_1:Int):fnF tb (envL e75) Tryd.f75 qlp c75.ps c75.rs (T:=(List Int)) (fun y=>(y.2.1)) (a_0,n_1,())=qdk a_0 n_1:=by kernel_rfl
abbrev e76:List (Nat×Ctr):=[]
def qi8:LH
 | 12=>some ⟨qeN,qfH,lp qce K0⟩
 | _=>none
theorem qqw (g:qeN.V->Option (OT qfH)) (v:qeN.V):q10q tb (envL e76) 45 qi8 (q3q 6 (q4q Tryd.f76) .skip) qeN qfH g v=qce g v:=by kernel_rfl
theorem qqx (a_0:List Int) (b_1:List Int):fnF tb (envL e76) Tryd.f76 qi8 c76.ps c76.rs (T:=Int) (fun y=>(y.2.1)) (a_0,b_1,())=qfI a_0 b_1:=by kernel_rfl
abbrev e77:List (Nat×Ctr):=[(54,c54)]
def qlq:LH
 | 8=>some ⟨qgu,qhN,lp qd1 K0⟩
 | _=>none
theorem qtM (g:qgu.V->Option (OT qhN)) (v:qgu.V):q10q tb (envL e77) 51 qlq (q3q 4 (q4q Tryd.f77) .skip) qgu qhN g v=qd1 g v:=by kernel_rfl
theorem qtN (a_0:List Int) (n_1:Int):fnF tb (envL e77) Tryd.f77 qlq c77.ps c77.rs (T:=(List Int)) (fun y=>(y.2.1)) (a_0,n_1,())=qgJ a_0 n_1:=by kernel_rfl
abbrev e80:List (Nat×Ctr):=[(54,c54)]
def qi6:LH
 | 8=>some ⟨qeM,qfG,lp qde K0⟩
 | _=>none
theorem qqt (g:qeM.V->Option (OT qfG)) (v:qeM.V):q10q tb (envL e80) 38 qi6 (q3q 4 (q4q Tryd.f80) .skip) qeM qfG g v=qde g v:=by kernel_rfl
theorem qqu (a_0:List Int) (d_1:Int):fnF tb (envL e80) Tryd.f80 qi6 c80.ps c80.rs (T:=(List Int)×Int) (fun y=>(y.2.1,y.2.2.1)) (a_0,d_1,())=qi7 a_0 d_1:=by kernel_rfl
abbrev e93:List (Nat×Ctr):=[(98,c98)]
def qff:LH
 | _=>none
theorem qiJ (x_0:Int):fnF tb (envL e93) Tryd.f93 qff c93.ps c93.rs (T:=Int) (fun y=>(y.2.1)) (x_0,())=qcu x_0:=by kernel_rfl
abbrev e99:List (Nat×Ctr):=[(90,c90)]
def qj3:LH
 | 6=>some ⟨qfp,qgI,lp qdU K0⟩
 | _=>none
theorem qrP (g:qfp.V->Option (OT qgI)) (v:qfp.V):q10q tb (envL e99) 46 qj3 (q3q 3 (q4q Tryd.f99) .skip) qfp qgI g v=qdU g v:=by kernel_rfl
theorem qrQ (u_0:List Int) (v_1:List Int) (times_2:Int):fnF tb (envL e99) Tryd.f99 qj3 c99.ps c99.rs (T:=(List Int)×Bool) (fun y=>(y.1.1,y.2.1)) (u_0,v_1,times_2,())=qkL u_0 v_1 times_2:=by kernel_rfl
abbrev e100:List (Nat×Ctr):=[(90,c90)]
def qj5:LH
 | 4=>some ⟨qfr,qgL,lp qdV K0⟩
 | _=>none
theorem qrX (g:qfr.V->Option (OT qgL)) (v:qfr.V):q10q tb (envL e100) 29 qj5 (q3q 2 (q4q Tryd.f100) .skip) qfr qgL g v=qdV g v:=by kernel_rfl
theorem qrY (u_0:List Int) (v_1:List Int):fnF tb (envL e100) Tryd.f100 qj5 c100.ps c100.rs (T:=(List Int)) (fun y=>(y.1.1)) (u_0,v_1,())=qkP u_0 v_1:=by kernel_rfl
abbrev e94:List (Nat×Ctr):=[(99,c99),(100,c100)]
def qja:LH
 | 8=>some ⟨qeP,qfK,lp qbA K0⟩
 | _=>none
theorem qqC (g:qeP.V->Option (OT qfK)) (v:qeP.V):q10q tb (envL e94) 77 qja (q3q 4 (q4q Tryd.f94) .skip) qeP qfK g v=qbA g v:=by kernel_rfl
theorem qqD (a_0:List Int) (a_1:List Int):fnF tb (envL e94) Tryd.f94 qja c94.ps c94.rs (T:=(List Int)×Int) (fun y=>(y.1.1,y.2.1)) (a_0,a_1,())=qhP a_0 a_1:=by kernel_rfl
abbrev e81:List (Nat×Ctr):=[(54,c54),(75,c75),(77,c77),(93,c93),(94,c94)]
def qj4:LH
 | 14=>some ⟨qfq,qgK,lp qdl K0⟩
 | _=>none
theorem qrT (g:qfq.V->Option (OT qgK)) (v:qfq.V):q10q tb (envL e81) 64 qj4 (q3q 7 (q4q Tryd.f81) .skip) qfq qgK g v=qdl g v:=by kernel_rfl
theorem qrU (a_0:List Int) (b_1:List Int):fnF tb (envL e81) Tryd.f81 qj4 c81.ps c81.rs (T:=(List Int)×(List Int)) (fun y=>(y.2.1,y.2.2.1)) (a_0,b_1,())=qkO a_0 b_1:=by kernel_rfl
abbrev e65:List (Nat×Ctr):=[(33,c33),(51,c51),(76,c76),(80,c80),(81,c81)]
def qkQ:LH
 | _=>none
theorem qpe (a_0:List Int) (b_1:List Int):fnF tb (envL e65) Tryd.f65 qkQ c65.ps c65.rs (T:=(List Int)×(List Int)×Int) (fun y=>(y.2.1,y.2.2.1,y.2.2.2.1)) (a_0,b_1,())=qd4 a_0 b_1:=by kernel_rfl
abbrev e78:List (Nat×Ctr):=[(65,c65)]
def qnr:LH
 | _=>none
theorem qrR (a_0:List Int) (b_1:List Int):fnF tb (envL e78) Tryd.f78 qnr c78.ps c78.rs (T:=(List Int)×(List Int)) (fun y=>(y.2.1,y.2.2.1)) (a_0,b_1,())=qg4 a_0 b_1:=by kernel_rfl
abbrev e79:List (Nat×Ctr):=[(54,c54),(90,c90)]
def qi9:LH
 | 8=>some ⟨qeO,qfJ,lp qdf K0⟩
 | _=>none
theorem qqz (g:qeO.V->Option (OT qfJ)) (v:qeO.V):q10q tb (envL e79) 39 qi9 (q3q 4 (q4q Tryd.f79) .skip) qeO qfJ g v=qdf g v:=by kernel_rfl
theorem qqA (a_0:List Int) (b_1:List Int):fnF tb (envL e79) Tryd.f79 qi9 c79.ps c79.rs (T:=(List Int)) (fun y=>(y.2.1)) (a_0,b_1,())=qe2 a_0 b_1:=by kernel_rfl
abbrev e64:List (Nat×Ctr):=[(51,c51),(73,c73),(74,c74),(75,c75),(76,c76),(77,c77),(78,c78),(79,c79)]
def qlr:LH
 | 20=>some ⟨qfs,qgM,lp qbK K0⟩
 | _=>none
theorem qr0 (g:qfs.V->Option (OT qgM)) (v:qfs.V):q10q tb (envL e64) 86 qlr (q3q 10 (q4q Tryd.f64) .skip) qfs qgM g v=qbK g v:=by kernel_rfl
theorem qtU (a_0:List Int) (a_1:List Int):fnF tb (envL e64) Tryd.f64 qlr c64.ps c64.rs (T:=(List Int)) (fun y=>(y.2.1)) (a_0,a_1,())=qnt a_0 a_1:=by kernel_rfl
abbrev e52:List (Nat×Ctr):=[(33,c33),(64,c64),(65,c65)]
def qkA:LH
 | _=>none
theorem qo1 (num_0:WH) (den_1:List Int):fnF tb (envL e52) Tryd.f52 qkA c52.ps c52.rs (T:=RAT) (fun y=>(y.2.1)) (num_0,den_1,())=qdx num_0 den_1:=by kernel_rfl
abbrev e31:List (Nat×Ctr):=[(45,c45),(50,c50),(51,c51),(52,c52)]
def qjR:LH
 | _=>none
theorem qn0 (a_0:RAT):fnF tb (envL e31) Tryd.f31 qjR c31.ps c31.rs (T:=RAT) (fun y=>(y.2.1)) (a_0,())=qbp a_0:=by kernel_rfl
abbrev e30:List (Nat×Ctr):=[(50,c50)]
def qkq:LH
 | _=>none
theorem qoK (a_0:WH):fnF tb (envL e30) Tryd.f30 qkq c30.ps c30.rs (T:=Int) (fun y=>(y.2.1)) (a_0,())=qgm a_0:=by kernel_rfl
abbrev e59:List (Nat×Ctr):=[(50,c50),(53,c53)]
def qlR:LH
 | _=>none
theorem qpI (a_0:WH):fnF tb (envL e59) Tryd.f59 qlR c59.ps c59.rs (T:=WH) (fun y=>(y.2.1)) (a_0,())=qhi a_0:=by kernel_rfl
abbrev e36:List (Nat×Ctr):=[(30,c30),(50,c50),(52,c52),(59,c59)]
def qkF:LH
 | _=>none
theorem qo6 (num_0:WH) (den_1:WH):fnF tb (envL e36) Tryd.f36 qkF c36.ps c36.rs (T:=RAT×Int) (fun y=>(y.2.1,y.2.2.1)) (num_0,den_1,())=qgr num_0 den_1:=by kernel_rfl
abbrev e19:List (Nat×Ctr):=[(31,c31),(32,c32),(36,c36)]
def qkH:LH
 | _=>none
theorem qo7 (n_0:Int) (d_1:Int):fnF tb (envL e19) Tryd.f19 qkH c19.ps c19.rs (T:=RAT) (fun y=>(y.2.1)) (n_0,d_1,())=qcg n_0 d_1:=by kernel_rfl
abbrev e62:List (Nat×Ctr):=[(51,c51),(54,c54)]
def qjD:LH
 | 16=>some ⟨qgv,qhQ,lp qd3 K0⟩
 | 8=>some ⟨qgw,qhR,lp qeQ K0⟩
 | _=>none
theorem qtR (g:qgv.V->Option (OT qhQ)) (v:qgv.V):q10q tb (envL e62) 67 qjD (q3q 8 (q4q Tryd.f62) .skip) qgv qhQ g v=qd3 g v:=by kernel_rfl
theorem qtS (g:qgw.V->Option (OT qhR)) (v:qgw.V):q10q tb (envL e62) 67 qjD (q3q 4 (q4q Tryd.f62) .skip) qgw qhR g v=qeQ g v:=by kernel_rfl
theorem qtT (a_0:List Int) (a_1:List Int):fnF tb (envL e62) Tryd.f62 qjD c62.ps c62.rs (T:=(List Int)) (fun y=>(y.2.1)) (a_0,a_1,())=qjd a_0 a_1:=by kernel_rfl
abbrev e57:List (Nat×Ctr):=[(50,c50),(53,c53),(62,c62)]
def qlS:LH
 | _=>none
theorem qpJ (a_0:WH) (b_1:WH):fnF tb (envL e57) Tryd.f57 qlS c57.ps c57.rs (T:=WH) (fun y=>(y.2.1)) (a_0,b_1,())=qee a_0 b_1:=by kernel_rfl
abbrev e58:List (Nat×Ctr):=[]
def ql0:LH
 | _=>none
theorem qp3 (a_0:RAT):fnF tb (envL e58) Tryd.f58 ql0 c58.ps c58.rs (T:=WH) (fun y=>(y.2.1)) (a_0,())=qek a_0:=by kernel_rfl
abbrev e66:List (Nat×Ctr):=[(51,c51),(76,c76)]
def qon:LH
 | _=>none
theorem qtV (a_0:List Int) (b_1:List Int):fnF tb (envL e66) Tryd.f66 qon c66.ps c66.rs (T:=Int) (fun y=>(y.2.1)) (a_0,b_1,())=qf4 a_0 b_1:=by kernel_rfl
abbrev e71:List (Nat×Ctr):=[(51,c51),(54,c54),(90,c90)]
def qls:LH
 | 10=>some ⟨qgx,qhS,lp qeS K0⟩
 | _=>none
theorem qtX (g:qgx.V->Option (OT qhS)) (v:qgx.V):q10q tb (envL e71) 43 qls (q3q 5 (q4q Tryd.f71) .skip) qgx qhS g v=qeS g v:=by kernel_rfl
theorem qtY (a_0:List Int) (b_1:List Int):fnF tb (envL e71) Tryd.f71 qls c71.ps c71.rs (T:=(List Int)) (fun y=>(y.2.1)) (a_0,b_1,())=qlt a_0 b_1:=by kernel_rfl
abbrev e72:List (Nat×Ctr):=[(51,c51),(76,c76),(79,c79)]
def qom:LH
 | _=>none
theorem qtO (a_0:List Int) (b_1:List Int):fnF tb (envL e72) Tryd.f72 qom c72.ps c72.rs (T:=(List Int)×Int) (fun y=>(y.2.1,y.2.2.1)) (a_0,b_1,())=qjb a_0 b_1:=by kernel_rfl
abbrev e63:List (Nat×Ctr):=[(50,c50),(53,c53),(66,c66),(71,c71),(72,c72)]
def qlU:LH
 | _=>none
theorem qpL (a_0:WH) (b_1:WH):fnF tb (envL e63) Tryd.f63 qlU c63.ps c63.rs (T:=WH) (fun y=>(y.2.1)) (a_0,b_1,())=qiN a_0 b_1:=by kernel_rfl
abbrev e48:List (Nat×Ctr):=[(31,c31),(52,c52),(57,c57),(58,c58),(62,c62),(63,c63)]
def qmb:LH
 | _=>none
theorem qqg (a_0:RAT) (b_1:RAT):fnF tb (envL e48) Tryd.f48 qmb c48.ps c48.rs (T:=RAT) (fun y=>(y.2.1)) (a_0,b_1,())=qcC a_0 b_1:=by kernel_rfl
abbrev e49:List (Nat×Ctr):=[(31,c31),(59,c59)]
def ql4:LH
 | _=>none
theorem qqa (a_0:RAT):fnF tb (envL e49) Tryd.f49 ql4 c49.ps c49.rs (T:=RAT) (fun y=>(y.2.1)) (a_0,())=qgD a_0:=by kernel_rfl
abbrev e28:List (Nat×Ctr):=[(48,c48),(49,c49)]
def ql1:LH
 | _=>none
theorem qp8 (a_0:RAT) (b_1:RAT):fnF tb (envL e28) Tryd.f28 ql1 c28.ps c28.rs (T:=RAT) (fun y=>(y.2.1)) (a_0,b_1,())=qfC a_0 b_1:=by kernel_rfl
abbrev e37:List (Nat×Ctr):=[]
def qgd:LH
 | 18=>some ⟨qd5,qe4,lp qbM K0⟩
 | 8=>some ⟨qd6,qe5,lp qba K0⟩
 | _=>none
theorem qpi (g:qd5.V->Option (OT qe4)) (v:qd5.V):q10q tb (envL e37) 72 qgd (q3q 9 (q4q Tryd.f37) .skip) qd5 qe4 g v=qbM g v:=by kernel_rfl
theorem qpj (g:qd6.V->Option (OT qe5)) (v:qd6.V):q10q tb (envL e37) 72 qgd (q3q 4 (q4q Tryd.f37) .skip) qd6 qe5 g v=qba g v:=by kernel_rfl
theorem qpk (a_0:qaq):fnF tb (envL e37) Tryd.f37 qgd c37.ps c37.rs (T:=Bool) (fun y=>(y.2.1)) (a_0,())=qhT a_0:=by kernel_rfl
abbrev e38:List (Nat×Ctr):=[]
def qgz:LH
 | 4=>some ⟨qcX,qdL,lp qa0 K0⟩
 | _=>none
theorem qmS (g:qcX.V->Option (OT qdL)) (v:qcX.V):q10q tb (envL e38) 52 qgz (q3q 2 (q4q Tryd.f38) .skip) qcX qdL g v=qa0 g v:=by kernel_rfl
theorem qmT (t_0:List NODE) (features_1:Int):fnF tb (envL e38) Tryd.f38 qgz c38.ps c38.rs (T:=Int×Int) (fun y=>(y.2.1,y.2.2.1)) (t_0,features_1,())=qeD t_0 features_1:=by kernel_rfl
abbrev e39:List (Nat×Ctr):=[]
def qdr:LH
 | 6=>some ⟨qds,qef,lp qbB K0⟩
 | 20=>some ⟨qcW,qdK,lp qaN K0⟩
 | 34=>some ⟨qcV,qdJ,lp qbC K0⟩
 | 50=>some ⟨qcU,qdI,lp qaZ K0⟩
 | _=>none
theorem qnS (g:qds.V->Option (OT qef)) (v:qds.V):q10q tb (envL e39) 103 qdr (q3q 3 (q4q Tryd.f39) .skip) qds qef g v=qbB g v:=by kernel_rfl
theorem qmQ (g:qcW.V->Option (OT qdK)) (v:qcW.V):q10q tb (envL e39) 103 qdr (q3q 10 (q4q Tryd.f39) .skip) qcW qdK g v=qaN g v:=by kernel_rfl
theorem qmP (g:qcV.V->Option (OT qdJ)) (v:qcV.V):q10q tb (envL e39) 103 qdr (q3q 17 (q4q Tryd.f39) .skip) qcV qdJ g v=qbC g v:=by kernel_rfl
theorem qmO (g:qcU.V->Option (OT qdI)) (v:qcU.V):q10q tb (envL e39) 103 qdr (q3q 25 (q4q Tryd.f39) .skip) qcU qdI g v=qaZ g v:=by kernel_rfl
theorem qnT (a_0:List NODE):fnF tb (envL e39) Tryd.f39 qdr c39.ps c39.rs (T:=Int×Int) (fun y=>(y.2.1,y.2.2.1)) (a_0,())=qgy a_0:=by kernel_rfl
abbrev e13:List (Nat×Ctr):=[(30,c30),(31,c31)]
def qkC:LH
 | _=>none
theorem qo3 (a_0:RAT):fnF tb (envL e13) Tryd.f13 qkC c13.ps c13.rs (T:=Int) (fun y=>(y.2.1)) (a_0,())=qfk a_0:=by kernel_rfl
abbrev e40:List (Nat×Ctr):=[(13,c13)]
def qgA:LH
 | 4=>some ⟨qcY,qdM,lp qa1 K0⟩
 | _=>none
theorem qmV (g:qcY.V->Option (OT qdM)) (v:qcY.V):q10q tb (envL e40) 19 qgA (q3q 2 (q4q Tryd.f40) .skip) qcY qdM g v=qa1 g v:=by kernel_rfl
theorem qmW (t_0:List NODE):fnF tb (envL e40) Tryd.f40 qgA c40.ps c40.rs (T:=Int×Int) (fun y=>(y.2.1,y.2.2.1)) (t_0,())=qeE t_0:=by kernel_rfl
abbrev e56:List (Nat×Ctr):=[(50,c50),(66,c66)]
def qlT:LH
 | _=>none
theorem qpK (a_0:WH) (b_1:WH):fnF tb (envL e56) Tryd.f56 qlT c56.ps c56.rs (T:=Int) (fun y=>(y.2.1)) (a_0,b_1,())=qiM a_0 b_1:=by kernel_rfl
abbrev e35:List (Nat×Ctr):=[(31,c31),(56,c56),(57,c57),(58,c58)]
def qma:LH
 | _=>none
theorem qqf (a_0:RAT) (b_1:RAT):fnF tb (envL e35) Tryd.f35 qma c35.ps c35.rs (T:=Int) (fun y=>(y.2.1)) (a_0,b_1,())=qhz a_0 b_1:=by kernel_rfl
abbrev e18:List (Nat×Ctr):=[(35,c35)]
def qkD:LH
 | _=>none
theorem qo5 (a_0:RAT) (b_1:RAT):fnF tb (envL e18) Tryd.f18 qkD c18.ps c18.rs (T:=Bool) (fun y=>(y.2.1)) (a_0,b_1,())=qgq a_0 b_1:=by kernel_rfl
abbrev e41:List (Nat×Ctr):=[(18,c18),(48,c48)]
def qhZ:LH
 | 4=>some ⟨qdY,qeU,lp qbl K0⟩
 | _=>none
theorem qoM (g:qdY.V->Option (OT qeU)) (v:qdY.V):q10q tb (envL e41) 37 qhZ (q3q 2 (q4q Tryd.f41) .skip) qdY qeU g v=qbl g v:=by kernel_rfl
theorem qoN (t_0:List NODE):fnF tb (envL e41) Tryd.f41 qhZ c41.ps c41.rs (T:=Int×Int) (fun y=>(y.2.1,y.2.2.1)) (t_0,())=qgn t_0:=by kernel_rfl
abbrev e42:List (Nat×Ctr):=[]
def qjO:LH
 | _=>none
theorem qnU (e_0:Int) (tree_1:Int) (node_2:Int):fnF tb (envL e42) Tryd.f42 qjO c42.ps c42.rs (T:=(Int×Int×Int×Int)) (fun y=>(y.2.1)) (e_0,tree_1,node_2,())=qey e_0 tree_1 node_2:=by kernel_rfl
abbrev e21:List (Nat×Ctr):=[(37,c37),(38,c38),(39,c39),(40,c40),(41,c41),(42,c42)]
def qfx:LH
 | 14=>some ⟨qdt,qeg,lp qaA K0⟩
 | 8=>some ⟨qdu,qeh,lp qbj K0⟩
 | _=>none
theorem qnX (g:qdt.V->Option (OT qeg)) (v:qdt.V):q10q tb (envL e21) 63 qfx (q3q 7 (q4q Tryd.f21) .skip) qdt qeg g v=qaA g v:=by kernel_rfl
theorem qnY (g:qdu.V->Option (OT qeh)) (v:qdu.V):q10q tb (envL e21) 63 qfx (q3q 4 (q4q Tryd.f21) .skip) qdu qeh g v=qbj g v:=by kernel_rfl
theorem qnZ (m_0:qaq):fnF tb (envL e21) Tryd.f21 qfx c21.ps c21.rs (T:=(Int×Int×Int×Int)) (fun y=>(y.2.1)) (m_0,())=qfh m_0:=by kernel_rfl
abbrev e8:List (Nat×Ctr):=[(21,c21)]
def qmX:LH
 | _=>none
theorem qro (m_0:qaq):fnF tb (envL e8) Tryd.f8 qmX c8.ps c8.rs (T:=Bool) (fun y=>(y.2.1)) (m_0,())=qcw m_0:=by kernel_rfl
abbrev e55:List (Nat×Ctr):=[(8,c8)]
def qkx:LH
 | _=>none
theorem qoY (m_0:qaq) (row_1:List CELL):fnF tb (envL e55) Tryd.f55 qkx c55.ps c55.rs (T:=Int) (fun y=>(y.2.1)) (m_0,row_1,())=qdw m_0 row_1:=by kernel_rfl
abbrev e34:List (Nat×Ctr):=[(55,c55)]
def qkz:LH
 | _=>none
theorem qo0 (m_0:qaq) (row_1:List CELL):fnF tb (envL e34) Tryd.f34 qkz c34.ps c34.rs (T:=Int) (fun y=>(y.2.1)) (m_0,row_1,())=qb4 m_0 row_1:=by kernel_rfl
abbrev e60:List (Nat×Ctr):=[(45,c45)]
def qfm:LH
 | 6=>some ⟨qch,qc1,lp qa5 K0⟩
 | _=>none
theorem qlm (g:qch.V->Option (OT qc1)) (v:qch.V):q10q tb (envL e60) 13 qfm (q3q 3 (q4q Tryd.f60) .skip) qch qc1 g v=qa5 g v:=by kernel_rfl
theorem qln (n_0:Int):fnF tb (envL e60) Tryd.f60 qfm c60.ps c60.rs (T:=(List RAT)) (fun y=>(y.2.1)) (n_0,())=qel n_0:=by kernel_rfl
abbrev e67:List (Nat×Ctr):=[(15,c15)]
def qiX:LH
 | _=>none
theorem qnk :fnFB tb (envL e67) Tryd.f67 qiX w67 c67.ps c67.rs (T:=(List (Int×RAT×CELL))) (fun y=>(y.2.1)) ()=qfE :=by kernel_rfl
abbrev e47:List (Nat×Ctr):=[(31,c31),(52,c52),(57,c57),(62,c62)]
def ql5:LH
 | _=>none
theorem qqb (a_0:RAT) (b_1:RAT):fnF tb (envL e47) Tryd.f47 ql5 c47.ps c47.rs (T:=RAT) (fun y=>(y.2.1)) (a_0,b_1,())=qap a_0 b_1:=by kernel_rfl
abbrev e82:List (Nat×Ctr):=[]
def qdQ:LH
 | 8=>some ⟨qby,qb2,lp qah K0⟩
 | _=>none
theorem qiU (g:qby.V->Option (OT qb2)) (v:qby.V):q10q tb (envL e82) 29 qdQ (q3q 4 (q4q Tryd.f82) .skip) qby qb2 g v=qah g v:=by kernel_rfl
theorem qiV (feature_0:Int) (b_1:List (Int×RAT×CELL)):fnFB tb (envL e82) Tryd.f82 qdQ w82 c82.ps c82.rs (T:=Int×(List (Int×RAT×CELL))) (fun y=>(y.2.1,y.2.2.1)) (feature_0,b_1,())=qbe feature_0 b_1:=by kernel_rfl
abbrev e83:List (Nat×Ctr):=[]
def qdB:LH
 | 10=>some ⟨qbi,qbT,lp qaw K0⟩
 | _=>none
theorem qiF (g:qbi.V->Option (OT qbT)) (v:qbi.V):q10q tb (envL e83) 32 qdB (q3q 5 (q4q Tryd.f83) .skip) qbi qbT g v=qaw g v:=by kernel_rfl
theorem qiG (b_0:List (Int×RAT×CELL)):fnFB tb (envL e83) Tryd.f83 qdB w83 c83.ps c83.rs (T:=(List PART)×(List (Int×RAT×CELL))) (fun y=>(y.2.1,y.2.2.1)) (b_0,())=qbV b_0:=by kernel_rfl
abbrev e96:List (Nat×Ctr):=[(31,c31),(36,c36),(58,c58)]
def ql7:LH
 | _=>none
theorem qqc (a_0:RAT):fnF tb (envL e96) Tryd.f96 ql7 c96.ps c96.rs (T:=RAT×Int) (fun y=>(y.2.1,y.2.2.1)) (a_0,())=qhx a_0:=by kernel_rfl
abbrev e95:List (Nat×Ctr):=[(19,c19),(28,c28),(47,c47),(96,c96)]
def qc3:LH
 | 14=>some ⟨qaV,qbw,lp qak K0⟩
 | _=>none
theorem qhE (g:qaV.V->Option (OT qbw)) (v:qaV.V):q10q tb (envL e95) 104 qc3 (q3q 7 (q4q Tryd.f95) .skip) qaV qbw g v=qak g v:=by kernel_rfl
theorem qhF (a_0:Int) (b_1:List (Int×RAT×CELL)):fnFB tb (envL e95) Tryd.f95 qc3 w95 c95.ps c95.rs (T:=(List RAT)×(List (Int×RAT×CELL))) (fun y=>(y.2.1,y.2.2.1)) (a_0,b_1,())=qbx a_0 b_1:=by kernel_rfl
abbrev e84:List (Nat×Ctr):=[(95,c95)]
def qdh:LH
 | 16=>some ⟨qa9,qbI,lp qat K0⟩
 | _=>none
theorem qie (g:qa9.V->Option (OT qbI)) (v:qa9.V):q10q tb (envL e84) 66 qdh (q3q 8 (q4q Tryd.f84) .skip) qa9 qbI g v=qat g v:=by kernel_rfl
theorem qif (a_0:Int) (b_1:List (Int×RAT×CELL)):fnFB tb (envL e84) Tryd.f84 qdh w84 c84.ps c84.rs (T:=Int×(List (Int×RAT×CELL))) (fun y=>(y.2.1,y.2.2.1)) (a_0,b_1,())=qbP a_0 b_1:=by kernel_rfl
abbrev e85:List (Nat×Ctr):=[(13,c13),(19,c19),(31,c31),(45,c45),(47,c47),(48,c48),(82,c82)]
def qdi:LH
 | 20=>some ⟨qaW,qbz,lp qal K0⟩
 | _=>none
theorem qhH (g:qaW.V->Option (OT qbz)) (v:qaW.V):q10q tb (envL e85) 113 qdi (q3q 10 (q4q Tryd.f85) .skip) qaW qbz g v=qal g v:=by kernel_rfl
theorem qig (a_0:Int) (a_1:RAT) (a_2:Bool) (b_3:List (Int×RAT×CELL)):fnFB tb (envL e85) Tryd.f85 qdi w85 c85.ps c85.rs (T:=Int×(List (Int×RAT×CELL))) (fun y=>(y.2.1,y.2.2.1)) (a_0,a_1,a_2,b_3,())=qaE a_0 a_1 a_2 b_3:=by kernel_rfl
abbrev e68:List (Nat×Ctr):=[(47,c47),(82,c82),(83,c83),(84,c84),(85,c85)]
def qfc:LH
 | _=>none
theorem qiD (b_0:Int) (b_1:Bool) (b_2:List Int) (b_3:List Int) (b_4:Int) (b_5:Bool) (b_6:List Int) (b_7:List Int) (b_8:Bool) (b_9:List (Int×RAT×CELL)):fnFB tb (envL e68) Tryd.f68 qfc w68 c68.ps c68.rs (T:=Int×Bool×(List Int)×(List Int)×Int×Bool×(List Int)×(List Int)×Bool×(List (Int×RAT×CELL))) (fun y=>(y.2.1,y.2.2.1,y.2.2.2.1,y.2.2.2.2.1,y.2.2.2.2.2.1,y.2.2.2.2.2.2.1,y.2.2.2.2.2.2.2.1,y.2.2.2.2.2.2.2.2.1,y.2.2.2.2.2.2.2.2.2.1,y.2.2.2.2.2.2.2.2.2.2.1)) (b_0,b_1,b_2,b_3,b_4,b_5,b_6,b_7,b_8,b_9,())=qaJ b_0 b_1 b_2 b_3 b_4 b_5 b_6 b_7 b_8 b_9:=by kernel_rfl
abbrev e29:List (Nat×Ctr):=[(45,c45),(48,c48)]
def qiR:LH
 | 6=>some ⟨qeF,qfB,lp qcB K0⟩
 | _=>none
theorem qp6 (g:qeF.V->Option (OT qfB)) (v:qeF.V):q10q tb (envL e29) 18 qiR (q3q 3 (q4q Tryd.f29) .skip) qeF qfB g v=qcB g v:=by kernel_rfl
theorem qp7 (l_0:List RAT):fnF tb (envL e29) Tryd.f29 qiR c29.ps c29.rs (T:=RAT) (fun y=>(y.2.1)) (l_0,())=qhw l_0:=by kernel_rfl
abbrev e86:List (Nat×Ctr):=[(29,c29),(95,c95)]
def qf7:LH
 | _=>none
theorem qjK (at_0:Int) (b_1:List (Int×RAT×CELL)):fnFB tb (envL e86) Tryd.f86 qf7 w86 c86.ps c86.rs (T:=RAT×Int×(List (Int×RAT×CELL))) (fun y=>(y.2.1,y.2.2.1,y.2.2.2.1)) (at_0,b_1,())=qc4 at_0 b_1:=by kernel_rfl
abbrev e69:List (Nat×Ctr):=[(15,c15),(47,c47),(48,c48),(49,c49),(83,c83),(86,c86)]
def qdg:LH
 | 6=>some ⟨qa8,qbG,lp qao K0⟩
 | _=>none
theorem qib (g:qa8.V->Option (OT qbG)) (v:qa8.V):q10q tb (envL e69) 69 qdg (q3q 3 (q4q Tryd.f69) .skip) qa8 qbG g v=qao g v:=by kernel_rfl
theorem qic (a_0:Int) (a_1:Bool) (a_2:List Int) (a_3:List Int) (a_4:Int) (a_5:Bool) (a_6:List Int) (a_7:List Int) (a_8:Bool) (b_9:List NODE) (b_10:List CELL) (b_11:Int) (b_12:Bool) (b_13:List RAT) (b_14:List (Int×RAT×CELL)):fnFB tb (envL e69) Tryd.f69 qdg w69 c69.ps c69.rs (T:=(List RAT)×(List NODE)×(List CELL)×Int×Bool×(List (Int×RAT×CELL))) (fun y=>(y.1.1,y.2.1,y.2.2.1,y.2.2.2.1,y.2.2.2.2.1,y.2.2.2.2.2.1)) (a_0,a_1,a_2,a_3,a_4,a_5,a_6,a_7,a_8,b_9,b_10,b_11,b_12,b_13,b_14,())=qbd a_0 a_1 a_2 a_3 a_4 a_5 a_6 a_7 a_8 b_9 b_10 b_11 b_12 b_13 b_14:=by kernel_rfl
abbrev e87:List (Nat×Ctr):=[(47,c47),(96,c96)]
def ql8:LH
 | _=>none
theorem qqe (a_0:RAT) (b_1:RAT):fnF tb (envL e87) Tryd.f87 ql8 c87.ps c87.rs (T:=RAT×Int) (fun y=>(y.2.1,y.2.2.1)) (a_0,b_1,())=qhy a_0 b_1:=by kernel_rfl
abbrev e97:List (Nat×Ctr):=[(35,c35)]
def qkw:LH
 | _=>none
theorem qoX (n_0:NODE) (c_1:CELL):fnF tb (envL e97) Tryd.f97 qkw c97.ps c97.rs (T:=Bool) (fun y=>(y.2.1)) (n_0,c_1,())=qhs n_0 c_1:=by kernel_rfl
abbrev e88:List (Nat×Ctr):=[(97,c97)]
def qky:LH
 | _=>none
theorem qoZ (n_0:NODE) (c_1:CELL):fnF tb (envL e88) Tryd.f88 qky c88.ps c88.rs (T:=Bool) (fun y=>(y.2.1)) (n_0,c_1,())=qht n_0 c_1:=by kernel_rfl
abbrev e89:List (Nat×Ctr):=[]
def qfD:LH
 | _=>none
theorem qiW (b_0:List (Int×RAT×CELL)):fnFB tb (envL e89) Tryd.f89 qfD w89 c89.ps c89.rs (T:=(List (Int×RAT×CELL))×(List (Int×RAT×CELL))) (fun y=>(y.2.1,y.2.2.1)) (b_0,())=qcD b_0:=by kernel_rfl
abbrev e70:List (Nat×Ctr):=[(47,c47),(87,c87),(88,c88),(89,c89)]
def qeG:LH
 | _=>none
theorem qhA (a_0:Int) (a_1:Bool) (a_2:List Int) (a_3:List Int) (a_4:Int) (a_5:Bool) (a_6:List Int) (a_7:List Int) (a_8:Bool) (a_9:Int) (a_10:Bool) (b_11:List NODE) (b_12:List CELL) (b_13:Int) (b_14:Bool) (b_15:List RAT) (b_16:List (Int×RAT×CELL)):fnFB tb (envL e70) Tryd.f70 qeG w70 c70.ps c70.rs (T:=(List RAT)×Int×Bool×(List Int)×(List Int)×Int×Bool×(List Int)×(List Int)×Bool×Bool×(List NODE)×(List CELL)×Int×Bool×(List (Int×RAT×CELL))×(List (Int×RAT×CELL))) (fun y=>(y.1.1,y.2.1,y.2.2.1,y.2.2.2.1,y.2.2.2.2.1,y.2.2.2.2.2.1,y.2.2.2.2.2.2.1,y.2.2.2.2.2.2.2.1,y.2.2.2.2.2.2.2.2.1,y.2.2.2.2.2.2.2.2.2.1,y.2.2.2.2.2.2.2.2.2.2.1,y.2.2.2.2.2.2.2.2.2.2.2.1,y.2.2.2.2.2.2.2.2.2.2.2.2.1,y.2.2.2.2.2.2.2.2.2.2.2.2.2.1,y.2.2.2.2.2.2.2.2.2.2.2.2.2.2.1,y.2.2.2.2.2.2.2.2.2.2.2.2.2.2.2.1,y.2.2.2.2.2.2.2.2.2.2.2.2.2.2.2.2.1)) (a_0,a_1,a_2,a_3,a_4,a_5,a_6,a_7,a_8,a_9,a_10,b_11,b_12,b_13,b_14,b_15,b_16,())=qbv a_0 a_1 a_2 a_3 a_4 a_5 a_6 a_7 a_8 a_9 a_10 b_11 b_12 b_13 b_14 b_15 b_16:=by kernel_rfl
abbrev e61:List (Nat×Ctr):=[(15,c15),(67,c67),(68,c68),(69,c69),(70,c70)]
def qcc:LH
 | 18=>some ⟨qa6,qbE,lp qaj K0⟩
 | 2=>some ⟨qa7,qbF,lp qan K0⟩
 | _=>none
theorem qh7 (g:qa6.V->Option (OT qbE)) (v:qa6.V):q10q tb (envL e61) 91 qcc (q3q 9 (q4q Tryd.f61) .skip) qa6 qbE g v=qaj g v:=by kernel_rfl
theorem qh8 (g:qa7.V->Option (OT qbF)) (v:qa7.V):q10q tb (envL e61) 91 qcc (q3q 1 (q4q Tryd.f61) .skip) qa7 qbF g v=qan g v:=by kernel_rfl
theorem qh9 (b_0:List NODE) (b_1:List CELL) (b_2:Int) (b_3:Bool) (b_4:List RAT) (b_5:List (Int×(Option ((Option (List (Int×RAT×CELL)))×Unit))×RAT×PART)):fnFB tb (envL e61) Tryd.f61 qcc w61 c61.ps c61.rs (T:=(List RAT)×(List NODE)×(List CELL)×Int×Bool×(List (Int×(Option ((Option (List (Int×RAT×CELL)))×Unit))×RAT×PART))) (fun y=>(y.1.1,y.2.1,y.2.2.1,y.2.2.2.1,y.2.2.2.2.1,y.2.2.2.2.2.1)) (b_0,b_1,b_2,b_3,b_4,b_5,())=qbO b_0 b_1 b_2 b_3 b_4 b_5:=by kernel_rfl
abbrev e44:List (Nat×Ctr):=[(60,c60),(61,c61)]
def qgE:LH
 | 6=>some ⟨qc2,qdP,lp qbH K0⟩
 | _=>none
theorem qni (g:qc2.V->Option (OT qdP)) (v:qc2.V):q10q tb (envL e44) 34 qgE (q3q 3 (q4q Tryd.f44) .skip) qc2 qdP g v=qbH g v:=by kernel_rfl
theorem qnj (m_0:qaq) (row_1:List CELL) (fixed_2:Int) (on_3:Bool):fnF tb (envL e44) Tryd.f44 qgE c44.ps c44.rs (T:=(List RAT)) (fun y=>(y.2.1)) (m_0,row_1,fixed_2,on_3,())=qeH m_0 row_1 fixed_2 on_3:=by kernel_rfl
abbrev e46:List (Nat×Ctr):=[(34,c34),(44,c44)]
def qhI:LH
 | _=>none
theorem qlo (m_0:qaq) (row_1:List CELL) (fixed_2:Int) (on_3:Bool):fnF tb (envL e46) Tryd.f46 qhI c46.ps c46.rs (T:=(List RAT)×Int) (fun y=>(y.2.1,y.2.2.1)) (m_0,row_1,fixed_2,on_3,())=qdz m_0 row_1 fixed_2 on_3:=by kernel_rfl
abbrev e27:List (Nat×Ctr):=[(19,c19),(28,c28),(46,c46),(47,c47)]
def qe6:LH
 | 10=>some ⟨qb5,qcG,lp qaR K0⟩
 | _=>none
theorem qkY (g:qb5.V->Option (OT qcG)) (v:qb5.V):q10q tb (envL e27) 48 qe6 (q3q 5 (q4q Tryd.f27) .skip) qb5 qcG g v=qaR g v:=by kernel_rfl
theorem qkZ (m_0:qaq) (row_1:List CELL) (k_2:Int):fnF tb (envL e27) Tryd.f27 qe6 c27.ps c27.rs (T:=(List RAT)) (fun y=>(y.2.1)) (m_0,row_1,k_2,())=qc9 m_0 row_1 k_2:=by kernel_rfl
abbrev e17:List (Nat×Ctr):=[(27,c27),(34,c34)]
def qiA:LH
 | _=>none
theorem qms (m_0:qaq) (row_1:List CELL) (i_2:Int) (k_3:Int):fnF tb (envL e17) Tryd.f17 qiA c17.ps c17.rs (T:=RAT×Int) (fun y=>(y.2.1,y.2.2.1)) (m_0,row_1,i_2,k_3,())=qip m_0 row_1 i_2 k_3:=by kernel_rfl
abbrev e6:List (Nat×Ctr):=[(15,c15),(16,c16),(17,c17),(18,c18),(19,c19)]
def qdX:LH
 | _=>none
theorem qjr :fnF tb (envL e6) Tryd.f6 qdX c6.ps c6.rs (T:=Bool) (fun y=>(y.2.1)) ()=qbf :=by kernel_rfl
abbrev e14:List (Nat×Ctr):=[]
def qfe:LH
 | _=>none
theorem qiI (a_0:RAT):fnF tb (envL e14) Tryd.f14 qfe c14.ps c14.rs (T:=RAT) (fun y=>(y.2.1)) (a_0,())=qbs a_0:=by kernel_rfl
abbrev e5:List (Nat×Ctr):=[(14,c14)]
def qdm:LH
 | 14=>some ⟨qb0,qcs,lp qaC K0⟩
 | 6=>some ⟨qb1,qct,lp qaD K0⟩
 | _=>none
theorem qkk (g:qb0.V->Option (OT qcs)) (v:qb0.V):q10q tb (envL e5) 67 qdm (q3q 7 (q4q Tryd.f5) .skip) qb0 qcs g v=qaC g v:=by kernel_rfl
theorem qkl (g:qb1.V->Option (OT qct)) (v:qb1.V):q10q tb (envL e5) 67 qdm (q3q 3 (q4q Tryd.f5) .skip) qb1 qct g v=qaD g v:=by kernel_rfl
theorem qkm (a_0:qaq):fnF tb (envL e5) Tryd.f5 qdm c5.ps c5.rs (T:=qaq) (fun y=>(y.2.1)) (a_0,())=qdp a_0:=by kernel_rfl
abbrev e43:List (Nat×Ctr):=[]
def qfd:LH
 | _=>none
theorem qiH (a_0:RAT):fnF tb (envL e43) Tryd.f43 qfd c43.ps c43.rs (T:=RAT) (fun y=>(y.2.1)) (a_0,())=qcq a_0:=by kernel_rfl
abbrev e23:List (Nat×Ctr):=[(43,c43)]
def qeC:LH
 | 6=>some ⟨qbZ,qcr,lp qaM K0⟩
 | _=>none
theorem qkg (g:qbZ.V->Option (OT qcr)) (v:qbZ.V):q10q tb (envL e23) 32 qeC (q3q 3 (q4q Tryd.f23) .skip) qbZ qcr g v=qaM g v:=by kernel_rfl
theorem qkh (l_0:List CELL) (n_1:Int):fnF tb (envL e23) Tryd.f23 qeC c23.ps c23.rs (T:=(List CELL)) (fun y=>(y.2.1)) (l_0,n_1,())=qb9 l_0 n_1:=by kernel_rfl
abbrev e10:List (Nat×Ctr):=[(5,c5),(23,c23)]
def qfW:LH
 | _=>none
theorem qjt (m_0:qaq) (row_1:List CELL):fnF tb (envL e10) Tryd.f10 qfW c10.ps c10.rs (T:=qaq×(List CELL)) (fun y=>(y.2.1,y.2.2.1)) (m_0,row_1,())=qb7 m_0 row_1:=by kernel_rfl
abbrev e24:List (Nat×Ctr):=[(34,c34),(44,c44)]
def qg3:LH
 | _=>none
theorem qkI (m_0:qaq) (row_1:List CELL):fnF tb (envL e24) Tryd.f24 qg3 c24.ps c24.rs (T:=(List RAT)×Int) (fun y=>(y.2.1,y.2.2.1)) (m_0,row_1,())=qcm m_0 row_1:=by kernel_rfl
abbrev e25:List (Nat×Ctr):=[(45,c45)]
def qd7:LH
 | 12=>some ⟨qci,qc7,lp qbb K0⟩
 | 6=>some ⟨qcj,qc8,lp qbc K0⟩
 | _=>none
theorem qlB (g:qci.V->Option (OT qc7)) (v:qci.V):q10q tbO (envL e25) 22 qd7 (q3q 6 (q4q Tryd.f25) .skip) qci qc7 g v=qbb g v:=by kernel_rfl
theorem qlC (g:qcj.V->Option (OT qc8)) (v:qcj.V):q10q tbO (envL e25) 22 qd7 (q3q 3 (q4q Tryd.f25) .skip) qcj qc8 g v=qbc g v:=by kernel_rfl
theorem qlD (n_0:Int):fnF tbO (envL e25) Tryd.f25 qd7 c25.ps c25.rs (T:=(List (Option (List RAT)))) (fun y=>(y.2.1)) (n_0,())=qeu n_0:=by kernel_rfl
abbrev qxC:List (Nat×Ctr):=[(45,c45),(48,c48)]
def qgC:LH
 | 6=>some ⟨qc0,qdO,lp qbD K0⟩
 | _=>none
theorem qna (g:qc0.V->Option (OT qdO)) (v:qc0.V):q10q tb (envL qxC) 18 qgC (q3q 3 (q4q Tryd.f29) .skip) qc0 qdO g v=qbD g v:=by kernel_rfl
theorem qnb (l_0:List RAT):fnF tb (envL qxC) Tryd.f29 qgC qwk.ps qwk.rs (T:=(List RAT)×RAT) (fun y=>(y.1.1,y.2.1)) (l_0,())=qfA l_0:=by kernel_rfl
abbrev e11:List (Nat×Ctr):=[(24,c24),(25,c25),(26,c26),(27,c27),(28,c28),(29,qwk)]
def qcI:LH
 | 22=>some ⟨qbY,qco,lp qaL K0⟩
 | 14=>some ⟨qb6,qcH,lp qaS K0⟩
 | 36=>some ⟨qbX,qcn,lp qaK K0⟩
 | _=>none
theorem qkb (g:qbY.V->Option (OT qco)) (v:qbY.V):q10q tbO (envL e11) 91 qcI (q3q 11 (q4q Tryd.f11) .skip) qbY qco g v=qaL g v:=by kernel_rfl
theorem qk1 (g:qb6.V->Option (OT qcH)) (v:qb6.V):q10q tbO (envL e11) 91 qcI (q3q 7 (q4q Tryd.f11) .skip) qb6 qcH g v=qaS g v:=by kernel_rfl
theorem qka (g:qbX.V->Option (OT qcn)) (v:qbX.V):q10q tbO (envL e11) 91 qcI (q3q 18 (q4q Tryd.f11) .skip) qbX qcn g v=qaK g v:=by kernel_rfl
theorem qk2 (a_0:qaq) (a_1:List CELL):fnF tbO (envL e11) Tryd.f11 qcI c11.ps c11.rs (T:=(List (Option (List RAT)))×Int) (fun y=>(y.2.1,y.2.2.1)) (a_0,a_1,())=qcp a_0 a_1:=by kernel_rfl
abbrev e12:List (Nat×Ctr):=[(8,c8)]
def qgU:LH
 | _=>none
theorem qke (m_0:qaq) (row_1:List CELL):fnF tb (envL e12) Tryd.f12 qgU c12.ps c12.rs (T:=Int) (fun y=>(y.2.1)) (m_0,row_1,())=qex m_0 row_1:=by kernel_rfl
abbrev e4:List (Nat×Ctr):=[(6,c6),(7,c7),(10,c10),(11,c11),(12,c12),(13,c13)]
def qbm:LH
 | 28=>some ⟨qay,qaH,lp qae K0⟩
 | 22=>some ⟨qaz,qaI,lp qaf K0⟩
 | _=>none
theorem qfU (g:qay.V->Option (OT qaH)) (v:qay.V):q10q tb (envL e4) 100 qbm (q3q 14 (q4q Tryd.f4) .skip) qay qaH g v=qae g v:=by kernel_rfl
theorem qfV (g:qaz.V->Option (OT qaI)) (v:qaz.V):q10q tb (envL e4) 100 qbm (q3q 11 (q4q Tryd.f4) .skip) qaz qaI g v=qaf g v:=by kernel_rfl
theorem qf5 (a_0:qaq) (a_1:List CELL):fnF tb (envL e4) Tryd.f4 qbm c4.ps c4.rs (T:=Bool) (fun y=>(y.2.1)) (a_0,a_1,())=qbR a_0 a_1:=by kernel_rfl
end Go.Proofs.YtfoedjifcmfogaaDoor.X
