/- Own work: part of the proof; the first line of each part says what it tells. -/
import Derived.Test.YtaeiamdjpkgjpaaGreatDoorLu7


namespace Go.Proofs.YtaeiamdjpkgjpaaGreatDoor.X
open Go
set_option linter.unusedVariables false
set_option linter.unusedSimpArgs false
set_option maxRecDepth 100000
abbrev e48:List (Nat×Ctr):=[]
def qfC:LH
 | _=>none
theorem qjn (a_0:RAT):fnF tb (envL e48) Tryz.f48 qfC c48.ps c48.rs (T:=RAT) (fun y=>(y.2.1)) (a_0,())=qbx a_0:=by kernel_rfl
abbrev e23:List (Nat×Ctr):=[(48,c48)]
def qdz:LH
 | 14=>some ⟨qb6,qcB,lp qaI K0⟩
 | 6=>some ⟨qb7,qcC,lp qaJ K0⟩
 | _=>none
theorem qk1 (g:qb6.V->Option (OT qcB)) (v:qb6.V):q10q tb (envL e23) 67 qdz (q3q 7 (q4q Tryz.f23) .skip) qb6 qcB g v=qaI g v:=by kernel_rfl
theorem qk2 (g:qb7.V->Option (OT qcC)) (v:qb7.V):q10q tb (envL e23) 67 qdz (q3q 3 (q4q Tryz.f23) .skip) qb7 qcC g v=qaJ g v:=by kernel_rfl
theorem qk3 (a_0:qam):fnF tb (envL e23) Tryz.f23 qdz c23.ps c23.rs (T:=qam) (fun y=>(y.2.1)) (a_0,())=qdD a_0:=by kernel_rfl
abbrev e49:List (Nat×Ctr):=[]
def qfB:LH
 | _=>none
theorem qjm (a_0:RAT):fnF tb (envL e49) Tryz.f49 qfB c49.ps c49.rs (T:=RAT) (fun y=>(y.2.1)) (a_0,())=qcz a_0:=by kernel_rfl
abbrev e24:List (Nat×Ctr):=[(49,c49)]
def qeS:LH
 | 6=>some ⟨qb5,qcA,lp qaQ K0⟩
 | _=>none
theorem qkX (g:qb5.V->Option (OT qcA)) (v:qb5.V):q10q tb (envL e24) 32 qeS (q3q 3 (q4q Tryz.f24) .skip) qb5 qcA g v=qaQ g v:=by kernel_rfl
theorem qkY (l_0:List CELL) (n_1:Int):fnF tb (envL e24) Tryz.f24 qeS c24.ps c24.rs (T:=(List CELL)) (fun y=>(y.2.1)) (l_0,n_1,())=qci l_0 n_1:=by kernel_rfl
abbrev e6:List (Nat×Ctr):=[(23,c23),(24,c24)]
def qgh:LH
 | _=>none
theorem qka (m_0:qam) (row_1:List CELL):fnF tb (envL e6) Tryz.f6 qgh c6.ps c6.rs (T:=qam×(List CELL)) (fun y=>(y.2.1,y.2.2.1)) (m_0,row_1,())=qcg m_0 row_1:=by kernel_rfl
abbrev e74:List (Nat×Ctr):=[]
def qgE:LH
 | 18=>some ⟨qej,qfr,lp qbS K0⟩
 | 8=>some ⟨qek,qfs,lp qbi K0⟩
 | _=>none
theorem qqf (g:qej.V->Option (OT qfr)) (v:qej.V):q10q tb (envL e74) 72 qgE (q3q 9 (q4q Tryz.f74) .skip) qej qfr g v=qbS g v:=by kernel_rfl
theorem qqg (g:qek.V->Option (OT qfs)) (v:qek.V):q10q tb (envL e74) 72 qgE (q3q 4 (q4q Tryz.f74) .skip) qek qfs g v=qbi g v:=by kernel_rfl
theorem qqh (a_0:qam):fnF tb (envL e74) Tryz.f74 qgE c74.ps c74.rs (T:=Bool) (fun y=>(y.2.1)) (a_0,())=qip a_0:=by kernel_rfl
abbrev e75:List (Nat×Ctr):=[]
def qg2:LH
 | 4=>some ⟨qc1,qdX,lp qa9 K0⟩
 | _=>none
theorem qnC (g:qc1.V->Option (OT qdX)) (v:qc1.V):q10q tb (envL e75) 52 qg2 (q3q 2 (q4q Tryz.f75) .skip) qc1 qdX g v=qa9 g v:=by kernel_rfl
theorem qnD (t_0:List NODE) (features_1:Int):fnF tb (envL e75) Tryz.f75 qg2 c75.ps c75.rs (T:=Int×Int) (fun y=>(y.2.1,y.2.2.1)) (t_0,features_1,())=qeU t_0 features_1:=by kernel_rfl
abbrev e76:List (Nat×Ctr):=[]
def qdG:LH
 | 6=>some ⟨qdH,qeu,lp qbG K0⟩
 | 20=>some ⟨qc0,qdW,lp qaR K0⟩
 | 34=>some ⟨qcZ,qdV,lp qbH K0⟩
 | 50=>some ⟨qcY,qdU,lp qa8 K0⟩
 | _=>none
theorem qoL (g:qdH.V->Option (OT qeu)) (v:qdH.V):q10q tb (envL e76) 103 qdG (q3q 3 (q4q Tryz.f76) .skip) qdH qeu g v=qbG g v:=by kernel_rfl
theorem qnA (g:qc0.V->Option (OT qdW)) (v:qc0.V):q10q tb (envL e76) 103 qdG (q3q 10 (q4q Tryz.f76) .skip) qc0 qdW g v=qaR g v:=by kernel_rfl
theorem qnz (g:qcZ.V->Option (OT qdV)) (v:qcZ.V):q10q tb (envL e76) 103 qdG (q3q 17 (q4q Tryz.f76) .skip) qcZ qdV g v=qbH g v:=by kernel_rfl
theorem qny (g:qcY.V->Option (OT qdU)) (v:qcY.V):q10q tb (envL e76) 103 qdG (q3q 25 (q4q Tryz.f76) .skip) qcY qdU g v=qa8 g v:=by kernel_rfl
theorem qoM (a_0:List NODE):fnF tb (envL e76) Tryz.f76 qdG c76.ps c76.rs (T:=Int×Int) (fun y=>(y.2.1,y.2.2.1)) (a_0,())=qg1 a_0:=by kernel_rfl
abbrev e66:List (Nat×Ctr):=[]
def qkH:LH
 | 4=>some ⟨qfN,qhc,lp qdw K0⟩
 | _=>none
theorem qsH (g:qfN.V->Option (OT qhc)) (v:qfN.V):q10q tb (envL e66) 23 qkH (q3q 2 (q4q Tryz.f66) .skip) qfN qhc g v=qdw g v:=by kernel_rfl
theorem qsI (a_0:List Int):fnF tb (envL e66) Tryz.f66 qkH c66.ps c66.rs (T:=(List Int)) (fun y=>(y.2.1)) (a_0,())=qdQ a_0:=by kernel_rfl
abbrev e40:List (Nat×Ctr):=[(66,c66)]
def qrC:LH
 | _=>none
theorem qws (n_0:Int):fnF tb (envL e40) Tryz.f40 qrC c40.ps c40.rs (T:=(List Int)) (fun y=>(y.2.1)) (n_0,())=qjS n_0:=by kernel_rfl
abbrev e16:List (Nat×Ctr):=[(40,c40)]
def qli:LH
 | _=>none
theorem qp0 :fnF tb (envL e16) Tryz.f16 qli c16.ps c16.rs (T:=RAT) (fun y=>(y.2.1)) ()=qcp :=by kernel_rfl
abbrev e60:List (Nat×Ctr):=[(66,c66)]
def qjU:LH
 | 6=>some ⟨qe8,qga,lp qcN K0⟩
 | _=>none
theorem qrE (g:qe8.V->Option (OT qga)) (v:qe8.V):q10q tb (envL e60) 24 qjU (q3q 3 (q4q Tryz.f60) .skip) qe8 qga g v=qcN g v:=by kernel_rfl
theorem qrF (a_0:List Int):fnF tb (envL e60) Tryz.f60 qjU c60.ps c60.rs (T:=(List Int)) (fun y=>(y.2.1)) (a_0,())=qbR a_0:=by kernel_rfl
abbrev e92:List (Nat×Ctr):=[]
def qjO:LH
 | 12=>some ⟨qe4,qf6,lp qcn K0⟩
 | _=>none
theorem qrt (g:qe4.V->Option (OT qf6)) (v:qe4.V):q10q tb (envL e92) 45 qjO (q3q 6 (q4q Tryz.f92) .skip) qe4 qf6 g v=qcn g v:=by kernel_rfl
theorem qru (a_0:List Int) (b_1:List Int):fnF tb (envL e92) Tryz.f92 qjO c92.ps c92.rs (T:=Int) (fun y=>(y.2.1)) (a_0,b_1,())=qf7 a_0 b_1:=by kernel_rfl
abbrev e121:List (Nat×Ctr):=[(60,c60)]
def qrB:LH
 | _=>none
theorem qwr (a_0:List Int):fnF tb (envL e121) Tryz.f121 qrB c121.ps c121.rs (T:=Int×Bool) (fun y=>(y.2.1,y.2.2.1)) (a_0,())=qpj a_0:=by kernel_rfl
abbrev e97:List (Nat×Ctr):=[(40,c40),(121,c121)]
def qiU:LH
 | 6=>some ⟨qeg,qfq,lp qcM K0⟩
 | _=>none
theorem qp9 (g:qeg.V->Option (OT qfq)) (v:qeg.V):q10q tb (envL e97) 27 qiU (q3q 3 (q4q Tryz.f97) .skip) qeg qfq g v=qcM g v:=by kernel_rfl
theorem qqa (a_0:List Int) (b_1:List Int):fnF tb (envL e97) Tryz.f97 qiU c97.ps c97.rs (T:=(List Int)) (fun y=>(y.2.1)) (a_0,b_1,())=qik a_0 b_1:=by kernel_rfl
abbrev e98:List (Nat×Ctr):=[(122,c122)]
def qjL:LH
 | 6=>some ⟨qe2,qf4,lp qdp K0⟩
 | _=>none
theorem qrn (g:qe2.V->Option (OT qf4)) (v:qe2.V):q10q tb (envL e98) 24 qjL (q3q 3 (q4q Tryz.f98) .skip) qe2 qf4 g v=qdp g v:=by kernel_rfl
theorem qro (a_0:List Int):fnF tb (envL e98) Tryz.f98 qjL c98.ps c98.rs (T:=Int) (fun y=>(y.2.1)) (a_0,())=qb1 a_0:=by kernel_rfl
abbrev e105:List (Nat×Ctr):=[]
def qod:LH
 | _=>none
theorem qsQ (a_0:List Int) (i_1:Int):fnF tb (envL e105) Tryz.f105 qod c105.ps c105.rs (T:=Int) (fun y=>(y.2.1)) (a_0,i_1,())=qfX a_0 i_1:=by kernel_rfl
abbrev e99:List (Nat×Ctr):=[(66,c66),(105,c105)]
def ql6:LH
 | 12=>some ⟨qgW,qii,lp qee K0⟩
 | _=>none
theorem quK (g:qgW.V->Option (OT qii)) (v:qgW.V):q10q tb (envL e99) 50 ql6 (q3q 6 (q4q Tryz.f99) .skip) qgW qii g v=qee g v:=by kernel_rfl
theorem quL (a_0:List Int) (n_1:Int):fnF tb (envL e99) Tryz.f99 ql6 c99.ps c99.rs (T:=(List Int)) (fun y=>(y.2.1)) (a_0,n_1,())=qdx a_0 n_1:=by kernel_rfl
abbrev e100:List (Nat×Ctr):=[(66,c66)]
def ql7:LH
 | 8=>some ⟨qgX,qij,lp qef K0⟩
 | _=>none
theorem quN (g:qgX.V->Option (OT qij)) (v:qgX.V):q10q tb (envL e100) 51 ql7 (q3q 4 (q4q Tryz.f100) .skip) qgX qij g v=qef g v:=by kernel_rfl
theorem quO (a_0:List Int) (n_1:Int):fnF tb (envL e100) Tryz.f100 ql7 c100.ps c100.rs (T:=(List Int)) (fun y=>(y.2.1)) (a_0,n_1,())=qhe a_0 n_1:=by kernel_rfl
abbrev e103:List (Nat×Ctr):=[(66,c66)]
def qjM:LH
 | 8=>some ⟨qe3,qf5,lp qdq K0⟩
 | _=>none
theorem qrq (g:qe3.V->Option (OT qf5)) (v:qe3.V):q10q tb (envL e103) 38 qjM (q3q 4 (q4q Tryz.f103) .skip) qe3 qf5 g v=qdq g v:=by kernel_rfl
theorem qrr (a_0:List Int) (d_1:Int):fnF tb (envL e103) Tryz.f103 qjM c103.ps c103.rs (T:=(List Int)×Int) (fun y=>(y.2.1,y.2.2.1)) (a_0,d_1,())=qjN a_0 d_1:=by kernel_rfl
abbrev e123:List (Nat×Ctr):=[(129,c129)]
def qfD:LH
 | _=>none
theorem qjo (x_0:Int):fnF tb (envL e123) Tryz.f123 qfD c123.ps c123.rs (T:=Int) (fun y=>(y.2.1)) (x_0,())=qcD x_0:=by kernel_rfl
abbrev e130:List (Nat×Ctr):=[(105,c105)]
def qkI:LH
 | 6=>some ⟨qfO,qhd,lp qd6 K0⟩
 | _=>none
theorem qsK (g:qfO.V->Option (OT qhd)) (v:qfO.V):q10q tb (envL e130) 46 qkI (q3q 3 (q4q Tryz.f130) .skip) qfO qhd g v=qd6 g v:=by kernel_rfl
theorem qsL (u_0:List Int) (v_1:List Int) (times_2:Int):fnF tb (envL e130) Tryz.f130 qkI c130.ps c130.rs (T:=(List Int)×Bool) (fun y=>(y.1.1,y.2.1)) (u_0,v_1,times_2,())=qlt u_0 v_1 times_2:=by kernel_rfl
abbrev e131:List (Nat×Ctr):=[(105,c105)]
def qkK:LH
 | 4=>some ⟨qfQ,qhg,lp qd7 K0⟩
 | _=>none
theorem qsS (g:qfQ.V->Option (OT qhg)) (v:qfQ.V):q10q tb (envL e131) 29 qkK (q3q 2 (q4q Tryz.f131) .skip) qfQ qhg g v=qd7 g v:=by kernel_rfl
theorem qsT (u_0:List Int) (v_1:List Int):fnF tb (envL e131) Tryz.f131 qkK c131.ps c131.rs (T:=(List Int)) (fun y=>(y.1.1)) (u_0,v_1,())=qlx u_0 v_1:=by kernel_rfl
abbrev e124:List (Nat×Ctr):=[(130,c130),(131,c131)]
def qjQ:LH
 | 8=>some ⟨qe6,qf9,lp qbF K0⟩
 | _=>none
theorem qrz (g:qe6.V->Option (OT qf9)) (v:qe6.V):q10q tb (envL e124) 77 qjQ (q3q 4 (q4q Tryz.f124) .skip) qe6 qf9 g v=qbF g v:=by kernel_rfl
theorem qrA (a_0:List Int) (a_1:List Int):fnF tb (envL e124) Tryz.f124 qjQ c124.ps c124.rs (T:=(List Int)×Int) (fun y=>(y.1.1,y.2.1)) (a_0,a_1,())=qil a_0 a_1:=by kernel_rfl
abbrev e104:List (Nat×Ctr):=[(66,c66),(99,c99),(100,c100),(123,c123),(124,c124)]
def qkJ:LH
 | 14=>some ⟨qfP,qhf,lp qdy K0⟩
 | _=>none
theorem qsO (g:qfP.V->Option (OT qhf)) (v:qfP.V):q10q tb (envL e104) 64 qkJ (q3q 7 (q4q Tryz.f104) .skip) qfP qhf g v=qdy g v:=by kernel_rfl
theorem qsP (a_0:List Int) (b_1:List Int):fnF tb (envL e104) Tryz.f104 qkJ c104.ps c104.rs (T:=(List Int)×(List Int)) (fun y=>(y.2.1,y.2.2.1)) (a_0,b_1,())=qlw a_0 b_1:=by kernel_rfl
abbrev e68:List (Nat×Ctr):=[(40,c40),(60,c60),(92,c92),(103,c103),(104,c104)]
def qly:LH
 | _=>none
theorem qqb (a_0:List Int) (b_1:List Int):fnF tb (envL e68) Tryz.f68 qly c68.ps c68.rs (T:=(List Int)×(List Int)×Int) (fun y=>(y.2.1,y.2.2.1,y.2.2.2.1)) (a_0,b_1,())=qei a_0 b_1:=by kernel_rfl
abbrev e101:List (Nat×Ctr):=[(68,c68)]
def qoc:LH
 | _=>none
theorem qsM (a_0:List Int) (b_1:List Int):fnF tb (envL e101) Tryz.f101 qoc c101.ps c101.rs (T:=(List Int)×(List Int)) (fun y=>(y.2.1,y.2.2.1)) (a_0,b_1,())=qhB a_0 b_1:=by kernel_rfl
abbrev e102:List (Nat×Ctr):=[(66,c66),(105,c105)]
def qjP:LH
 | 8=>some ⟨qe5,qf8,lp qdr K0⟩
 | _=>none
theorem qrw (g:qe5.V->Option (OT qf8)) (v:qe5.V):q10q tb (envL e102) 39 qjP (q3q 4 (q4q Tryz.f102) .skip) qe5 qf8 g v=qdr g v:=by kernel_rfl
theorem qrx (a_0:List Int) (b_1:List Int):fnF tb (envL e102) Tryz.f102 qjP c102.ps c102.rs (T:=(List Int)) (fun y=>(y.2.1)) (a_0,b_1,())=qfp a_0 b_1:=by kernel_rfl
abbrev e67:List (Nat×Ctr):=[(60,c60),(92,c92),(97,c97),(98,c98),(99,c99),(100,c100),(101,c101),(102,c102)]
def ql8:LH
 | 20=>some ⟨qfR,qhh,lp qbQ K0⟩
 | _=>none
theorem qsV (g:qfR.V->Option (OT qhh)) (v:qfR.V):q10q tb (envL e67) 86 ql8 (q3q 10 (q4q Tryz.f67) .skip) qfR qhh g v=qbQ g v:=by kernel_rfl
theorem quV (a_0:List Int) (a_1:List Int):fnF tb (envL e67) Tryz.f67 ql8 c67.ps c67.rs (T:=(List Int)) (fun y=>(y.2.1)) (a_0,a_1,())=qoe a_0 a_1:=by kernel_rfl
abbrev e41:List (Nat×Ctr):=[(40,c40),(67,c67),(68,c68)]
def qlh:LH
 | _=>none
theorem qpZ (num_0:WH) (den_1:List Int):fnF tb (envL e41) Tryz.f41 qlh c41.ps c41.rs (T:=RAT) (fun y=>(y.2.1)) (num_0,den_1,())=qdL num_0 den_1:=by kernel_rfl
abbrev e63:List (Nat×Ctr):=[]
def qk6:LH
 | _=>none
theorem qpH (neg_0:Bool) (abs_1:List Int):fnF tb (envL e63) Tryz.f63 qk6 c63.ps c63.rs (T:=WH) (fun y=>(y.2.1)) (neg_0,abs_1,())=qcX neg_0 abs_1:=by kernel_rfl
abbrev e61:List (Nat×Ctr):=[(60,c60),(63,c63)]
def qkp:LH
 | _=>none
theorem qoJ (a_0:WH):fnF tb (envL e61) Tryz.f61 qkp c61.ps c61.rs (T:=WH) (fun y=>(y.2.1)) (a_0,())=qbw a_0:=by kernel_rfl
abbrev e35:List (Nat×Ctr):=[(16,c16),(41,c41),(60,c60),(61,c61)]
def qkt:LH
 | _=>none
theorem qoW (a_0:RAT):fnF tb (envL e35) Tryz.f35 qkt c35.ps c35.rs (T:=RAT) (fun y=>(y.2.1)) (a_0,())=qbb a_0:=by kernel_rfl
abbrev e80:List (Nat×Ctr):=[(61,c61)]
def qk7:LH
 | _=>none
theorem qpI (a_0:WH):fnF tb (envL e80) Tryz.f80 qk7 c80.ps c80.rs (T:=Int) (fun y=>(y.2.1)) (a_0,())=qgO a_0:=by kernel_rfl
abbrev e110:List (Nat×Ctr):=[(35,c35),(80,c80)]
def qlk:LH
 | _=>none
theorem qp1 (a_0:RAT):fnF tb (envL e110) Tryz.f110 qlk c110.ps c110.rs (T:=Int) (fun y=>(y.2.1)) (a_0,())=qgT a_0:=by kernel_rfl
abbrev e77:List (Nat×Ctr):=[(110,c110)]
def qg3:LH
 | 4=>some ⟨qc2,qdY,lp qba K0⟩
 | _=>none
theorem qnF (g:qc2.V->Option (OT qdY)) (v:qc2.V):q10q tb (envL e77) 19 qg3 (q3q 2 (q4q Tryz.f77) .skip) qc2 qdY g v=qba g v:=by kernel_rfl
theorem qnG (t_0:List NODE):fnF tb (envL e77) Tryz.f77 qg3 c77.ps c77.rs (T:=Int×Int) (fun y=>(y.2.1,y.2.2.1)) (t_0,())=qeV t_0:=by kernel_rfl
abbrev e62:List (Nat×Ctr):=[(60,c60),(92,c92)]
def qpl:LH
 | _=>none
theorem quW (a_0:List Int) (b_1:List Int):fnF tb (envL e62) Tryz.f62 qpl c62.ps c62.rs (T:=Int) (fun y=>(y.2.1)) (a_0,b_1,())=qgo a_0 b_1:=by kernel_rfl
abbrev e36:List (Nat×Ctr):=[(61,c61),(62,c62)]
def qmA:LH
 | _=>none
theorem qqG (a_0:WH) (b_1:WH):fnF tb (envL e36) Tryz.f36 qmA c36.ps c36.rs (T:=Int) (fun y=>(y.2.1)) (a_0,b_1,())=qjq a_0 b_1:=by kernel_rfl
abbrev e43:List (Nat×Ctr):=[(60,c60),(66,c66)]
def qkh:LH
 | 16=>some ⟨qgY,qim,lp qeh K0⟩
 | 8=>some ⟨qgZ,qin,lp qe7 K0⟩
 | _=>none
theorem quS (g:qgY.V->Option (OT qim)) (v:qgY.V):q10q tb (envL e43) 67 qkh (q3q 8 (q4q Tryz.f43) .skip) qgY qim g v=qeh g v:=by kernel_rfl
theorem quT (g:qgZ.V->Option (OT qin)) (v:qgZ.V):q10q tb (envL e43) 67 qkh (q3q 4 (q4q Tryz.f43) .skip) qgZ qin g v=qe7 g v:=by kernel_rfl
theorem quU (a_0:List Int) (a_1:List Int):fnF tb (envL e43) Tryz.f43 qkh c43.ps c43.rs (T:=(List Int)) (fun y=>(y.2.1)) (a_0,a_1,())=qjT a_0 a_1:=by kernel_rfl
abbrev e37:List (Nat×Ctr):=[(43,c43),(61,c61),(63,c63)]
def qmz:LH
 | _=>none
theorem qqF (a_0:WH) (b_1:WH):fnF tb (envL e37) Tryz.f37 qmz c37.ps c37.rs (T:=WH) (fun y=>(y.2.1)) (a_0,b_1,())=qet a_0 b_1:=by kernel_rfl
abbrev e38:List (Nat×Ctr):=[]
def qmG:LH
 | _=>none
theorem qq1 (a_0:RAT):fnF tb (envL e38) Tryz.f38 qmG c38.ps c38.rs (T:=WH) (fun y=>(y.2.1)) (a_0,())=qez a_0:=by kernel_rfl
abbrev e13:List (Nat×Ctr):=[(35,c35),(36,c36),(37,c37),(38,c38)]
def qmR:LH
 | _=>none
theorem qrc (a_0:RAT) (b_1:RAT):fnF tb (envL e13) Tryz.f13 qmR c13.ps c13.rs (T:=Int) (fun y=>(y.2.1)) (a_0,b_1,())=qh5 a_0 b_1:=by kernel_rfl
abbrev e17:List (Nat×Ctr):=[(13,c13)]
def qll:LH
 | _=>none
theorem qp2 (a_0:RAT) (b_1:RAT):fnF tb (envL e17) Tryz.f17 qll c17.ps c17.rs (T:=Bool) (fun y=>(y.2.1)) (a_0,b_1,())=qcG a_0 b_1:=by kernel_rfl
abbrev e69:List (Nat×Ctr):=[(60,c60),(66,c66),(105,c105)]
def ql9:LH
 | 10=>some ⟨qg0,qio,lp qe9 K0⟩
 | _=>none
theorem quY (g:qg0.V->Option (OT qio)) (v:qg0.V):q10q tb (envL e69) 43 ql9 (q3q 5 (q4q Tryz.f69) .skip) qg0 qio g v=qe9 g v:=by kernel_rfl
theorem quZ (a_0:List Int) (b_1:List Int):fnF tb (envL e69) Tryz.f69 ql9 c69.ps c69.rs (T:=(List Int)) (fun y=>(y.2.1)) (a_0,b_1,())=qma a_0 b_1:=by kernel_rfl
abbrev e70:List (Nat×Ctr):=[(60,c60),(92,c92),(102,c102)]
def qpk:LH
 | _=>none
theorem quP (a_0:List Int) (b_1:List Int):fnF tb (envL e70) Tryz.f70 qpk c70.ps c70.rs (T:=(List Int)×Int) (fun y=>(y.2.1,y.2.2.1)) (a_0,b_1,())=qjR a_0 b_1:=by kernel_rfl
abbrev e42:List (Nat×Ctr):=[(61,c61),(62,c62),(63,c63),(69,c69),(70,c70)]
def qmB:LH
 | _=>none
theorem qqH (a_0:WH) (b_1:WH):fnF tb (envL e42) Tryz.f42 qmB c42.ps c42.rs (T:=WH) (fun y=>(y.2.1)) (a_0,b_1,())=qjr a_0 b_1:=by kernel_rfl
abbrev e19:List (Nat×Ctr):=[(35,c35),(37,c37),(38,c38),(41,c41),(42,c42),(43,c43)]
def qmS:LH
 | _=>none
theorem qrd (a_0:RAT) (b_1:RAT):fnF tb (envL e19) Tryz.f19 qmS c19.ps c19.rs (T:=RAT) (fun y=>(y.2.1)) (a_0,b_1,())=qbz a_0 b_1:=by kernel_rfl
abbrev e78:List (Nat×Ctr):=[(17,c17),(19,c19)]
def qiz:LH
 | 4=>some ⟨qec,qfd,lp qbt K0⟩
 | _=>none
theorem qpK (g:qec.V->Option (OT qfd)) (v:qec.V):q10q tb (envL e78) 37 qiz (q3q 2 (q4q Tryz.f78) .skip) qec qfd g v=qbt g v:=by kernel_rfl
theorem qpL (t_0:List NODE):fnF tb (envL e78) Tryz.f78 qiz c78.ps c78.rs (T:=Int×Int) (fun y=>(y.2.1,y.2.2.1)) (t_0,())=qgP t_0:=by kernel_rfl
abbrev e79:List (Nat×Ctr):=[]
def qkq:LH
 | _=>none
theorem qoN (e_0:Int) (tree_1:Int) (node_2:Int):fnF tb (envL e79) Tryz.f79 qkq c79.ps c79.rs (T:=(Int×Int×Int×Int)) (fun y=>(y.2.1)) (e_0,tree_1,node_2,())=qeN e_0 tree_1 node_2:=by kernel_rfl
abbrev e50:List (Nat×Ctr):=[(74,c74),(75,c75),(76,c76),(77,c77),(78,c78),(79,c79)]
def qfV:LH
 | 14=>some ⟨qdI,qev,lp qaz K0⟩
 | 8=>some ⟨qdJ,qew,lp qbq K0⟩
 | _=>none
theorem qoQ (g:qdI.V->Option (OT qev)) (v:qdI.V):q10q tb (envL e50) 63 qfV (q3q 7 (q4q Tryz.f50) .skip) qdI qev g v=qaz g v:=by kernel_rfl
theorem qoR (g:qdJ.V->Option (OT qew)) (v:qdJ.V):q10q tb (envL e50) 63 qfV (q3q 4 (q4q Tryz.f50) .skip) qdJ qew g v=qbq g v:=by kernel_rfl
theorem qoS (m_0:qam):fnF tb (envL e50) Tryz.f50 qfV c50.ps c50.rs (T:=(Int×Int×Int×Int)) (fun y=>(y.2.1)) (m_0,())=qfF m_0:=by kernel_rfl
abbrev e25:List (Nat×Ctr):=[(50,c50)]
def qnH:LH
 | _=>none
theorem qsk (m_0:qam):fnF tb (envL e25) Tryz.f25 qnH c25.ps c25.rs (T:=Bool) (fun y=>(y.2.1)) (m_0,())=qds m_0:=by kernel_rfl
abbrev e7:List (Nat×Ctr):=[(25,c25)]
def qhs:LH
 | _=>none
theorem qkV (m_0:qam) (row_1:List CELL):fnF tb (envL e7) Tryz.f7 qhs c7.ps c7.rs (T:=Int) (fun y=>(y.2.1)) (m_0,row_1,())=qeM m_0 row_1:=by kernel_rfl
abbrev e44:List (Nat×Ctr):=[(25,c25)]
def qle:LH
 | _=>none
theorem qpW (m_0:qam) (row_1:List CELL):fnF tb (envL e44) Tryz.f44 qle c44.ps c44.rs (T:=Int) (fun y=>(y.2.1)) (m_0,row_1,())=qc4 m_0 row_1:=by kernel_rfl
abbrev e29:List (Nat×Ctr):=[(44,c44)]
def qlg:LH
 | _=>none
theorem qpY (m_0:qam) (row_1:List CELL):fnF tb (envL e29) Tryz.f29 qlg c29.ps c29.rs (T:=Int) (fun y=>(y.2.1)) (m_0,row_1,())=qcc m_0 row_1:=by kernel_rfl
abbrev e73:List (Nat×Ctr):=[(61,c61),(63,c63)]
def qmy:LH
 | _=>none
theorem qqE (a_0:WH):fnF tb (envL e73) Tryz.f73 qmy c73.ps c73.rs (T:=WH) (fun y=>(y.2.1)) (a_0,())=qhP a_0:=by kernel_rfl
abbrev e47:List (Nat×Ctr):=[(35,c35),(73,c73)]
def qmK:LH
 | _=>none
theorem qq8 (a_0:RAT):fnF tb (envL e47) Tryz.f47 qmK c47.ps c47.rs (T:=RAT) (fun y=>(y.2.1)) (a_0,())=qg7 a_0:=by kernel_rfl
abbrev e22:List (Nat×Ctr):=[(19,c19),(47,c47)]
def qmH:LH
 | _=>none
theorem qq6 (a_0:RAT) (b_1:RAT):fnF tb (envL e22) Tryz.f22 qmH c22.ps c22.rs (T:=RAT) (fun y=>(y.2.1)) (a_0,b_1,())=qfj a_0 b_1:=by kernel_rfl
abbrev e51:List (Nat×Ctr):=[(40,c40),(63,c63)]
def qnu:LH
 | _=>none
theorem qsj (n_0:Int):fnF tb (envL e51) Tryz.f51 qnu c51.ps c51.rs (T:=WH) (fun y=>(y.2.1)) (n_0,())=qhv n_0:=by kernel_rfl
abbrev e52:List (Nat×Ctr):=[(41,c41),(61,c61),(73,c73),(80,c80)]
def qln:LH
 | _=>none
theorem qp3 (num_0:WH) (den_1:WH):fnF tb (envL e52) Tryz.f52 qln c52.ps c52.rs (T:=RAT×Int) (fun y=>(y.2.1,y.2.2.1)) (num_0,den_1,())=qgU num_0 den_1:=by kernel_rfl
abbrev e28:List (Nat×Ctr):=[(35,c35),(51,c51),(52,c52)]
def qlp:LH
 | _=>none
theorem qp4 (n_0:Int) (d_1:Int):fnF tb (envL e28) Tryz.f28 qlp c28.ps c28.rs (T:=RAT) (fun y=>(y.2.1)) (n_0,d_1,())=qcq n_0 d_1:=by kernel_rfl
abbrev e64:List (Nat×Ctr):=[(16,c16)]
def qfL:LH
 | 6=>some ⟨qcr,qc6,lp qbd K0⟩
 | _=>none
theorem ql3 (g:qcr.V->Option (OT qc6)) (v:qcr.V):q10q tb (envL e64) 13 qfL (q3q 3 (q4q Tryz.f64) .skip) qcr qc6 g v=qbd g v:=by kernel_rfl
theorem ql4 (n_0:Int):fnF tb (envL e64) Tryz.f64 qfL c64.ps c64.rs (T:=(List RAT)) (fun y=>(y.2.1)) (n_0,())=qeA n_0:=by kernel_rfl
abbrev e27:List (Nat×Ctr):=[(40,c40),(51,c51)]
def qnX:LH
 | _=>none
theorem qsB (n_0:Int):fnF tb (envL e27) Tryz.f27 qnX c27.ps c27.rs (T:=RAT) (fun y=>(y.2.1)) (n_0,())=qhy n_0:=by kernel_rfl
abbrev e26:List (Nat×Ctr):=[(27,c27)]
def qmI:LH
 | _=>none
theorem qq7 :fnF tb (envL e26) Tryz.f26 qmI c26.ps c26.rs (T:=RAT) (fun y=>(y.2.1)) ()=qfk :=by kernel_rfl
abbrev e93:List (Nat×Ctr):=[(26,c26)]
def qjD:LH
 | _=>none
theorem qn5 :fnFB tb (envL e93) Tryz.f93 qjD w93 c93.ps c93.rs (T:=(List (Int×RAT×CELL))) (fun y=>(y.2.1)) ()=qf3 :=by kernel_rfl
abbrev e54:List (Nat×Ctr):=[(35,c35),(37,c37),(41,c41),(43,c43)]
def qmL:LH
 | _=>none
theorem qq9 (a_0:RAT) (b_1:RAT):fnF tb (envL e54) Tryz.f54 qmL c54.ps c54.rs (T:=RAT) (fun y=>(y.2.1)) (a_0,b_1,())=qaq a_0 b_1:=by kernel_rfl
abbrev e114:List (Nat×Ctr):=[]
def qd2:LH
 | 8=>some ⟨qbD,qcb,lp qaj K0⟩
 | _=>none
theorem qjA (g:qbD.V->Option (OT qcb)) (v:qbD.V):q10q tb (envL e114) 29 qd2 (q3q 4 (q4q Tryz.f114) .skip) qbD qcb g v=qaj g v:=by kernel_rfl
theorem qjB (feature_0:Int) (b_1:List (Int×RAT×CELL)):fnFB tb (envL e114) Tryz.f114 qd2 w114 c114.ps c114.rs (T:=Int×(List (Int×RAT×CELL))) (fun y=>(y.2.1,y.2.2.1)) (feature_0,b_1,())=qbm feature_0 b_1:=by kernel_rfl
abbrev e115:List (Nat×Ctr):=[]
def qdN:LH
 | 10=>some ⟨qbp,qb0,lp qax K0⟩
 | _=>none
theorem qjk (g:qbp.V->Option (OT qb0)) (v:qbp.V):q10q tb (envL e115) 32 qdN (q3q 5 (q4q Tryz.f115) .skip) qbp qb0 g v=qax g v:=by kernel_rfl
theorem qjl (b_0:List (Int×RAT×CELL)):fnFB tb (envL e115) Tryz.f115 qdN w115 c115.ps c115.rs (T:=(List PART)×(List (Int×RAT×CELL))) (fun y=>(y.2.1,y.2.2.1)) (b_0,())=qb2 b_0:=by kernel_rfl
abbrev e128:List (Nat×Ctr):=[(35,c35),(38,c38),(52,c52)]
def qmN:LH
 | _=>none
theorem qra (a_0:RAT):fnF tb (envL e128) Tryz.f128 qmN c128.ps c128.rs (T:=RAT×Int) (fun y=>(y.2.1,y.2.2.1)) (a_0,())=qh4 a_0:=by kernel_rfl
abbrev e127:List (Nat×Ctr):=[(22,c22),(28,c28),(54,c54),(128,c128)]
def qc8:LH
 | 14=>some ⟨qa5,qbB,lp qan K0⟩
 | _=>none
theorem qia (g:qa5.V->Option (OT qbB)) (v:qa5.V):q10q tb (envL e127) 104 qc8 (q3q 7 (q4q Tryz.f127) .skip) qa5 qbB g v=qan g v:=by kernel_rfl
theorem qib (a_0:Int) (b_1:List (Int×RAT×CELL)):fnFB tb (envL e127) Tryz.f127 qc8 w127 c127.ps c127.rs (T:=(List RAT)×(List (Int×RAT×CELL))) (fun y=>(y.2.1,y.2.2.1)) (a_0,b_1,())=qbC a_0 b_1:=by kernel_rfl
abbrev e116:List (Nat×Ctr):=[(127,c127)]
def qdu:LH
 | 16=>some ⟨qbh,qbO,lp qav K0⟩
 | _=>none
theorem qiO (g:qbh.V->Option (OT qbO)) (v:qbh.V):q10q tb (envL e116) 66 qdu (q3q 8 (q4q Tryz.f116) .skip) qbh qbO g v=qav g v:=by kernel_rfl
theorem qiP (a_0:Int) (b_1:List (Int×RAT×CELL)):fnFB tb (envL e116) Tryz.f116 qdu w116 c116.ps c116.rs (T:=Int×(List (Int×RAT×CELL))) (fun y=>(y.2.1,y.2.2.1)) (a_0,b_1,())=qbW a_0 b_1:=by kernel_rfl
abbrev e117:List (Nat×Ctr):=[(16,c16),(19,c19),(28,c28),(35,c35),(54,c54),(110,c110),(114,c114)]
def qdv:LH
 | 20=>some ⟨qa6,qbE,lp qao K0⟩
 | _=>none
theorem qid (g:qa6.V->Option (OT qbE)) (v:qa6.V):q10q tb (envL e117) 113 qdv (q3q 10 (q4q Tryz.f117) .skip) qa6 qbE g v=qao g v:=by kernel_rfl
theorem qiQ (a_0:Int) (a_1:RAT) (a_2:Bool) (b_3:List (Int×RAT×CELL)):fnFB tb (envL e117) Tryz.f117 qdv w117 c117.ps c117.rs (T:=Int×(List (Int×RAT×CELL))) (fun y=>(y.2.1,y.2.2.1)) (a_0,a_1,a_2,b_3,())=qaK a_0 a_1 a_2 b_3:=by kernel_rfl
abbrev e94:List (Nat×Ctr):=[(54,c54),(114,c114),(115,c115),(116,c116),(117,c117)]
def qfA:LH
 | _=>none
theorem qji (b_0:Int) (b_1:Bool) (b_2:List Int) (b_3:List Int) (b_4:Int) (b_5:Bool) (b_6:List Int) (b_7:List Int) (b_8:Bool) (b_9:List (Int×RAT×CELL)):fnFB tb (envL e94) Tryz.f94 qfA w94 c94.ps c94.rs (T:=Int×Bool×(List Int)×(List Int)×Int×Bool×(List Int)×(List Int)×Bool×(List (Int×RAT×CELL))) (fun y=>(y.2.1,y.2.2.1,y.2.2.2.1,y.2.2.2.2.1,y.2.2.2.2.2.1,y.2.2.2.2.2.2.1,y.2.2.2.2.2.2.2.1,y.2.2.2.2.2.2.2.2.1,y.2.2.2.2.2.2.2.2.2.1,y.2.2.2.2.2.2.2.2.2.2.1)) (b_0,b_1,b_2,b_3,b_4,b_5,b_6,b_7,b_8,b_9,())=qaN b_0 b_1 b_2 b_3 b_4 b_5 b_6 b_7 b_8 b_9:=by kernel_rfl
abbrev e18:List (Nat×Ctr):=[(16,c16),(19,c19)]
def qjx:LH
 | 6=>some ⟨qeW,qf0,lp qcJ K0⟩
 | _=>none
theorem qq4 (g:qeW.V->Option (OT qf0)) (v:qeW.V):q10q tb (envL e18) 18 qjx (q3q 3 (q4q Tryz.f18) .skip) qeW qf0 g v=qcJ g v:=by kernel_rfl
theorem qq5 (l_0:List RAT):fnF tb (envL e18) Tryz.f18 qjx c18.ps c18.rs (T:=RAT) (fun y=>(y.2.1)) (l_0,())=qh3 l_0:=by kernel_rfl
abbrev e118:List (Nat×Ctr):=[(18,c18),(127,c127)]
def qgw:LH
 | _=>none
theorem qko (at_0:Int) (b_1:List (Int×RAT×CELL)):fnFB tb (envL e118) Tryz.f118 qgw w118 c118.ps c118.rs (T:=RAT×Int×(List (Int×RAT×CELL))) (fun y=>(y.2.1,y.2.2.1,y.2.2.2.1)) (at_0,b_1,())=qc9 at_0 b_1:=by kernel_rfl
abbrev e95:List (Nat×Ctr):=[(19,c19),(26,c26),(47,c47),(54,c54),(115,c115),(118,c118)]
def qdt:LH
 | 6=>some ⟨qbg,qbM,lp qat K0⟩
 | _=>none
theorem qiL (g:qbg.V->Option (OT qbM)) (v:qbg.V):q10q tb (envL e95) 69 qdt (q3q 3 (q4q Tryz.f95) .skip) qbg qbM g v=qat g v:=by kernel_rfl
theorem qiM (a_0:Int) (a_1:Bool) (a_2:List Int) (a_3:List Int) (a_4:Int) (a_5:Bool) (a_6:List Int) (a_7:List Int) (a_8:Bool) (b_9:List NODE) (b_10:List CELL) (b_11:Int) (b_12:Bool) (b_13:List RAT) (b_14:List (Int×RAT×CELL)):fnFB tb (envL e95) Tryz.f95 qdt w95 c95.ps c95.rs (T:=(List RAT)×(List NODE)×(List CELL)×Int×Bool×(List (Int×RAT×CELL))) (fun y=>(y.1.1,y.2.1,y.2.2.1,y.2.2.2.1,y.2.2.2.2.1,y.2.2.2.2.2.1)) (a_0,a_1,a_2,a_3,a_4,a_5,a_6,a_7,a_8,b_9,b_10,b_11,b_12,b_13,b_14,())=qbl a_0 a_1 a_2 a_3 a_4 a_5 a_6 a_7 a_8 b_9 b_10 b_11 b_12 b_13 b_14:=by kernel_rfl
abbrev e106:List (Nat×Ctr):=[(13,c13)]
def qld:LH
 | _=>none
theorem qpV (n_0:NODE) (c_1:CELL):fnF tb (envL e106) Tryz.f106 qld c106.ps c106.rs (T:=Bool) (fun y=>(y.2.1)) (n_0,c_1,())=qgR n_0 c_1:=by kernel_rfl
abbrev e109:List (Nat×Ctr):=[(106,c106)]
def qlf:LH
 | _=>none
theorem qpX (n_0:NODE) (c_1:CELL):fnF tb (envL e109) Tryz.f109 qlf c109.ps c109.rs (T:=Bool) (fun y=>(y.2.1)) (n_0,c_1,())=qgS n_0 c_1:=by kernel_rfl
abbrev e119:List (Nat×Ctr):=[(54,c54),(128,c128)]
def qmP:LH
 | _=>none
theorem qrb (a_0:RAT) (b_1:RAT):fnF tb (envL e119) Tryz.f119 qmP c119.ps c119.rs (T:=RAT×Int) (fun y=>(y.2.1,y.2.2.1)) (a_0,b_1,())=qg8 a_0 b_1:=by kernel_rfl
abbrev e120:List (Nat×Ctr):=[]
def qf2:LH
 | _=>none
theorem qjC (b_0:List (Int×RAT×CELL)):fnFB tb (envL e120) Tryz.f120 qf2 w120 c120.ps c120.rs (T:=(List (Int×RAT×CELL))×(List (Int×RAT×CELL))) (fun y=>(y.2.1,y.2.2.1)) (b_0,())=qcK b_0:=by kernel_rfl
abbrev e96:List (Nat×Ctr):=[(54,c54),(109,c109),(119,c119),(120,c120)]
def qeX:LH
 | _=>none
theorem qh6 (a_0:Int) (a_1:Bool) (a_2:List Int) (a_3:List Int) (a_4:Int) (a_5:Bool) (a_6:List Int) (a_7:List Int) (a_8:Bool) (a_9:Int) (a_10:Bool) (b_11:List NODE) (b_12:List CELL) (b_13:Int) (b_14:Bool) (b_15:List RAT) (b_16:List (Int×RAT×CELL)):fnFB tb (envL e96) Tryz.f96 qeX w96 c96.ps c96.rs (T:=(List RAT)×Int×Bool×(List Int)×(List Int)×Int×Bool×(List Int)×(List Int)×Bool×Bool×(List NODE)×(List CELL)×Int×Bool×(List (Int×RAT×CELL))×(List (Int×RAT×CELL))) (fun y=>(y.1.1,y.2.1,y.2.2.1,y.2.2.2.1,y.2.2.2.2.1,y.2.2.2.2.2.1,y.2.2.2.2.2.2.1,y.2.2.2.2.2.2.2.1,y.2.2.2.2.2.2.2.2.1,y.2.2.2.2.2.2.2.2.2.1,y.2.2.2.2.2.2.2.2.2.2.1,y.2.2.2.2.2.2.2.2.2.2.2.1,y.2.2.2.2.2.2.2.2.2.2.2.2.1,y.2.2.2.2.2.2.2.2.2.2.2.2.2.1,y.2.2.2.2.2.2.2.2.2.2.2.2.2.2.1,y.2.2.2.2.2.2.2.2.2.2.2.2.2.2.2.1,y.2.2.2.2.2.2.2.2.2.2.2.2.2.2.2.2.1)) (a_0,a_1,a_2,a_3,a_4,a_5,a_6,a_7,a_8,a_9,a_10,b_11,b_12,b_13,b_14,b_15,b_16,())=qbA a_0 a_1 a_2 a_3 a_4 a_5 a_6 a_7 a_8 a_9 a_10 b_11 b_12 b_13 b_14 b_15 b_16:=by kernel_rfl
abbrev e65:List (Nat×Ctr):=[(26,c26),(93,c93),(94,c94),(95,c95),(96,c96)]
def qcm:LH
 | 18=>some ⟨qbe,qbK,lp qal K0⟩
 | 2=>some ⟨qbf,qbL,lp qas K0⟩
 | _=>none
theorem qiH (g:qbe.V->Option (OT qbK)) (v:qbe.V):q10q tb (envL e65) 91 qcm (q3q 9 (q4q Tryz.f65) .skip) qbe qbK g v=qal g v:=by kernel_rfl
theorem qiI (g:qbf.V->Option (OT qbL)) (v:qbf.V):q10q tb (envL e65) 91 qcm (q3q 1 (q4q Tryz.f65) .skip) qbf qbL g v=qas g v:=by kernel_rfl
theorem qiJ (b_0:List NODE) (b_1:List CELL) (b_2:Int) (b_3:Bool) (b_4:List RAT) (b_5:List (Int×(Option ((Option (List (Int×RAT×CELL)))×Unit))×RAT×PART)):fnFB tb (envL e65) Tryz.f65 qcm w65 c65.ps c65.rs (T:=(List RAT)×(List NODE)×(List CELL)×Int×Bool×(List (Int×(Option ((Option (List (Int×RAT×CELL)))×Unit))×RAT×PART))) (fun y=>(y.1.1,y.2.1,y.2.2.1,y.2.2.2.1,y.2.2.2.2.1,y.2.2.2.2.2.1)) (b_0,b_1,b_2,b_3,b_4,b_5,())=qbV b_0 b_1 b_2 b_3 b_4 b_5:=by kernel_rfl
abbrev e39:List (Nat×Ctr):=[(64,c64),(65,c65)]
def qg9:LH
 | 6=>some ⟨qc7,qd1,lp qbN K0⟩
 | _=>none
theorem qn3 (g:qc7.V->Option (OT qd1)) (v:qc7.V):q10q tb (envL e39) 34 qg9 (q3q 3 (q4q Tryz.f39) .skip) qc7 qd1 g v=qbN g v:=by kernel_rfl
theorem qn4 (m_0:qam) (row_1:List CELL) (fixed_2:Int) (on_3:Bool):fnF tb (envL e39) Tryz.f39 qg9 c39.ps c39.rs (T:=(List RAT)) (fun y=>(y.2.1)) (m_0,row_1,fixed_2,on_3,())=qeY m_0 row_1 fixed_2 on_3:=by kernel_rfl
abbrev e53:List (Nat×Ctr):=[(29,c29),(39,c39)]
def qie:LH
 | _=>none
theorem ql5 (m_0:qam) (row_1:List CELL) (fixed_2:Int) (on_3:Bool):fnF tb (envL e53) Tryz.f53 qie c53.ps c53.rs (T:=(List RAT)×Int) (fun y=>(y.2.1,y.2.2.1)) (m_0,row_1,fixed_2,on_3,())=qdM m_0 row_1 fixed_2 on_3:=by kernel_rfl
abbrev e30:List (Nat×Ctr):=[(22,c22),(28,c28),(53,c53),(54,c54)]
def qfu:LH
 | 10=>some ⟨qce,qcO,lp qaZ K0⟩
 | _=>none
theorem qlG (g:qce.V->Option (OT qcO)) (v:qce.V):q10q tb (envL e30) 48 qfu (q3q 5 (q4q Tryz.f30) .skip) qce qcO g v=qaZ g v:=by kernel_rfl
theorem qlH (m_0:qam) (row_1:List CELL) (k_2:Int):fnF tb (envL e30) Tryz.f30 qfu c30.ps c30.rs (T:=(List RAT)) (fun y=>(y.2.1)) (m_0,row_1,k_2,())=qdc m_0 row_1 k_2:=by kernel_rfl
abbrev e9:List (Nat×Ctr):=[(29,c29),(30,c30)]
def qjf:LH
 | _=>none
theorem qnb (m_0:qam) (row_1:List CELL) (i_2:Int) (k_3:Int):fnF tb (envL e9) Tryz.f9 qjf c9.ps c9.rs (T:=RAT×Int) (fun y=>(y.2.1,y.2.2.1)) (m_0,row_1,i_2,k_3,())=qi0 m_0 row_1 i_2 k_3:=by kernel_rfl
abbrev e8:List (Nat×Ctr):=[(9,c9),(17,c17),(26,c26),(27,c27),(28,c28)]
def qea:LH
 | _=>none
theorem qj8 :fnF tb (envL e8) Tryz.f8 qea c8.ps c8.rs (T:=Bool) (fun y=>(y.2.1)) ()=qbn :=by kernel_rfl
abbrev e15:List (Nat×Ctr):=[(29,c29),(39,c39)]
def qhz:LH
 | _=>none
theorem qlq (m_0:qam) (row_1:List CELL):fnF tb (envL e15) Tryz.f15 qhz c15.ps c15.rs (T:=(List RAT)×Int) (fun y=>(y.2.1,y.2.2.1)) (m_0,row_1,())=qca m_0 row_1:=by kernel_rfl
abbrev qyK:List (Nat×Ctr):=[(16,c16),(19,c19)]
def qg6:LH
 | 6=>some ⟨qc5,qd0,lp qbJ K0⟩
 | _=>none
theorem qnV (g:qc5.V->Option (OT qd0)) (v:qc5.V):q10q tb (envL qyK) 18 qg6 (q3q 3 (q4q Tryz.f18) .skip) qc5 qd0 g v=qbJ g v:=by kernel_rfl
theorem qnW (l_0:List RAT):fnF tb (envL qyK) Tryz.f18 qg6 qvk.ps qvk.rs (T:=(List RAT)×RAT) (fun y=>(y.1.1,y.2.1)) (l_0,())=qdn l_0:=by kernel_rfl
abbrev e31:List (Nat×Ctr):=[(16,c16)]
def qem:LH
 | 12=>some ⟨qct,qda,lp qbj K0⟩
 | 6=>some ⟨qcu,qdb,lp qbk K0⟩
 | _=>none
theorem qmg (g:qct.V->Option (OT qda)) (v:qct.V):q10q tbO (envL e31) 22 qem (q3q 6 (q4q Tryz.f31) .skip) qct qda g v=qbj g v:=by kernel_rfl
theorem qmh (g:qcu.V->Option (OT qdb)) (v:qcu.V):q10q tbO (envL e31) 22 qem (q3q 3 (q4q Tryz.f31) .skip) qcu qdb g v=qbk g v:=by kernel_rfl
theorem qmi (n_0:Int):fnF tbO (envL e31) Tryz.f31 qem c31.ps c31.rs (T:=(List (Option (List RAT)))) (fun y=>(y.2.1)) (n_0,())=qeJ n_0:=by kernel_rfl
abbrev e10:List (Nat×Ctr):=[(15,c15),(18,qvk),(22,c22),(30,c30),(31,c31),(32,c32)]
def qcQ:LH
 | 22=>some ⟨qb4,qcy,lp qaP K0⟩
 | 14=>some ⟨qcf,qcP,lp qa0 K0⟩
 | 36=>some ⟨qb3,qcx,lp qaO K0⟩
 | _=>none
theorem qkR (g:qb4.V->Option (OT qcy)) (v:qb4.V):q10q tbO (envL e10) 91 qcQ (q3q 11 (q4q Tryz.f10) .skip) qb4 qcy g v=qaP g v:=by kernel_rfl
theorem qlJ (g:qcf.V->Option (OT qcP)) (v:qcf.V):q10q tbO (envL e10) 91 qcQ (q3q 7 (q4q Tryz.f10) .skip) qcf qcP g v=qa0 g v:=by kernel_rfl
theorem qkQ (g:qb3.V->Option (OT qcx)) (v:qb3.V):q10q tbO (envL e10) 91 qcQ (q3q 18 (q4q Tryz.f10) .skip) qb3 qcx g v=qaO g v:=by kernel_rfl
theorem qlK (a_0:qam) (a_1:List CELL):fnF tbO (envL e10) Tryz.f10 qcQ c10.ps c10.rs (T:=(List (Option (List RAT)))×Int) (fun y=>(y.2.1,y.2.2.1)) (a_0,a_1,())=qdd a_0 a_1:=by kernel_rfl
abbrev e71:List (Nat×Ctr):=[(106,c106)]
def qlc:LH
 | _=>none
theorem qpU (n_0:NODE) (row_1:List CELL):fnF tb (envL e71) Tryz.f71 qlc c71.ps c71.rs (T:=Int) (fun y=>(y.2.1)) (n_0,row_1,())=qh0 n_0 row_1:=by kernel_rfl
abbrev e45:List (Nat×Ctr):=[(35,c35),(71,c71)]
def qhG:LH
 | 4=>some ⟨qdK,qey,lp qaW K0⟩
 | _=>none
theorem qoU (g:qdK.V->Option (OT qey)) (v:qdK.V):q10q tb (envL e45) 24 qhG (q3q 2 (q4q Tryz.f45) .skip) qdK qey g v=qaW g v:=by kernel_rfl
theorem qoV (t_0:List NODE) (row_1:List CELL):fnF tb (envL e45) Tryz.f45 qhG c45.ps c45.rs (T:=RAT) (fun y=>(y.2.1)) (t_0,row_1,())=qg5 t_0 row_1:=by kernel_rfl
abbrev e20:List (Nat×Ctr):=[(16,c16),(19,c19),(44,c44),(45,c45)]
def qgn:LH
 | 12=>some ⟨qcF,qdB,lp qbu K0⟩
 | _=>none
theorem qm9 (g:qcF.V->Option (OT qdB)) (v:qcF.V):q10q tb (envL e20) 32 qgn (q3q 6 (q4q Tryz.f20) .skip) qcF qdB g v=qbu g v:=by kernel_rfl
theorem qna (m_0:qam) (row_1:List CELL):fnF tb (envL e20) Tryz.f20 qgn c20.ps c20.rs (T:=RAT×Int) (fun y=>(y.2.1,y.2.2.1)) (m_0,row_1,())=qfi m_0 row_1:=by kernel_rfl
abbrev e107:List (Nat×Ctr):=[]
def qj0:LH
 | _=>none
theorem qos (set_0:Int) (feature_1:Int):fnF tb (envL e107) Tryz.f107 qj0 c107.ps c107.rs (T:=Bool) (fun y=>(y.2.1)) (set_0,feature_1,())=qgg set_0 feature_1:=by kernel_rfl
abbrev e125:List (Nat×Ctr):=[(119,c119)]
def qkz:LH
 | _=>none
theorem qo0 (a_0:RAT) (b_1:RAT):fnF tb (envL e125) Tryz.f125 qkz c125.ps c125.rs (T:=RAT) (fun y=>(y.2.1)) (a_0,b_1,())=qho a_0 b_1:=by kernel_rfl
abbrev e108:List (Nat×Ctr):=[(19,c19),(54,c54),(125,c125)]
def qkA:LH
 | _=>none
theorem qo1 (t_0:List NODE) (n_1:NODE) (a_2:RAT) (b_3:RAT):fnF tb (envL e108) Tryz.f108 qkA c108.ps c108.rs (T:=RAT) (fun y=>(y.2.1)) (t_0,n_1,a_2,b_3,())=qhp t_0 n_1 a_2 b_3:=by kernel_rfl
abbrev e72 (n:Nat):List (Nat×Ctr):=[(35,c35),(72,(c72 n)),(107,c107),(108,c108),(109,c109)]
def qjZ (n:Nat):LH
 | _=>none
theorem qor (n:Nat) (t_0:List NODE) (at_1:Int) (row_2:List CELL) (set_3:Int):fnF tb (envL (e72 n)) Tryz.f72 (qjZ n) (c72 n).ps (c72 n).rs (T:=RAT) (fun y=>(y.2.1)) (t_0,at_1,row_2,set_3,())=qcR (n+1) t_0 at_1 row_2 set_3:=by kernel_rfl
abbrev e46:List (Nat×Ctr):=[(16,c16),(19,c19),(29,c29),(72,(c72 R0))]
def qhq:LH
 | 12=>some ⟨qde,qd9,lp qbT K0⟩
 | _=>none
theorem qou (g:qde.V->Option (OT qd9)) (v:qde.V):q10q tb (envL e46) 35 qhq (q3q 6 (q4q Tryz.f46) .skip) qde qd9 g v=qbT g v:=by kernel_rfl
theorem qov (m_0:qam) (row_1:List CELL) (set_2:Int):fnF tb (envL e46) Tryz.f46 qhq c46.ps c46.rs (T:=RAT×Int) (fun y=>(y.2.1,y.2.2.1)) (m_0,row_1,set_2,())=qfc m_0 row_1 set_2:=by kernel_rfl
abbrev e21:List (Nat×Ctr):=[(25,c25),(46,c46)]
def qkB:LH
 | _=>none
theorem qo2 (m_0:qam):fnF tb (envL e21) Tryz.f21 qkB c21.ps c21.rs (T:=RAT×Int) (fun y=>(y.2.1,y.2.2.1)) (m_0,())=qhr m_0:=by kernel_rfl
abbrev e5:List (Nat×Ctr):=[(6,c6),(7,c7),(8,c8),(10,c10),(15,c15),(16,c16),(17,c17),(18,qvk),(19,c19),(20,c20),(21,c21),(22,c22)]
def qa1:LH
 | 42=>some ⟨qaC,qaT,lp qag K0⟩
 | 24=>some ⟨qaE,qaV,lp qai K0⟩
 | 36=>some ⟨qaD,qaU,lp qah K0⟩
 | _=>none
theorem qgs (g:qaC.V->Option (OT qaT)) (v:qaC.V):q10q tb (envL e5) 149 qa1 (q3q 21 (q4q Tryz.f5) .skip) qaC qaT g v=qag g v:=by kernel_rfl
theorem qgu (g:qaE.V->Option (OT qaV)) (v:qaE.V):q10q tb (envL e5) 149 qa1 (q3q 12 (q4q Tryz.f5) .skip) qaE qaV g v=qai g v:=by kernel_rfl
theorem qgt (g:qaD.V->Option (OT qaU)) (v:qaD.V):q10q tb (envL e5) 149 qa1 (q3q 18 (q4q Tryz.f5) .skip) qaD qaU g v=qah g v:=by kernel_rfl
theorem qgL (a_0:qam) (a_1:List CELL):fnF tb (envL e5) Tryz.f5 qa1 c5.ps c5.rs (T:=Bool) (fun y=>(y.2.1)) (a_0,a_1,())=qb8 a_0 a_1:=by kernel_rfl
end Go.Proofs.YtaeiamdjpkgjpaaGreatDoor.X
