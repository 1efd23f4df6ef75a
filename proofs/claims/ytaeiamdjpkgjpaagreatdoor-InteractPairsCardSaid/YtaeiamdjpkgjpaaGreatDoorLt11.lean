/- Own work: part of the proof; the first line of each part says what it tells. -/
import Derived.Test.YtaeiamdjpkgjpaaGreatDoorLt7


namespace Go.Proofs.YtaeiamdjpkgjpaaGreatDoor.X
open Go
set_option linter.unusedVariables false
set_option linter.unusedSimpArgs false
set_option maxRecDepth 100000
abbrev e48:List (Nat×Ctr):=[]
def qgu:LH
 | _=>none
theorem qkc (a_0:RAT):fnF tb (envL e48) Tryz.f48 qgu c48.ps c48.rs (T:=RAT) (fun y=>(y.2.1)) (a_0,())=qbD a_0:=by kernel_rfl
abbrev e23:List (Nat×Ctr):=[(48,c48)]
def qd5:LH
 | 14=>some ⟨qcp,qc8,lp qaM K0⟩
 | 6=>some ⟨qcq,qc9,lp qaN K0⟩
 | _=>none
theorem qmv (g:qcp.V->Option (OT qc8)) (v:qcp.V):q10q tb (envL e23) 67 qd5 (q3q 7 (q4q Tryz.f23) .skip) qcp qc8 g v=qaM g v:=by kernel_rfl
theorem qmw (g:qcq.V->Option (OT qc9)) (v:qcq.V):q10q tb (envL e23) 67 qd5 (q3q 3 (q4q Tryz.f23) .skip) qcq qc9 g v=qaN g v:=by kernel_rfl
theorem qmx (a_0:qaA):fnF tb (envL e23) Tryz.f23 qd5 c23.ps c23.rs (T:=qaA) (fun y=>(y.2.1)) (a_0,())=qea a_0:=by kernel_rfl
abbrev e49:List (Nat×Ctr):=[]
def qgt:LH
 | _=>none
theorem qkb (a_0:RAT):fnF tb (envL e49) Tryz.f49 qgt c49.ps c49.rs (T:=RAT) (fun y=>(y.2.1)) (a_0,())=qc6 a_0:=by kernel_rfl
abbrev e24:List (Nat×Ctr):=[(49,c49)]
def qfB:LH
 | 6=>some ⟨qco,qc7,lp qaX K0⟩
 | _=>none
theorem qmr (g:qco.V->Option (OT qc7)) (v:qco.V):q10q tb (envL e24) 32 qfB (q3q 3 (q4q Tryz.f24) .skip) qco qc7 g v=qaX g v:=by kernel_rfl
theorem qms (l_0:List CELL) (n_1:Int):fnF tb (envL e24) Tryz.f24 qfB c24.ps c24.rs (T:=(List CELL)) (fun y=>(y.2.1)) (l_0,n_1,())=qcJ l_0 n_1:=by kernel_rfl
abbrev e6:List (Nat×Ctr):=[(23,c23),(24,c24)]
def qhe:LH
 | _=>none
theorem qlp (m_0:qaA) (row_1:List CELL):fnF tb (envL e6) Tryz.f6 qhe c6.ps c6.rs (T:=qaA×(List CELL)) (fun y=>(y.2.1,y.2.2.1)) (m_0,row_1,())=qcG m_0 row_1:=by kernel_rfl
abbrev e74:List (Nat×Ctr):=[]
def qhy:LH
 | 18=>some ⟨qeZ,qf4,lp qb8 K0⟩
 | 8=>some ⟨qe0,qf5,lp qbm K0⟩
 | _=>none
theorem qrB (g:qeZ.V->Option (OT qf4)) (v:qeZ.V):q10q tb (envL e74) 72 qhy (q3q 9 (q4q Tryz.f74) .skip) qeZ qf4 g v=qb8 g v:=by kernel_rfl
theorem qrC (g:qe0.V->Option (OT qf5)) (v:qe0.V):q10q tb (envL e74) 72 qhy (q3q 4 (q4q Tryz.f74) .skip) qe0 qf5 g v=qbm g v:=by kernel_rfl
theorem qrD (a_0:qaA):fnF tb (envL e74) Tryz.f74 qhy c74.ps c74.rs (T:=Bool) (fun y=>(y.2.1)) (a_0,())=qjl a_0:=by kernel_rfl
abbrev e75:List (Nat×Ctr):=[]
def qhW:LH
 | 4=>some ⟨qdE,qey,lp qbc K0⟩
 | _=>none
theorem qo3 (g:qdE.V->Option (OT qey)) (v:qdE.V):q10q tb (envL e75) 52 qhW (q3q 2 (q4q Tryz.f75) .skip) qdE qey g v=qbc g v:=by kernel_rfl
theorem qo4 (t_0:List NODE) (features_1:Int):fnF tb (envL e75) Tryz.f75 qhW c75.ps c75.rs (T:=Int×Int) (fun y=>(y.2.1,y.2.2.1)) (t_0,features_1,())=qfC t_0 features_1:=by kernel_rfl
abbrev e76:List (Nat×Ctr):=[]
def qed:LH
 | 6=>some ⟨qee,qfb,lp qbW K0⟩
 | 20=>some ⟨qdD,qex,lp qaY K0⟩
 | 34=>some ⟨qdC,qew,lp qbX K0⟩
 | 50=>some ⟨qdB,qev,lp qbb K0⟩
 | _=>none
theorem qp8 (g:qee.V->Option (OT qfb)) (v:qee.V):q10q tb (envL e76) 103 qed (q3q 3 (q4q Tryz.f76) .skip) qee qfb g v=qbW g v:=by kernel_rfl
theorem qo1 (g:qdD.V->Option (OT qex)) (v:qdD.V):q10q tb (envL e76) 103 qed (q3q 10 (q4q Tryz.f76) .skip) qdD qex g v=qaY g v:=by kernel_rfl
theorem qo0 (g:qdC.V->Option (OT qew)) (v:qdC.V):q10q tb (envL e76) 103 qed (q3q 17 (q4q Tryz.f76) .skip) qdC qew g v=qbX g v:=by kernel_rfl
theorem qoZ (g:qdB.V->Option (OT qev)) (v:qdB.V):q10q tb (envL e76) 103 qed (q3q 25 (q4q Tryz.f76) .skip) qdB qev g v=qbb g v:=by kernel_rfl
theorem qp9 (a_0:List NODE):fnF tb (envL e76) Tryz.f76 qed c76.ps c76.rs (T:=Int×Int) (fun y=>(y.2.1,y.2.2.1)) (a_0,())=qhV a_0:=by kernel_rfl
abbrev e66:List (Nat×Ctr):=[]
def ql9:LH
 | 4=>some ⟨qgC,qh5,lp qd2 K0⟩
 | _=>none
theorem qud (g:qgC.V->Option (OT qh5)) (v:qgC.V):q10q tb (envL e66) 23 ql9 (q3q 2 (q4q Tryz.f66) .skip) qgC qh5 g v=qd2 g v:=by kernel_rfl
theorem que (a_0:List Int):fnF tb (envL e66) Tryz.f66 ql9 c66.ps c66.rs (T:=(List Int)) (fun y=>(y.2.1)) (a_0,())=qep a_0:=by kernel_rfl
abbrev e40:List (Nat×Ctr):=[(66,c66)]
def qs4:LH
 | _=>none
theorem qxQ (n_0:Int):fnF tb (envL e40) Tryz.f40 qs4 c40.ps c40.rs (T:=(List Int)) (fun y=>(y.2.1)) (n_0,())=qkG n_0:=by kernel_rfl
abbrev e16:List (Nat×Ctr):=[(40,c40)]
def qmJ:LH
 | _=>none
theorem qrk :fnF tb (envL e16) Tryz.f16 qmJ c16.ps c16.rs (T:=RAT) (fun y=>(y.2.1)) ()=qej :=by kernel_rfl
abbrev e60:List (Nat×Ctr):=[(66,c66)]
def qkI:LH
 | 6=>some ⟨qfQ,qg1,lp qdj K0⟩
 | _=>none
theorem qs6 (g:qfQ.V->Option (OT qg1)) (v:qfQ.V):q10q tb (envL e60) 24 qkI (q3q 3 (q4q Tryz.f60) .skip) qfQ qg1 g v=qdj g v:=by kernel_rfl
theorem qs7 (a_0:List Int):fnF tb (envL e60) Tryz.f60 qkI c60.ps c60.rs (T:=(List Int)) (fun y=>(y.2.1)) (a_0,())=qb7 a_0:=by kernel_rfl
abbrev e92:List (Nat×Ctr):=[]
def qkC:LH
 | 12=>some ⟨qfM,qgX,lp qcT K0⟩
 | _=>none
theorem qsV (g:qfM.V->Option (OT qgX)) (v:qfM.V):q10q tb (envL e92) 45 qkC (q3q 6 (q4q Tryz.f92) .skip) qfM qgX g v=qcT g v:=by kernel_rfl
theorem qsW (a_0:List Int) (b_1:List Int):fnF tb (envL e92) Tryz.f92 qkC c92.ps c92.rs (T:=Int) (fun y=>(y.2.1)) (a_0,b_1,())=qgY a_0 b_1:=by kernel_rfl
abbrev e121:List (Nat×Ctr):=[(60,c60)]
def qs3:LH
 | _=>none
theorem qxP (a_0:List Int):fnF tb (envL e121) Tryz.f121 qs3 c121.ps c121.rs (T:=Int×Bool) (fun y=>(y.2.1,y.2.2.1)) (a_0,())=qqE a_0:=by kernel_rfl
abbrev e97:List (Nat×Ctr):=[(40,c40),(121,c121)]
def qjL:LH
 | 6=>some ⟨qeW,qf3,lp qdi K0⟩
 | _=>none
theorem qrv (g:qeW.V->Option (OT qf3)) (v:qeW.V):q10q tb (envL e97) 27 qjL (q3q 3 (q4q Tryz.f97) .skip) qeW qf3 g v=qdi g v:=by kernel_rfl
theorem qrw (a_0:List Int) (b_1:List Int):fnF tb (envL e97) Tryz.f97 qjL c97.ps c97.rs (T:=(List Int)) (fun y=>(y.2.1)) (a_0,b_1,())=qjg a_0 b_1:=by kernel_rfl
abbrev e98:List (Nat×Ctr):=[(122,c122)]
def qkz:LH
 | 6=>some ⟨qfK,qgV,lp qdW K0⟩
 | _=>none
theorem qsP (g:qfK.V->Option (OT qgV)) (v:qfK.V):q10q tb (envL e98) 24 qkz (q3q 3 (q4q Tryz.f98) .skip) qfK qgV g v=qdW g v:=by kernel_rfl
theorem qsQ (a_0:List Int):fnF tb (envL e98) Tryz.f98 qkz c98.ps c98.rs (T:=Int) (fun y=>(y.2.1)) (a_0,())=qcj a_0:=by kernel_rfl
abbrev e105:List (Nat×Ctr):=[]
def qpE:LH
 | _=>none
theorem qum (a_0:List Int) (i_1:Int):fnF tb (envL e105) Tryz.f105 qpE c105.ps c105.rs (T:=Int) (fun y=>(y.2.1)) (a_0,i_1,())=qgO a_0 i_1:=by kernel_rfl
abbrev e99:List (Nat×Ctr):=[(66,c66),(105,c105)]
def qnD:LH
 | 12=>some ⟨qhP,qje,lp qeU K0⟩
 | _=>none
theorem qwd (g:qhP.V->Option (OT qje)) (v:qhP.V):q10q tb (envL e99) 50 qnD (q3q 6 (q4q Tryz.f99) .skip) qhP qje g v=qeU g v:=by kernel_rfl
theorem qwe (a_0:List Int) (n_1:Int):fnF tb (envL e99) Tryz.f99 qnD c99.ps c99.rs (T:=(List Int)) (fun y=>(y.2.1)) (a_0,n_1,())=qd3 a_0 n_1:=by kernel_rfl
abbrev e100:List (Nat×Ctr):=[(66,c66)]
def qnE:LH
 | 8=>some ⟨qhQ,qjf,lp qeV K0⟩
 | _=>none
theorem qwg (g:qhQ.V->Option (OT qjf)) (v:qhQ.V):q10q tb (envL e100) 51 qnE (q3q 4 (q4q Tryz.f100) .skip) qhQ qjf g v=qeV g v:=by kernel_rfl
theorem qwh (a_0:List Int) (n_1:Int):fnF tb (envL e100) Tryz.f100 qnE c100.ps c100.rs (T:=(List Int)) (fun y=>(y.2.1)) (a_0,n_1,())=qh7 a_0 n_1:=by kernel_rfl
abbrev e103:List (Nat×Ctr):=[(66,c66)]
def qkA:LH
 | 8=>some ⟨qfL,qgW,lp qdX K0⟩
 | _=>none
theorem qsS (g:qfL.V->Option (OT qgW)) (v:qfL.V):q10q tb (envL e103) 38 qkA (q3q 4 (q4q Tryz.f103) .skip) qfL qgW g v=qdX g v:=by kernel_rfl
theorem qsT (a_0:List Int) (d_1:Int):fnF tb (envL e103) Tryz.f103 qkA c103.ps c103.rs (T:=(List Int)×Int) (fun y=>(y.2.1,y.2.2.1)) (a_0,d_1,())=qkB a_0 d_1:=by kernel_rfl
abbrev e123:List (Nat×Ctr):=[(129,c129)]
def qgv:LH
 | _=>none
theorem qkd (x_0:Int):fnF tb (envL e123) Tryz.f123 qgv c123.ps c123.rs (T:=Int) (fun y=>(y.2.1)) (x_0,())=qda x_0:=by kernel_rfl
abbrev e130:List (Nat×Ctr):=[(105,c105)]
def qma:LH
 | 6=>some ⟨qgD,qh6,lp qeI K0⟩
 | _=>none
theorem qug (g:qgD.V->Option (OT qh6)) (v:qgD.V):q10q tb (envL e130) 46 qma (q3q 3 (q4q Tryz.f130) .skip) qgD qh6 g v=qeI g v:=by kernel_rfl
theorem quh (u_0:List Int) (v_1:List Int) (times_2:Int):fnF tb (envL e130) Tryz.f130 qma c130.ps c130.rs (T:=(List Int)×Bool) (fun y=>(y.1.1,y.2.1)) (u_0,v_1,times_2,())=qmY u_0 v_1 times_2:=by kernel_rfl
abbrev e131:List (Nat×Ctr):=[(105,c105)]
def qmc:LH
 | 4=>some ⟨qgF,qh9,lp qeJ K0⟩
 | _=>none
theorem qup (g:qgF.V->Option (OT qh9)) (v:qgF.V):q10q tb (envL e131) 29 qmc (q3q 2 (q4q Tryz.f131) .skip) qgF qh9 g v=qeJ g v:=by kernel_rfl
theorem quq (u_0:List Int) (v_1:List Int):fnF tb (envL e131) Tryz.f131 qmc c131.ps c131.rs (T:=(List Int)) (fun y=>(y.1.1)) (u_0,v_1,())=qm2 u_0 v_1:=by kernel_rfl
abbrev e124:List (Nat×Ctr):=[(130,c130),(131,c131)]
def qkE:LH
 | 8=>some ⟨qfO,qg0,lp qbL K0⟩
 | _=>none
theorem qs1 (g:qfO.V->Option (OT qg0)) (v:qfO.V):q10q tb (envL e124) 77 qkE (q3q 4 (q4q Tryz.f124) .skip) qfO qg0 g v=qbL g v:=by kernel_rfl
theorem qs2 (a_0:List Int) (a_1:List Int):fnF tb (envL e124) Tryz.f124 qkE c124.ps c124.rs (T:=(List Int)×Int) (fun y=>(y.1.1,y.2.1)) (a_0,a_1,())=qjh a_0 a_1:=by kernel_rfl
abbrev e104:List (Nat×Ctr):=[(66,c66),(99,c99),(100,c100),(123,c123),(124,c124)]
def qmb:LH
 | 14=>some ⟨qgE,qh8,lp qd4 K0⟩
 | _=>none
theorem quk (g:qgE.V->Option (OT qh8)) (v:qgE.V):q10q tb (envL e104) 64 qmb (q3q 7 (q4q Tryz.f104) .skip) qgE qh8 g v=qd4 g v:=by kernel_rfl
theorem qul (a_0:List Int) (b_1:List Int):fnF tb (envL e104) Tryz.f104 qmb c104.ps c104.rs (T:=(List Int)×(List Int)) (fun y=>(y.2.1,y.2.2.1)) (a_0,b_1,())=qm1 a_0 b_1:=by kernel_rfl
abbrev e68:List (Nat×Ctr):=[(40,c40),(60,c60),(92,c92),(103,c103),(104,c104)]
def qm3:LH
 | _=>none
theorem qrx (a_0:List Int) (b_1:List Int):fnF tb (envL e68) Tryz.f68 qm3 c68.ps c68.rs (T:=(List Int)×(List Int)×Int) (fun y=>(y.2.1,y.2.2.1,y.2.2.2.1)) (a_0,b_1,())=qeY a_0 b_1:=by kernel_rfl
abbrev e101:List (Nat×Ctr):=[(68,c68)]
def qpD:LH
 | _=>none
theorem qui (a_0:List Int) (b_1:List Int):fnF tb (envL e101) Tryz.f101 qpD c101.ps c101.rs (T:=(List Int)×(List Int)) (fun y=>(y.2.1,y.2.2.1)) (a_0,b_1,())=qis a_0 b_1:=by kernel_rfl
abbrev e102:List (Nat×Ctr):=[(66,c66),(105,c105)]
def qkD:LH
 | 8=>some ⟨qfN,qgZ,lp qdY K0⟩
 | _=>none
theorem qsY (g:qfN.V->Option (OT qgZ)) (v:qfN.V):q10q tb (envL e102) 39 qkD (q3q 4 (q4q Tryz.f102) .skip) qfN qgZ g v=qdY g v:=by kernel_rfl
theorem qsZ (a_0:List Int) (b_1:List Int):fnF tb (envL e102) Tryz.f102 qkD c102.ps c102.rs (T:=(List Int)) (fun y=>(y.2.1)) (a_0,b_1,())=qf2 a_0 b_1:=by kernel_rfl
abbrev e67:List (Nat×Ctr):=[(60,c60),(92,c92),(97,c97),(98,c98),(99,c99),(100,c100),(101,c101),(102,c102)]
def qnF:LH
 | 20=>some ⟨qgG,qia,lp qb6 K0⟩
 | _=>none
theorem qus (g:qgG.V->Option (OT qia)) (v:qgG.V):q10q tb (envL e67) 86 qnF (q3q 10 (q4q Tryz.f67) .skip) qgG qia g v=qb6 g v:=by kernel_rfl
theorem qwo (a_0:List Int) (a_1:List Int):fnF tb (envL e67) Tryz.f67 qnF c67.ps c67.rs (T:=(List Int)) (fun y=>(y.2.1)) (a_0,a_1,())=qpF a_0 a_1:=by kernel_rfl
abbrev e41:List (Nat×Ctr):=[(40,c40),(67,c67),(68,c68)]
def qmI:LH
 | _=>none
theorem qrj (num_0:WH) (den_1:List Int):fnF tb (envL e41) Tryz.f41 qmI c41.ps c41.rs (T:=RAT) (fun y=>(y.2.1)) (num_0,den_1,())=qei num_0 den_1:=by kernel_rfl
abbrev e63:List (Nat×Ctr):=[]
def qmA:LH
 | _=>none
theorem qq1 (neg_0:Bool) (abs_1:List Int):fnF tb (envL e63) Tryz.f63 qmA c63.ps c63.rs (T:=WH) (fun y=>(y.2.1)) (neg_0,abs_1,())=qdA neg_0 abs_1:=by kernel_rfl
abbrev e61:List (Nat×Ctr):=[(60,c60),(63,c63)]
def qlV:LH
 | _=>none
theorem qp6 (a_0:WH):fnF tb (envL e61) Tryz.f61 qlV c61.ps c61.rs (T:=WH) (fun y=>(y.2.1)) (a_0,())=qbA a_0:=by kernel_rfl
abbrev e35:List (Nat×Ctr):=[(16,c16),(41,c41),(60,c60),(61,c61)]
def qlZ:LH
 | _=>none
theorem qqg (a_0:RAT):fnF tb (envL e35) Tryz.f35 qlZ c35.ps c35.rs (T:=RAT) (fun y=>(y.2.1)) (a_0,())=qbB a_0:=by kernel_rfl
abbrev e80:List (Nat×Ctr):=[(61,c61)]
def qmB:LH
 | _=>none
theorem qq2 (a_0:WH):fnF tb (envL e80) Tryz.f80 qmB c80.ps c80.rs (T:=Int) (fun y=>(y.2.1)) (a_0,())=qhI a_0:=by kernel_rfl
abbrev e110:List (Nat×Ctr):=[(35,c35),(80,c80)]
def qmL:LH
 | _=>none
theorem qrl (a_0:RAT):fnF tb (envL e110) Tryz.f110 qmL c110.ps c110.rs (T:=Int) (fun y=>(y.2.1)) (a_0,())=qhL a_0:=by kernel_rfl
abbrev e77:List (Nat×Ctr):=[(110,c110)]
def qhX:LH
 | 4=>some ⟨qdF,qez,lp qbd K0⟩
 | _=>none
theorem qo6 (g:qdF.V->Option (OT qez)) (v:qdF.V):q10q tb (envL e77) 19 qhX (q3q 2 (q4q Tryz.f77) .skip) qdF qez g v=qbd g v:=by kernel_rfl
theorem qo7 (t_0:List NODE):fnF tb (envL e77) Tryz.f77 qhX c77.ps c77.rs (T:=Int×Int) (fun y=>(y.2.1,y.2.2.1)) (t_0,())=qfD t_0:=by kernel_rfl
abbrev e62:List (Nat×Ctr):=[(60,c60),(92,c92)]
def qqG:LH
 | _=>none
theorem qwp (a_0:List Int) (b_1:List Int):fnF tb (envL e62) Tryz.f62 qqG c62.ps c62.rs (T:=Int) (fun y=>(y.2.1)) (a_0,b_1,())=qhk a_0 b_1:=by kernel_rfl
abbrev e36:List (Nat×Ctr):=[(61,c61),(62,c62)]
def qn5:LH
 | _=>none
theorem qr4 (a_0:WH) (b_1:WH):fnF tb (envL e36) Tryz.f36 qn5 c36.ps c36.rs (T:=Int) (fun y=>(y.2.1)) (a_0,b_1,())=qkg a_0 b_1:=by kernel_rfl
abbrev e43:List (Nat×Ctr):=[(60,c60),(66,c66)]
def qlx:LH
 | 16=>some ⟨qhR,qji,lp qeX K0⟩
 | 8=>some ⟨qhS,qjj,lp qfP K0⟩
 | _=>none
theorem qwl (g:qhR.V->Option (OT qji)) (v:qhR.V):q10q tb (envL e43) 67 qlx (q3q 8 (q4q Tryz.f43) .skip) qhR qji g v=qeX g v:=by kernel_rfl
theorem qwm (g:qhS.V->Option (OT qjj)) (v:qhS.V):q10q tb (envL e43) 67 qlx (q3q 4 (q4q Tryz.f43) .skip) qhS qjj g v=qfP g v:=by kernel_rfl
theorem qwn (a_0:List Int) (a_1:List Int):fnF tb (envL e43) Tryz.f43 qlx c43.ps c43.rs (T:=(List Int)) (fun y=>(y.2.1)) (a_0,a_1,())=qkH a_0 a_1:=by kernel_rfl
abbrev e37:List (Nat×Ctr):=[(43,c43),(61,c61),(63,c63)]
def qn4:LH
 | _=>none
theorem qr3 (a_0:WH) (b_1:WH):fnF tb (envL e37) Tryz.f37 qn4 c37.ps c37.rs (T:=WH) (fun y=>(y.2.1)) (a_0,b_1,())=qfa a_0 b_1:=by kernel_rfl
abbrev e38:List (Nat×Ctr):=[]
def qoc:LH
 | _=>none
theorem qso (a_0:RAT):fnF tb (envL e38) Tryz.f38 qoc c38.ps c38.rs (T:=WH) (fun y=>(y.2.1)) (a_0,())=qfg a_0:=by kernel_rfl
abbrev e13:List (Nat×Ctr):=[(35,c35),(36,c36),(37,c37),(38,c38)]
def qom:LH
 | _=>none
theorem qsB (a_0:RAT) (b_1:RAT):fnF tb (envL e13) Tryz.f13 qom c13.ps c13.rs (T:=Int) (fun y=>(y.2.1)) (a_0,b_1,())=qi1 a_0 b_1:=by kernel_rfl
abbrev e17:List (Nat×Ctr):=[(13,c13)]
def qmM:LH
 | _=>none
theorem qrn (a_0:RAT) (b_1:RAT):fnF tb (envL e17) Tryz.f17 qmM c17.ps c17.rs (T:=Bool) (fun y=>(y.2.1)) (a_0,b_1,())=qhM a_0 b_1:=by kernel_rfl
abbrev e69:List (Nat×Ctr):=[(60,c60),(66,c66),(105,c105)]
def qnG:LH
 | 10=>some ⟨qhT,qjk,lp qfR K0⟩
 | _=>none
theorem qwr (g:qhT.V->Option (OT qjk)) (v:qhT.V):q10q tb (envL e69) 43 qnG (q3q 5 (q4q Tryz.f69) .skip) qhT qjk g v=qfR g v:=by kernel_rfl
theorem qws (a_0:List Int) (b_1:List Int):fnF tb (envL e69) Tryz.f69 qnG c69.ps c69.rs (T:=(List Int)) (fun y=>(y.2.1)) (a_0,b_1,())=qnH a_0 b_1:=by kernel_rfl
abbrev e70:List (Nat×Ctr):=[(60,c60),(92,c92),(102,c102)]
def qqF:LH
 | _=>none
theorem qwi (a_0:List Int) (b_1:List Int):fnF tb (envL e70) Tryz.f70 qqF c70.ps c70.rs (T:=(List Int)×Int) (fun y=>(y.2.1,y.2.2.1)) (a_0,b_1,())=qkF a_0 b_1:=by kernel_rfl
abbrev e42:List (Nat×Ctr):=[(61,c61),(62,c62),(63,c63),(69,c69),(70,c70)]
def qn6:LH
 | _=>none
theorem qr5 (a_0:WH) (b_1:WH):fnF tb (envL e42) Tryz.f42 qn6 c42.ps c42.rs (T:=WH) (fun y=>(y.2.1)) (a_0,b_1,())=qkh a_0 b_1:=by kernel_rfl
abbrev e19:List (Nat×Ctr):=[(35,c35),(37,c37),(38,c38),(41,c41),(42,c42),(43,c43)]
def qon:LH
 | _=>none
theorem qsC (a_0:RAT) (b_1:RAT):fnF tb (envL e19) Tryz.f19 qon c19.ps c19.rs (T:=RAT) (fun y=>(y.2.1)) (a_0,b_1,())=qdf a_0 b_1:=by kernel_rfl
abbrev e78:List (Nat×Ctr):=[(17,c17),(19,c19)]
def qjs:LH
 | 4=>some ⟨qeR,qfT,lp qbz K0⟩
 | _=>none
theorem qq4 (g:qeR.V->Option (OT qfT)) (v:qeR.V):q10q tb (envL e78) 37 qjs (q3q 2 (q4q Tryz.f78) .skip) qeR qfT g v=qbz g v:=by kernel_rfl
theorem qq5 (t_0:List NODE):fnF tb (envL e78) Tryz.f78 qjs c78.ps c78.rs (T:=Int×Int) (fun y=>(y.2.1,y.2.2.1)) (t_0,())=qhJ t_0:=by kernel_rfl
abbrev e79:List (Nat×Ctr):=[]
def qlW:LH
 | _=>none
theorem qqa (e_0:Int) (tree_1:Int) (node_2:Int):fnF tb (envL e79) Tryz.f79 qlW c79.ps c79.rs (T:=(Int×Int×Int×Int)) (fun y=>(y.2.1)) (e_0,tree_1,node_2,())=qfw e_0 tree_1 node_2:=by kernel_rfl
abbrev e50:List (Nat×Ctr):=[(74,c74),(75,c75),(76,c76),(77,c77),(78,c78),(79,c79)]
def qgN:LH
 | 14=>some ⟨qef,qfc,lp qaE K0⟩
 | 8=>some ⟨qeg,qfd,lp qbx K0⟩
 | _=>none
theorem qqd (g:qef.V->Option (OT qfc)) (v:qef.V):q10q tb (envL e50) 63 qgN (q3q 7 (q4q Tryz.f50) .skip) qef qfc g v=qaE g v:=by kernel_rfl
theorem qqe (g:qeg.V->Option (OT qfd)) (v:qeg.V):q10q tb (envL e50) 63 qgN (q3q 4 (q4q Tryz.f50) .skip) qeg qfd g v=qbx g v:=by kernel_rfl
theorem qqf (m_0:qaA):fnF tb (envL e50) Tryz.f50 qgN c50.ps c50.rs (T:=(Int×Int×Int×Int)) (fun y=>(y.2.1)) (m_0,())=qgx m_0:=by kernel_rfl
abbrev e25:List (Nat×Ctr):=[(50,c50)]
def qo8:LH
 | _=>none
theorem qtO (m_0:qaA):fnF tb (envL e25) Tryz.f25 qo8 c25.ps c25.rs (T:=Bool) (fun y=>(y.2.1)) (m_0,())=qen m_0:=by kernel_rfl
abbrev e7:List (Nat×Ctr):=[(25,c25)]
def qij:LH
 | _=>none
theorem qmp (m_0:qaA) (row_1:List CELL):fnF tb (envL e7) Tryz.f7 qij c7.ps c7.rs (T:=Int) (fun y=>(y.2.1)) (m_0,row_1,())=qfv m_0 row_1:=by kernel_rfl
abbrev e44:List (Nat×Ctr):=[(25,c25)]
def qmF:LH
 | _=>none
theorem qrg (m_0:qaA) (row_1:List CELL):fnF tb (envL e44) Tryz.f44 qmF c44.ps c44.rs (T:=Int) (fun y=>(y.2.1)) (m_0,row_1,())=qeh m_0 row_1:=by kernel_rfl
abbrev e29:List (Nat×Ctr):=[(44,c44)]
def qmH:LH
 | _=>none
theorem qri (m_0:qaA) (row_1:List CELL):fnF tb (envL e29) Tryz.f29 qmH c29.ps c29.rs (T:=Int) (fun y=>(y.2.1)) (m_0,row_1,())=qca m_0 row_1:=by kernel_rfl
abbrev e73:List (Nat×Ctr):=[(61,c61),(63,c63)]
def qn3:LH
 | _=>none
theorem qr2 (a_0:WH):fnF tb (envL e73) Tryz.f73 qn3 c73.ps c73.rs (T:=WH) (fun y=>(y.2.1)) (a_0,())=qiI a_0:=by kernel_rfl
abbrev e47:List (Nat×Ctr):=[(35,c35),(73,c73)]
def qog:LH
 | _=>none
theorem qsv (a_0:RAT):fnF tb (envL e47) Tryz.f47 qog c47.ps c47.rs (T:=RAT) (fun y=>(y.2.1)) (a_0,())=qh0 a_0:=by kernel_rfl
abbrev e22:List (Nat×Ctr):=[(19,c19),(47,c47)]
def qod:LH
 | _=>none
theorem qst (a_0:RAT) (b_1:RAT):fnF tb (envL e22) Tryz.f22 qod c22.ps c22.rs (T:=RAT) (fun y=>(y.2.1)) (a_0,b_1,())=qgS a_0 b_1:=by kernel_rfl
abbrev e51:List (Nat×Ctr):=[(40,c40),(63,c63)]
def qoV:LH
 | _=>none
theorem qtN (n_0:Int):fnF tb (envL e51) Tryz.f51 qoV c51.ps c51.rs (T:=WH) (fun y=>(y.2.1)) (n_0,())=qio n_0:=by kernel_rfl
abbrev e52:List (Nat×Ctr):=[(41,c41),(61,c61),(73,c73),(80,c80)]
def qmO:LH
 | _=>none
theorem qro (num_0:WH) (den_1:WH):fnF tb (envL e52) Tryz.f52 qmO c52.ps c52.rs (T:=RAT×Int) (fun y=>(y.2.1,y.2.2.1)) (num_0,den_1,())=qhN num_0 den_1:=by kernel_rfl
abbrev e28:List (Nat×Ctr):=[(35,c35),(51,c51),(52,c52)]
def qmQ:LH
 | _=>none
theorem qrp (n_0:Int) (d_1:Int):fnF tb (envL e28) Tryz.f28 qmQ c28.ps c28.rs (T:=RAT) (fun y=>(y.2.1)) (n_0,d_1,())=qcV n_0 d_1:=by kernel_rfl
abbrev e64:List (Nat×Ctr):=[(16,c16)]
def qgA:LH
 | 6=>some ⟨qcW,qdI,lp qbh K0⟩
 | _=>none
theorem qnA (g:qcW.V->Option (OT qdI)) (v:qcW.V):q10q tb (envL e64) 13 qgA (q3q 3 (q4q Tryz.f64) .skip) qcW qdI g v=qbh g v:=by kernel_rfl
theorem qnB (n_0:Int):fnF tb (envL e64) Tryz.f64 qgA c64.ps c64.rs (T:=(List RAT)) (fun y=>(y.2.1)) (n_0,())=qfh n_0:=by kernel_rfl
abbrev e27:List (Nat×Ctr):=[(40,c40),(51,c51)]
def qpo:LH
 | _=>none
theorem qt4 (n_0:Int):fnF tb (envL e27) Tryz.f27 qpo c27.ps c27.rs (T:=RAT) (fun y=>(y.2.1)) (n_0,())=qiq n_0:=by kernel_rfl
abbrev e26:List (Nat×Ctr):=[(27,c27)]
def qoe:LH
 | _=>none
theorem qsu :fnF tb (envL e26) Tryz.f26 qoe c26.ps c26.rs (T:=RAT) (fun y=>(y.2.1)) ()=qfY :=by kernel_rfl
abbrev e93:List (Nat×Ctr):=[(26,c26)]
def qkr:LH
 | _=>none
theorem qpx :fnFB tb (envL e93) Tryz.f93 qkr w93 c93.ps c93.rs (T:=(List (Int×RAT×CELL))) (fun y=>(y.2.1)) ()=qgU :=by kernel_rfl
abbrev e54:List (Nat×Ctr):=[(35,c35),(37,c37),(41,c41),(43,c43)]
def qoh:LH
 | _=>none
theorem qsw (a_0:RAT) (b_1:RAT):fnF tb (envL e54) Tryz.f54 qoh c54.ps c54.rs (T:=RAT) (fun y=>(y.2.1)) (a_0,b_1,())=qat a_0 b_1:=by kernel_rfl
abbrev e114:List (Nat×Ctr):=[]
def qeE:LH
 | 8=>some ⟨qbJ,qcs,lp qal K0⟩
 | _=>none
theorem qko (g:qbJ.V->Option (OT qcs)) (v:qbJ.V):q10q tb (envL e114) 29 qeE (q3q 4 (q4q Tryz.f114) .skip) qbJ qcs g v=qal g v:=by kernel_rfl
theorem qkp (feature_0:Int) (b_1:List (Int×RAT×CELL)):fnFB tb (envL e114) Tryz.f114 qeE w114 c114.ps c114.rs (T:=Int×(List (Int×RAT×CELL))) (fun y=>(y.2.1,y.2.2.1)) (feature_0,b_1,())=qbt feature_0 b_1:=by kernel_rfl
abbrev e115:List (Nat×Ctr):=[]
def qem:LH
 | 10=>some ⟨qbw,qci,lp qaC K0⟩
 | _=>none
theorem qj8 (g:qbw.V->Option (OT qci)) (v:qbw.V):q10q tb (envL e115) 32 qem (q3q 5 (q4q Tryz.f115) .skip) qbw qci g v=qaC g v:=by kernel_rfl
theorem qj9 (b_0:List (Int×RAT×CELL)):fnFB tb (envL e115) Tryz.f115 qem w115 c115.ps c115.rs (T:=(List PART)×(List (Int×RAT×CELL))) (fun y=>(y.2.1,y.2.2.1)) (b_0,())=qck b_0:=by kernel_rfl
abbrev e128:List (Nat×Ctr):=[(35,c35),(38,c38),(52,c52)]
def qoj:LH
 | _=>none
theorem qsx (a_0:RAT):fnF tb (envL e128) Tryz.f128 qoj c128.ps c128.rs (T:=RAT×Int) (fun y=>(y.2.1,y.2.2.1)) (a_0,())=qiZ a_0:=by kernel_rfl
abbrev e127:List (Nat×Ctr):=[(22,c22),(28,c28),(54,c54),(128,c128)]
def qdK:LH
 | 14=>some ⟨qa8,qbH,lp qap K0⟩
 | _=>none
theorem qi6 (g:qa8.V->Option (OT qbH)) (v:qa8.V):q10q tb (envL e127) 104 qdK (q3q 7 (q4q Tryz.f127) .skip) qa8 qbH g v=qap g v:=by kernel_rfl
theorem qi7 (a_0:Int) (b_1:List (Int×RAT×CELL)):fnFB tb (envL e127) Tryz.f127 qdK w127 c127.ps c127.rs (T:=(List RAT)×(List (Int×RAT×CELL))) (fun y=>(y.2.1,y.2.2.1)) (a_0,b_1,())=qbI a_0 b_1:=by kernel_rfl
abbrev e116:List (Nat×Ctr):=[(127,c127)]
def qd0:LH
 | 16=>some ⟨qbl,qb4,lp qaw K0⟩
 | _=>none
theorem qjF (g:qbl.V->Option (OT qb4)) (v:qbl.V):q10q tb (envL e116) 66 qd0 (q3q 8 (q4q Tryz.f116) .skip) qbl qb4 g v=qaw g v:=by kernel_rfl
theorem qjG (a_0:Int) (b_1:List (Int×RAT×CELL)):fnFB tb (envL e116) Tryz.f116 qd0 w116 c116.ps c116.rs (T:=Int×(List (Int×RAT×CELL))) (fun y=>(y.2.1,y.2.2.1)) (a_0,b_1,())=qcc a_0 b_1:=by kernel_rfl
abbrev e117:List (Nat×Ctr):=[(16,c16),(19,c19),(28,c28),(35,c35),(54,c54),(110,c110),(114,c114)]
def qd1:LH
 | 20=>some ⟨qa9,qbK,lp qaq K0⟩
 | _=>none
theorem qi9 (g:qa9.V->Option (OT qbK)) (v:qa9.V):q10q tb (envL e117) 113 qd1 (q3q 10 (q4q Tryz.f117) .skip) qa9 qbK g v=qaq g v:=by kernel_rfl
theorem qjH (a_0:Int) (a_1:RAT) (a_2:Bool) (b_3:List (Int×RAT×CELL)):fnFB tb (envL e117) Tryz.f117 qd1 w117 c117.ps c117.rs (T:=Int×(List (Int×RAT×CELL))) (fun y=>(y.2.1,y.2.2.1)) (a_0,a_1,a_2,b_3,())=qaO a_0 a_1 a_2 b_3:=by kernel_rfl
abbrev e94:List (Nat×Ctr):=[(54,c54),(114,c114),(115,c115),(116,c116),(117,c117)]
def qgl:LH
 | _=>none
theorem qj6 (b_0:Int) (b_1:Bool) (b_2:List Int) (b_3:List Int) (b_4:Int) (b_5:Bool) (b_6:List Int) (b_7:List Int) (b_8:Bool) (b_9:List (Int×RAT×CELL)):fnFB tb (envL e94) Tryz.f94 qgl w94 c94.ps c94.rs (T:=Int×Bool×(List Int)×(List Int)×Int×Bool×(List Int)×(List Int)×Bool×(List (Int×RAT×CELL))) (fun y=>(y.2.1,y.2.2.1,y.2.2.2.1,y.2.2.2.2.1,y.2.2.2.2.2.1,y.2.2.2.2.2.2.1,y.2.2.2.2.2.2.2.1,y.2.2.2.2.2.2.2.2.1,y.2.2.2.2.2.2.2.2.2.1,y.2.2.2.2.2.2.2.2.2.2.1)) (b_0,b_1,b_2,b_3,b_4,b_5,b_6,b_7,b_8,b_9,())=qaU b_0 b_1 b_2 b_3 b_4 b_5 b_6 b_7 b_8 b_9:=by kernel_rfl
abbrev e18:List (Nat×Ctr):=[(16,c16),(19,c19)]
def qkl:LH
 | 6=>some ⟨qfE,qgR,lp qde K0⟩
 | _=>none
theorem qsr (g:qfE.V->Option (OT qgR)) (v:qfE.V):q10q tb (envL e18) 18 qkl (q3q 3 (q4q Tryz.f18) .skip) qfE qgR g v=qde g v:=by kernel_rfl
theorem qss (l_0:List RAT):fnF tb (envL e18) Tryz.f18 qkl c18.ps c18.rs (T:=RAT) (fun y=>(y.2.1)) (l_0,())=qiY l_0:=by kernel_rfl
abbrev e118:List (Nat×Ctr):=[(18,c18),(127,c127)]
def qhp:LH
 | _=>none
theorem qlE (at_0:Int) (b_1:List (Int×RAT×CELL)):fnFB tb (envL e118) Tryz.f118 qhp w118 c118.ps c118.rs (T:=RAT×Int×(List (Int×RAT×CELL))) (fun y=>(y.2.1,y.2.2.1,y.2.2.2.1)) (at_0,b_1,())=qdL at_0 b_1:=by kernel_rfl
abbrev e95:List (Nat×Ctr):=[(19,c19),(26,c26),(47,c47),(54,c54),(115,c115),(118,c118)]
def qdZ:LH
 | 6=>some ⟨qbk,qb2,lp qas K0⟩
 | _=>none
theorem qjC (g:qbk.V->Option (OT qb2)) (v:qbk.V):q10q tb (envL e95) 69 qdZ (q3q 3 (q4q Tryz.f95) .skip) qbk qb2 g v=qas g v:=by kernel_rfl
theorem qjD (a_0:Int) (a_1:Bool) (a_2:List Int) (a_3:List Int) (a_4:Int) (a_5:Bool) (a_6:List Int) (a_7:List Int) (a_8:Bool) (b_9:List NODE) (b_10:List CELL) (b_11:Int) (b_12:Bool) (b_13:List RAT) (b_14:List (Int×RAT×CELL)):fnFB tb (envL e95) Tryz.f95 qdZ w95 c95.ps c95.rs (T:=(List RAT)×(List NODE)×(List CELL)×Int×Bool×(List (Int×RAT×CELL))) (fun y=>(y.1.1,y.2.1,y.2.2.1,y.2.2.2.1,y.2.2.2.2.1,y.2.2.2.2.2.1)) (a_0,a_1,a_2,a_3,a_4,a_5,a_6,a_7,a_8,b_9,b_10,b_11,b_12,b_13,b_14,())=qbr a_0 a_1 a_2 a_3 a_4 a_5 a_6 a_7 a_8 b_9 b_10 b_11 b_12 b_13 b_14:=by kernel_rfl
abbrev e106:List (Nat×Ctr):=[(13,c13)]
def qmE:LH
 | _=>none
theorem qrf (n_0:NODE) (c_1:CELL):fnF tb (envL e106) Tryz.f106 qmE c106.ps c106.rs (T:=Bool) (fun y=>(y.2.1)) (n_0,c_1,())=qiU n_0 c_1:=by kernel_rfl
abbrev e109:List (Nat×Ctr):=[(106,c106)]
def qmG:LH
 | _=>none
theorem qrh (n_0:NODE) (c_1:CELL):fnF tb (envL e109) Tryz.f109 qmG c109.ps c109.rs (T:=Bool) (fun y=>(y.2.1)) (n_0,c_1,())=qiV n_0 c_1:=by kernel_rfl
abbrev e119:List (Nat×Ctr):=[(54,c54),(128,c128)]
def qok:LH
 | _=>none
theorem qsA (a_0:RAT) (b_1:RAT):fnF tb (envL e119) Tryz.f119 qok c119.ps c119.rs (T:=RAT×Int) (fun y=>(y.2.1,y.2.2.1)) (a_0,b_1,())=qi0 a_0 b_1:=by kernel_rfl
abbrev e120:List (Nat×Ctr):=[]
def qgT:LH
 | _=>none
theorem qkq (b_0:List (Int×RAT×CELL)):fnFB tb (envL e120) Tryz.f120 qgT w120 c120.ps c120.rs (T:=(List (Int×RAT×CELL))×(List (Int×RAT×CELL))) (fun y=>(y.2.1,y.2.2.1)) (b_0,())=qdg b_0:=by kernel_rfl
abbrev e96:List (Nat×Ctr):=[(54,c54),(109,c109),(119,c119),(120,c120)]
def qfF:LH
 | _=>none
theorem qi2 (a_0:Int) (a_1:Bool) (a_2:List Int) (a_3:List Int) (a_4:Int) (a_5:Bool) (a_6:List Int) (a_7:List Int) (a_8:Bool) (a_9:Int) (a_10:Bool) (b_11:List NODE) (b_12:List CELL) (b_13:Int) (b_14:Bool) (b_15:List RAT) (b_16:List (Int×RAT×CELL)):fnFB tb (envL e96) Tryz.f96 qfF w96 c96.ps c96.rs (T:=(List RAT)×Int×Bool×(List Int)×(List Int)×Int×Bool×(List Int)×(List Int)×Bool×Bool×(List NODE)×(List CELL)×Int×Bool×(List (Int×RAT×CELL))×(List (Int×RAT×CELL))) (fun y=>(y.1.1,y.2.1,y.2.2.1,y.2.2.2.1,y.2.2.2.2.1,y.2.2.2.2.2.1,y.2.2.2.2.2.2.1,y.2.2.2.2.2.2.2.1,y.2.2.2.2.2.2.2.2.1,y.2.2.2.2.2.2.2.2.2.1,y.2.2.2.2.2.2.2.2.2.2.1,y.2.2.2.2.2.2.2.2.2.2.2.1,y.2.2.2.2.2.2.2.2.2.2.2.2.1,y.2.2.2.2.2.2.2.2.2.2.2.2.2.1,y.2.2.2.2.2.2.2.2.2.2.2.2.2.2.1,y.2.2.2.2.2.2.2.2.2.2.2.2.2.2.2.1,y.2.2.2.2.2.2.2.2.2.2.2.2.2.2.2.2.1)) (a_0,a_1,a_2,a_3,a_4,a_5,a_6,a_7,a_8,a_9,a_10,b_11,b_12,b_13,b_14,b_15,b_16,())=qbG a_0 a_1 a_2 a_3 a_4 a_5 a_6 a_7 a_8 a_9 a_10 b_11 b_12 b_13 b_14 b_15 b_16:=by kernel_rfl
abbrev e65:List (Nat×Ctr):=[(26,c26),(93,c93),(94,c94),(95,c95),(96,c96)]
def qcR:LH
 | 18=>some ⟨qbi,qb0,lp qan K0⟩
 | 2=>some ⟨qbj,qb1,lp qar K0⟩
 | _=>none
theorem qjy (g:qbi.V->Option (OT qb0)) (v:qbi.V):q10q tb (envL e65) 91 qcR (q3q 9 (q4q Tryz.f65) .skip) qbi qb0 g v=qan g v:=by kernel_rfl
theorem qjz (g:qbj.V->Option (OT qb1)) (v:qbj.V):q10q tb (envL e65) 91 qcR (q3q 1 (q4q Tryz.f65) .skip) qbj qb1 g v=qar g v:=by kernel_rfl
theorem qjA (b_0:List NODE) (b_1:List CELL) (b_2:Int) (b_3:Bool) (b_4:List RAT) (b_5:List (Int×(Option ((Option (List (Int×RAT×CELL)))×Unit))×RAT×PART)):fnFB tb (envL e65) Tryz.f65 qcR w65 c65.ps c65.rs (T:=(List RAT)×(List NODE)×(List CELL)×Int×Bool×(List (Int×(Option ((Option (List (Int×RAT×CELL)))×Unit))×RAT×PART))) (fun y=>(y.1.1,y.2.1,y.2.2.1,y.2.2.2.1,y.2.2.2.2.1,y.2.2.2.2.2.1)) (b_0,b_1,b_2,b_3,b_4,b_5,())=qcb b_0 b_1 b_2 b_3 b_4 b_5:=by kernel_rfl
abbrev e39:List (Nat×Ctr):=[(64,c64),(65,c65)]
def qh2:LH
 | 6=>some ⟨qdJ,qeC,lp qb3 K0⟩
 | _=>none
theorem qpv (g:qdJ.V->Option (OT qeC)) (v:qdJ.V):q10q tb (envL e39) 34 qh2 (q3q 3 (q4q Tryz.f39) .skip) qdJ qeC g v=qb3 g v:=by kernel_rfl
theorem qpw (m_0:qaA) (row_1:List CELL) (fixed_2:Int) (on_3:Bool):fnF tb (envL e39) Tryz.f39 qh2 c39.ps c39.rs (T:=(List RAT)) (fun y=>(y.2.1)) (m_0,row_1,fixed_2,on_3,())=qfG m_0 row_1 fixed_2 on_3:=by kernel_rfl
abbrev e53:List (Nat×Ctr):=[(29,c29),(39,c39)]
def qja:LH
 | _=>none
theorem qnC (m_0:qaA) (row_1:List CELL) (fixed_2:Int) (on_3:Bool):fnF tb (envL e53) Tryz.f53 qja c53.ps c53.rs (T:=(List RAT)×Int) (fun y=>(y.2.1,y.2.2.1)) (m_0,row_1,fixed_2,on_3,())=qek m_0 row_1 fixed_2 on_3:=by kernel_rfl
abbrev e30:List (Nat×Ctr):=[(22,c22),(28,c28),(53,c53),(54,c54)]
def qf6:LH
 | 10=>some ⟨qcC,qdk,lp qa2 K0⟩
 | _=>none
theorem qna (g:qcC.V->Option (OT qdk)) (v:qcC.V):q10q tb (envL e30) 48 qf6 (q3q 5 (q4q Tryz.f30) .skip) qcC qdk g v=qa2 g v:=by kernel_rfl
theorem qnb (m_0:qaA) (row_1:List CELL) (k_2:Int):fnF tb (envL e30) Tryz.f30 qf6 c30.ps c30.rs (T:=(List RAT)) (fun y=>(y.2.1)) (m_0,row_1,k_2,())=qdP m_0 row_1 k_2:=by kernel_rfl
abbrev e9:List (Nat×Ctr):=[(29,c29),(30,c30)]
def qj3:LH
 | _=>none
theorem qoD (m_0:qaA) (row_1:List CELL) (i_2:Int) (k_3:Int):fnF tb (envL e9) Tryz.f9 qj3 c9.ps c9.rs (T:=RAT×Int) (fun y=>(y.2.1,y.2.2.1)) (m_0,row_1,i_2,k_3,())=qbp m_0 row_1 i_2 k_3:=by kernel_rfl
abbrev e8:List (Nat×Ctr):=[(9,c9),(17,c17),(26,c26),(27,c27),(28,c28)]
def qeQ:LH
 | _=>none
theorem qln :fnF tb (envL e8) Tryz.f8 qeQ c8.ps c8.rs (T:=Bool) (fun y=>(y.2.1)) ()=qaa :=by kernel_rfl
abbrev e15:List (Nat×Ctr):=[(29,c29),(39,c39)]
def qir:LH
 | _=>none
theorem qmV (m_0:qaA) (row_1:List CELL):fnF tb (envL e15) Tryz.f15 qir c15.ps c15.rs (T:=(List RAT)×Int) (fun y=>(y.2.1,y.2.2.1)) (m_0,row_1,())=qeD m_0 row_1:=by kernel_rfl
abbrev qzT:List (Nat×Ctr):=[(16,c16),(19,c19)]
def qhZ:LH
 | 6=>some ⟨qdH,qeB,lp qbZ K0⟩
 | _=>none
theorem qpm (g:qdH.V->Option (OT qeB)) (v:qdH.V):q10q tb (envL qzT) 18 qhZ (q3q 3 (q4q Tryz.f18) .skip) qdH qeB g v=qbZ g v:=by kernel_rfl
theorem qpn (l_0:List RAT):fnF tb (envL qzT) Tryz.f18 qhZ qyH.ps qyH.rs (T:=(List RAT)×RAT) (fun y=>(y.1.1,y.2.1)) (l_0,())=qgQ l_0:=by kernel_rfl
abbrev e31:List (Nat×Ctr):=[(16,c16)]
def qe1:LH
 | 12=>some ⟨qcY,qdN,lp qbn K0⟩
 | 6=>some ⟨qcZ,qdO,lp qbo K0⟩
 | _=>none
theorem qnN (g:qcY.V->Option (OT qdN)) (v:qcY.V):q10q tbO (envL e31) 22 qe1 (q3q 6 (q4q Tryz.f31) .skip) qcY qdN g v=qbn g v:=by kernel_rfl
theorem qnO (g:qcZ.V->Option (OT qdO)) (v:qcZ.V):q10q tbO (envL e31) 22 qe1 (q3q 3 (q4q Tryz.f31) .skip) qcZ qdO g v=qbo g v:=by kernel_rfl
theorem qnP (n_0:Int):fnF tbO (envL e31) Tryz.f31 qe1 c31.ps c31.rs (T:=(List (Option (List RAT)))) (fun y=>(y.2.1)) (n_0,())=qfr n_0:=by kernel_rfl
abbrev e10:List (Nat×Ctr):=[(15,c15),(18,qyH),(22,c22),(30,c30),(31,c31),(32,c32)]
def qdm:LH
 | 22=>some ⟨qcm,qc3,lp qaW K0⟩
 | 14=>some ⟨qcD,qdl,lp qa3 K0⟩
 | 36=>some ⟨qcl,qc2,lp qaV K0⟩
 | _=>none
theorem qmi (g:qcm.V->Option (OT qc3)) (v:qcm.V):q10q tbO (envL e10) 91 qdm (q3q 11 (q4q Tryz.f10) .skip) qcm qc3 g v=qaW g v:=by kernel_rfl
theorem qnd (g:qcD.V->Option (OT qdl)) (v:qcD.V):q10q tbO (envL e10) 91 qdm (q3q 7 (q4q Tryz.f10) .skip) qcD qdl g v=qa3 g v:=by kernel_rfl
theorem qmh (g:qcl.V->Option (OT qc2)) (v:qcl.V):q10q tbO (envL e10) 91 qdm (q3q 18 (q4q Tryz.f10) .skip) qcl qc2 g v=qaV g v:=by kernel_rfl
theorem qne (a_0:qaA) (a_1:List CELL):fnF tbO (envL e10) Tryz.f10 qdm c10.ps c10.rs (T:=(List (Option (List RAT)))×Int) (fun y=>(y.2.1,y.2.2.1)) (a_0,a_1,())=qaf a_0 a_1:=by kernel_rfl
abbrev e84:List (Nat×Ctr):=[]
def qeM:LH
 | 4=>some ⟨qbR,qcv,lp qaT K0⟩
 | _=>none
theorem qk9 (g:qbR.V->Option (OT qcv)) (v:qbR.V):q10q tb (envL e84) 14 qeM (q3q 2 (q4q Tryz.f84) .skip) qbR qcv g v=qaT g v:=by kernel_rfl
theorem qla (n_0:Int):fnF tb (envL e84) Tryz.f84 qeM c84.ps c84.rs (T:=(List Int)) (fun y=>(y.2.1)) (n_0,())=qao n_0:=by kernel_rfl
abbrev e112:List (Nat×Ctr):=[]
def qhd:LH
 | _=>none
theorem qk2 (a_0:List Int) (i_1:Int):fnF tb (envL e112) Tryz.f112 qhd c112.ps c112.rs (T:=Int) (fun y=>(y.2.1)) (a_0,i_1,())=qaH a_0 i_1:=by kernel_rfl
abbrev e88:List (Nat×Ctr):=[(112,c112)]
def qe8:LH
 | 8=>some ⟨qce,qcN,lp qaF K0⟩
 | _=>none
theorem qlM (g:qce.V->Option (OT qcN)) (v:qce.V):q10q tb (envL e88) 41 qe8 (q3q 4 (q4q Tryz.f88) .skip) qce qcN g v=qaF g v:=by kernel_rfl
theorem qlN (a_0:List Int) (b_1:List Int):fnF tb (envL e88) Tryz.f88 qe8 c88.ps c88.rs (T:=(List Int)) (fun y=>(y.2.1)) (a_0,b_1,())=qc0 a_0 b_1:=by kernel_rfl
abbrev e113:List (Nat×Ctr):=[]
def qe7:LH
 | 4=>some ⟨qcd,qcM,lp qaP K0⟩
 | _=>none
theorem qlJ (g:qcd.V->Option (OT qcM)) (v:qcd.V):q10q tb (envL e113) 21 qe7 (q3q 2 (q4q Tryz.f113) .skip) qcd qcM g v=qaP g v:=by kernel_rfl
theorem qlK (a_0:List Int):fnF tb (envL e113) Tryz.f113 qe7 c113.ps c113.rs (T:=(List Int)) (fun y=>(y.2.1)) (a_0,())=qbO a_0:=by kernel_rfl
abbrev e89:List (Nat×Ctr):=[(113,c113)]
def qds:LH
 | 14=>some ⟨qbP,qct,lp qaI K0⟩
 | 6=>some ⟨qbQ,qcu,lp qaS K0⟩
 | _=>none
theorem qk5 (g:qbP.V->Option (OT qct)) (v:qbP.V):q10q tb (envL e89) 63 qds (q3q 7 (q4q Tryz.f89) .skip) qbP qct g v=qaI g v:=by kernel_rfl
theorem qk6 (g:qbQ.V->Option (OT qcu)) (v:qbQ.V):q10q tb (envL e89) 63 qds (q3q 3 (q4q Tryz.f89) .skip) qbQ qcu g v=qaS g v:=by kernel_rfl
theorem qk7 (a_0:List Int) (b_1:List Int):fnF tb (envL e89) Tryz.f89 qds c89.ps c89.rs (T:=(List Int)) (fun y=>(y.2.1)) (a_0,b_1,())=qbu a_0 b_1:=by kernel_rfl
abbrev e57:List (Nat×Ctr):=[(84,c84),(88,c88),(89,c89)]
def qe9:LH
 | 8=>some ⟨qcg,qcP,lp qa1 K0⟩
 | _=>none
theorem qlS (g:qcg.V->Option (OT qcP)) (v:qcg.V):q10q tb (envL e57) 26 qe9 (q3q 4 (q4q Tryz.f57) .skip) qcg qcP g v=qa1 g v:=by kernel_rfl
theorem qlT (a_0:List Int):fnF tb (envL e57) Tryz.f57 qe9 c57.ps c57.rs (T:=(List Int)) (fun y=>(y.2.1)) (a_0,())=qaG a_0:=by kernel_rfl
abbrev e91:List (Nat×Ctr):=[]
def qhv:LH
 | _=>none
theorem qlG (neg_0:Bool) (n_1:List Int):fnF tb (envL e91) Tryz.f91 qhv c91.ps c91.rs (T:=(Bool×List Int)) (fun y=>(y.2.1)) (neg_0,n_1,())=qbN neg_0 n_1:=by kernel_rfl
abbrev e90:List (Nat×Ctr):=[(84,c84),(88,c88),(91,c91)]
def qhb:LH
 | _=>none
theorem qk0 (n_0:Int):fnF tb (envL e90) Tryz.f90 qhb c90.ps c90.rs (T:=(Bool×List Int)) (fun y=>(y.2.1)) (n_0,())=qer n_0:=by kernel_rfl
abbrev e58:List (Nat×Ctr):=[(84,c84),(90,c90)]
def qg7:LH
 | _=>none
theorem qkW (n_0:Int) (d_1:Int):fnF tb (envL e58) Tryz.f58 qg7 c58.ps c58.rs (T:=((Bool×List Int)×List Int)) (fun y=>(y.2.1)) (n_0,d_1,())=qeq n_0 d_1:=by kernel_rfl
abbrev e59:List (Nat×Ctr):=[(57,c57),(91,c91)]
def qhw:LH
 | _=>none
theorem qlH (a_0:WH):fnF tb (envL e59) Tryz.f59 qhw c59.ps c59.rs (T:=(Bool×List Int)) (fun y=>(y.2.1)) (a_0,())=qdQ a_0:=by kernel_rfl
abbrev e34:List (Nat×Ctr):=[(57,c57),(58,c58),(59,c59)]
def qhu:LH
 | _=>none
theorem qlF (a_0:RAT):fnF tb (envL e34) Tryz.f34 qhu c34.ps c34.rs (T:=((Bool×List Int)×List Int)) (fun y=>(y.2.1)) (a_0,())=qbM a_0:=by kernel_rfl
abbrev e81:List (Nat×Ctr):=[]
def qeN:LH
 | 4=>some ⟨qbS,qcw,lp qaJ K0⟩
 | _=>none
theorem qlc (g:qbS.V->Option (OT qcw)) (v:qbS.V):q10q tb (envL e81) 27 qeN (q3q 2 (q4q Tryz.f81) .skip) qbS qcw g v=qaJ g v:=by kernel_rfl
theorem qld (a_0:List Int):fnF tb (envL e81) Tryz.f81 qeN c81.ps c81.rs (T:=Bool) (fun y=>(y.2.1)) (a_0,())=qcF a_0:=by kernel_rfl
abbrev e83:List (Nat×Ctr):=[]
def qeO:LH
 | 12=>some ⟨qbU,qcy,lp qaz K0⟩
 | _=>none
theorem qlh (g:qbU.V->Option (OT qcy)) (v:qbU.V):q10q tb (envL e83) 41 qeO (q3q 6 (q4q Tryz.f83) .skip) qbU qcy g v=qaz g v:=by kernel_rfl
theorem qli (a_0:List Int) (b_1:List Int):fnF tb (envL e83) Tryz.f83 qeO c83.ps c83.rs (T:=Int) (fun y=>(y.2.1)) (a_0,b_1,())=qak a_0 b_1:=by kernel_rfl
abbrev e126:List (Nat×Ctr):=[(112,c112),(113,c113)]
def qeP:LH
 | 8=>some ⟨qbV,qcz,lp qaK K0⟩
 | _=>none
theorem qlk (g:qbV.V->Option (OT qcz)) (v:qbV.V):q10q tb (envL e126) 35 qeP (q3q 4 (q4q Tryz.f126) .skip) qbV qcz g v=qaK g v:=by kernel_rfl
theorem qll (a_0:List Int) (b_1:List Int):fnF tb (envL e126) Tryz.f126 qeP c126.ps c126.rs (T:=(List Int)) (fun y=>(y.2.1)) (a_0,b_1,())=qdt a_0 b_1:=by kernel_rfl
abbrev e111:List (Nat×Ctr):=[(83,c83),(84,c84),(89,c89),(113,c113),(126,c126)]
def qdz:LH
 | 24=>some ⟨qbT,qcx,lp qay K0⟩
 | 8=>some ⟨qcf,qcO,lp qa0 K0⟩
 | _=>none
theorem qlf (g:qbT.V->Option (OT qcx)) (v:qbT.V):q10q tb (envL e111) 65 qdz (q3q 12 (q4q Tryz.f111) .skip) qbT qcx g v=qay g v:=by kernel_rfl
theorem qlP (g:qcf.V->Option (OT qcO)) (v:qcf.V):q10q tb (envL e111) 65 qdz (q3q 4 (q4q Tryz.f111) .skip) qcf qcO g v=qa0 g v:=by kernel_rfl
theorem qlQ (a_0:List Int) (a_1:List Int):fnF tb (envL e111) Tryz.f111 qdz c111.ps c111.rs (T:=(List Int)×(List Int)) (fun y=>(y.2.1,y.2.2.1)) (a_0,a_1,())=qdR a_0 a_1:=by kernel_rfl
abbrev e82:List (Nat×Ctr):=[(111,c111)]
def qfA:LH
 | 2=>some ⟨qcn,qc5,lp qbe K0⟩
 | _=>none
theorem qmn (g:qcn.V->Option (OT qc5)) (v:qcn.V):q10q tb (envL e82) 19 qfA (q3q 1 (q4q Tryz.f82) .skip) qcn qc5 g v=qbe g v:=by kernel_rfl
theorem qmo (a_0:List Int) (b_1:List Int):fnF tb (envL e82) Tryz.f82 qfA c82.ps c82.rs (T:=(List Int)) (fun y=>(y.2.1)) (a_0,b_1,())=qcI a_0 b_1:=by kernel_rfl
abbrev e55:List (Nat×Ctr):=[(57,c57),(81,c81),(82,c82),(83,c83),(84,c84)]
def qg8:LH
 | _=>none
theorem qkX (a_0:RAT):fnF tb (envL e55) Tryz.f55 qg8 c55.ps c55.rs (T:=Bool) (fun y=>(y.2.1)) (a_0,())=qdp a_0:=by kernel_rfl
abbrev e85:List (Nat×Ctr):=[(83,c83)]
def qhc:LH
 | _=>none
theorem qk1 (a_0:Bool×List Int) (b_1:Bool×List Int):fnF tb (envL e85) Tryz.f85 qhc c85.ps c85.rs (T:=Int) (fun y=>(y.2.1)) (a_0,b_1,())=qdr a_0 b_1:=by kernel_rfl
abbrev e86:List (Nat×Ctr):=[(89,c89),(91,c91)]
def qha:LH
 | _=>none
theorem qkZ (a_0:Bool×List Int) (b_1:Bool×List Int):fnF tb (envL e86) Tryz.f86 qha c86.ps c86.rs (T:=(Bool×List Int)) (fun y=>(y.2.1)) (a_0,b_1,())=qcE a_0 b_1:=by kernel_rfl
abbrev e87:List (Nat×Ctr):=[(91,c91)]
def qii:LH
 | _=>none
theorem qml (a_0:(Bool×List Int)×List Int):fnF tb (envL e87) Tryz.f87 qii c87.ps c87.rs (T:=(Bool×List Int)) (fun y=>(y.2.1)) (a_0,())=qd8 a_0:=by kernel_rfl
abbrev e56:List (Nat×Ctr):=[(85,c85),(86,c86),(87,c87)]
def qg9:LH
 | _=>none
theorem qkY (a_0:(Bool×List Int)×List Int) (b_1:(Bool×List Int)×List Int):fnF tb (envL e56) Tryz.f56 qg9 c56.ps c56.rs (T:=Int) (fun y=>(y.2.1)) (a_0,b_1,())=qdq a_0 b_1:=by kernel_rfl
abbrev e33:List (Nat×Ctr):=[(34,c34),(55,c55),(56,c56)]
def qiv:LH
 | _=>none
theorem qnk (a_0:RAT) (x_1:(Bool×List Int)×List Int):fnF tb (envL e33) Tryz.f33 qiv c33.ps c33.rs (T:=Bool) (fun y=>(y.2.1)) (a_0,x_1,())=qgb a_0 x_1:=by kernel_rfl
abbrev e11:List (Nat×Ctr):=[(33,c33),(34,c34)]
def qiu:LH
 | _=>none
theorem qnj (a_0:RAT) (b_1:RAT):fnF tb (envL e11) Tryz.f11 qiu c11.ps c11.rs (T:=Bool) (fun y=>(y.2.1)) (a_0,b_1,())=qae a_0 b_1:=by kernel_rfl
abbrev e3:List (Nat×Ctr):=[(6,c6),(7,c7),(8,c8),(9,c9),(10,c10),(11,c11)]
def qd9:LH
 | _=>none
theorem qhm (a_0:qaA) (a_1:List CELL) (a_2:Int) (a_3:Int):fnF tb (envL e3) Tryz.f3 qd9 c3.ps c3.rs (T:=Bool) (fun y=>(y.2.1)) (a_0,a_1,a_2,a_3,())=qch a_0 a_1 a_2 a_3:=by kernel_rfl
end Go.Proofs.YtaeiamdjpkgjpaaGreatDoor.X
