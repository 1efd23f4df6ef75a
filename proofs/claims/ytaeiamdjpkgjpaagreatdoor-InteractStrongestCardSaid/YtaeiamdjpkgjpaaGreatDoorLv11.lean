/- Own work: part of the proof; the first line of each part says what it tells. -/
import Derived.Test.YtaeiamdjpkgjpaaGreatDoorLv7


namespace Go.Proofs.YtaeiamdjpkgjpaaGreatDoor.X
open Go
set_option linter.unusedVariables false
set_option linter.unusedSimpArgs false
set_option maxRecDepth 100000
abbrev e48:List (Nat×Ctr):=[]
def qgZ:LH
 | _=>none
theorem qkJ (a_0:RAT):fnF tb (envL e48) Tryz.f48 qgZ c48.ps c48.rs (T:=RAT) (fun y=>(y.2.1)) (a_0,())=qbO a_0:=by kernel_rfl
abbrev e23:List (Nat×Ctr):=[(48,c48)]
def qeq:LH
 | 14=>some ⟨qcA,qds,lp qaV K0⟩
 | 6=>some ⟨qcB,qdt,lp qaW K0⟩
 | _=>none
theorem qm5 (g:qcA.V->Option (OT qds)) (v:qcA.V):q10q tb (envL e23) 67 qeq (q3q 7 (q4q Tryz.f23) .skip) qcA qds g v=qaV g v:=by kernel_rfl
theorem qm6 (g:qcB.V->Option (OT qdt)) (v:qcB.V):q10q tb (envL e23) 67 qeq (q3q 3 (q4q Tryz.f23) .skip) qcB qdt g v=qaW g v:=by kernel_rfl
theorem qm7 (a_0:qaL):fnF tb (envL e23) Tryz.f23 qeq c23.ps c23.rs (T:=qaL) (fun y=>(y.2.1)) (a_0,())=qeu a_0:=by kernel_rfl
abbrev e49:List (Nat×Ctr):=[]
def qgY:LH
 | _=>none
theorem qkI (a_0:RAT):fnF tb (envL e49) Tryz.f49 qgY c49.ps c49.rs (T:=RAT) (fun y=>(y.2.1)) (a_0,())=qdq a_0:=by kernel_rfl
abbrev e24:List (Nat×Ctr):=[(49,c49)]
def qfT:LH
 | 6=>some ⟨qcz,qdr,lp qa6 K0⟩
 | _=>none
theorem qm1 (g:qcz.V->Option (OT qdr)) (v:qcz.V):q10q tb (envL e24) 32 qfT (q3q 3 (q4q Tryz.f24) .skip) qcz qdr g v=qa6 g v:=by kernel_rfl
theorem qm2 (l_0:List CELL) (n_1:Int):fnF tb (envL e24) Tryz.f24 qfT c24.ps c24.rs (T:=(List CELL)) (fun y=>(y.2.1)) (l_0,n_1,())=qcX l_0 n_1:=by kernel_rfl
abbrev e6:List (Nat×Ctr):=[(23,c23),(24,c24)]
def qhJ:LH
 | _=>none
theorem ql1 (m_0:qaL) (row_1:List CELL):fnF tb (envL e6) Tryz.f6 qhJ c6.ps c6.rs (T:=qaL×(List CELL)) (fun y=>(y.2.1,y.2.2.1)) (m_0,row_1,())=qcU m_0 row_1:=by kernel_rfl
abbrev e74:List (Nat×Ctr):=[]
def qh0:LH
 | 18=>some ⟨qfi,qgr,lp qck K0⟩
 | 8=>some ⟨qfj,qgs,lp qby K0⟩
 | _=>none
theorem qsa (g:qfi.V->Option (OT qgr)) (v:qfi.V):q10q tb (envL e74) 72 qh0 (q3q 9 (q4q Tryz.f74) .skip) qfi qgr g v=qck g v:=by kernel_rfl
theorem qsb (g:qfj.V->Option (OT qgs)) (v:qfj.V):q10q tb (envL e74) 72 qh0 (q3q 4 (q4q Tryz.f74) .skip) qfj qgs g v=qby g v:=by kernel_rfl
theorem qsc (a_0:qaL):fnF tb (envL e74) Tryz.f74 qh0 c74.ps c74.rs (T:=Bool) (fun y=>(y.2.1)) (a_0,())=qjN a_0:=by kernel_rfl
abbrev e75:List (Nat×Ctr):=[]
def qin:LH
 | 4=>some ⟨qdY,qeR,lp qbo K0⟩
 | _=>none
theorem qpD (g:qdY.V->Option (OT qeR)) (v:qdY.V):q10q tb (envL e75) 52 qin (q3q 2 (q4q Tryz.f75) .skip) qdY qeR g v=qbo g v:=by kernel_rfl
theorem qpE (t_0:List NODE) (features_1:Int):fnF tb (envL e75) Tryz.f75 qin c75.ps c75.rs (T:=Int×Int) (fun y=>(y.2.1,y.2.2.1)) (t_0,features_1,())=qfU t_0 features_1:=by kernel_rfl
abbrev e76:List (Nat×Ctr):=[]
def qex:LH
 | 6=>some ⟨qey,qfv,lp qb8 K0⟩
 | 20=>some ⟨qdX,qeQ,lp qa8 K0⟩
 | 34=>some ⟨qdW,qeP,lp qb9 K0⟩
 | 50=>some ⟨qdV,qeO,lp qbn K0⟩
 | _=>none
theorem qqH (g:qey.V->Option (OT qfv)) (v:qey.V):q10q tb (envL e76) 103 qex (q3q 3 (q4q Tryz.f76) .skip) qey qfv g v=qb8 g v:=by kernel_rfl
theorem qpB (g:qdX.V->Option (OT qeQ)) (v:qdX.V):q10q tb (envL e76) 103 qex (q3q 10 (q4q Tryz.f76) .skip) qdX qeQ g v=qa8 g v:=by kernel_rfl
theorem qpA (g:qdW.V->Option (OT qeP)) (v:qdW.V):q10q tb (envL e76) 103 qex (q3q 17 (q4q Tryz.f76) .skip) qdW qeP g v=qb9 g v:=by kernel_rfl
theorem qpz (g:qdV.V->Option (OT qeO)) (v:qdV.V):q10q tb (envL e76) 103 qex (q3q 25 (q4q Tryz.f76) .skip) qdV qeO g v=qbn g v:=by kernel_rfl
theorem qqI (a_0:List NODE):fnF tb (envL e76) Tryz.f76 qex c76.ps c76.rs (T:=Int×Int) (fun y=>(y.2.1,y.2.2.1)) (a_0,())=qim a_0:=by kernel_rfl
abbrev e66:List (Nat×Ctr):=[]
def qmK:LH
 | 4=>some ⟨qg7,qix,lp qen K0⟩
 | _=>none
theorem quC (g:qg7.V->Option (OT qix)) (v:qg7.V):q10q tb (envL e66) 23 qmK (q3q 2 (q4q Tryz.f66) .skip) qg7 qix g v=qen g v:=by kernel_rfl
theorem quD (a_0:List Int):fnF tb (envL e66) Tryz.f66 qmK c66.ps c66.rs (T:=(List Int)) (fun y=>(y.2.1)) (a_0,())=qeI a_0:=by kernel_rfl
abbrev e40:List (Nat×Ctr):=[(66,c66)]
def qtz:LH
 | _=>none
theorem qya (n_0:Int):fnF tb (envL e40) Tryz.f40 qtz c40.ps c40.rs (T:=(List Int)) (fun y=>(y.2.1)) (n_0,())=qle n_0:=by kernel_rfl
abbrev e16:List (Nat×Ctr):=[(40,c40)]
def qnm:LH
 | _=>none
theorem qrT :fnF tb (envL e16) Tryz.f16 qnm c16.ps c16.rs (T:=RAT) (fun y=>(y.2.1)) ()=qeD :=by kernel_rfl
abbrev e60:List (Nat×Ctr):=[(66,c66)]
def qlg:LH
 | 6=>some ⟨qf9,qhw,lp qdC K0⟩
 | _=>none
theorem qtB (g:qf9.V->Option (OT qhw)) (v:qf9.V):q10q tb (envL e60) 24 qlg (q3q 3 (q4q Tryz.f60) .skip) qf9 qhw g v=qdC g v:=by kernel_rfl
theorem qtC (a_0:List Int):fnF tb (envL e60) Tryz.f60 qlg c60.ps c60.rs (T:=(List Int)) (fun y=>(y.2.1)) (a_0,())=qcj a_0:=by kernel_rfl
abbrev e92:List (Nat×Ctr):=[]
def qla:LH
 | 12=>some ⟨qf5,qhs,lp qc6 K0⟩
 | _=>none
theorem qtq (g:qf5.V->Option (OT qhs)) (v:qf5.V):q10q tb (envL e92) 45 qla (q3q 6 (q4q Tryz.f92) .skip) qf5 qhs g v=qc6 g v:=by kernel_rfl
theorem qtr (a_0:List Int) (b_1:List Int):fnF tb (envL e92) Tryz.f92 qla c92.ps c92.rs (T:=Int) (fun y=>(y.2.1)) (a_0,b_1,())=qht a_0 b_1:=by kernel_rfl
abbrev e121:List (Nat×Ctr):=[(60,c60)]
def qty:LH
 | _=>none
theorem qx9 (a_0:List Int):fnF tb (envL e121) Tryz.f121 qty c121.ps c121.rs (T:=Int×Bool) (fun y=>(y.2.1,y.2.2.1)) (a_0,())=qrd a_0:=by kernel_rfl
abbrev e97:List (Nat×Ctr):=[(40,c40),(121,c121)]
def qkf:LH
 | 6=>some ⟨qff,qgq,lp qdB K0⟩
 | _=>none
theorem qr4 (g:qff.V->Option (OT qgq)) (v:qff.V):q10q tb (envL e97) 27 qkf (q3q 3 (q4q Tryz.f97) .skip) qff qgq g v=qdB g v:=by kernel_rfl
theorem qr5 (a_0:List Int) (b_1:List Int):fnF tb (envL e97) Tryz.f97 qkf c97.ps c97.rs (T:=(List Int)) (fun y=>(y.2.1)) (a_0,b_1,())=qjI a_0 b_1:=by kernel_rfl
abbrev e98:List (Nat×Ctr):=[(122,c122)]
def qk7:LH
 | 6=>some ⟨qf3,qhq,lp qeh K0⟩
 | _=>none
theorem qtk (g:qf3.V->Option (OT qhq)) (v:qf3.V):q10q tb (envL e98) 24 qk7 (q3q 3 (q4q Tryz.f98) .skip) qf3 qhq g v=qeh g v:=by kernel_rfl
theorem qtl (a_0:List Int):fnF tb (envL e98) Tryz.f98 qk7 c98.ps c98.rs (T:=Int) (fun y=>(y.2.1)) (a_0,())=qcu a_0:=by kernel_rfl
abbrev e105:List (Nat×Ctr):=[]
def qqd:LH
 | _=>none
theorem quL (a_0:List Int) (i_1:Int):fnF tb (envL e105) Tryz.f105 qqd c105.ps c105.rs (T:=Int) (fun y=>(y.2.1)) (a_0,i_1,())=qhh a_0 i_1:=by kernel_rfl
abbrev e99:List (Nat×Ctr):=[(66,c66),(105,c105)]
def qoc:LH
 | 12=>some ⟨qig,qjG,lp qfd K0⟩
 | _=>none
theorem qwx (g:qig.V->Option (OT qjG)) (v:qig.V):q10q tb (envL e99) 50 qoc (q3q 6 (q4q Tryz.f99) .skip) qig qjG g v=qfd g v:=by kernel_rfl
theorem qwy (a_0:List Int) (n_1:Int):fnF tb (envL e99) Tryz.f99 qoc c99.ps c99.rs (T:=(List Int)) (fun y=>(y.2.1)) (a_0,n_1,())=qeo a_0 n_1:=by kernel_rfl
abbrev e100:List (Nat×Ctr):=[(66,c66)]
def qod:LH
 | 8=>some ⟨qih,qjH,lp qfe K0⟩
 | _=>none
theorem qwA (g:qih.V->Option (OT qjH)) (v:qih.V):q10q tb (envL e100) 51 qod (q3q 4 (q4q Tryz.f100) .skip) qih qjH g v=qfe g v:=by kernel_rfl
theorem qwB (a_0:List Int) (n_1:Int):fnF tb (envL e100) Tryz.f100 qod c100.ps c100.rs (T:=(List Int)) (fun y=>(y.2.1)) (a_0,n_1,())=qiz a_0 n_1:=by kernel_rfl
abbrev e103:List (Nat×Ctr):=[(66,c66)]
def qk8:LH
 | 8=>some ⟨qf4,qhr,lp qei K0⟩
 | _=>none
theorem qtn (g:qf4.V->Option (OT qhr)) (v:qf4.V):q10q tb (envL e103) 38 qk8 (q3q 4 (q4q Tryz.f103) .skip) qf4 qhr g v=qei g v:=by kernel_rfl
theorem qto (a_0:List Int) (d_1:Int):fnF tb (envL e103) Tryz.f103 qk8 c103.ps c103.rs (T:=(List Int)×Int) (fun y=>(y.2.1,y.2.2.1)) (a_0,d_1,())=qk9 a_0 d_1:=by kernel_rfl
abbrev e123:List (Nat×Ctr):=[(129,c129)]
def qg0:LH
 | _=>none
theorem qkK (x_0:Int):fnF tb (envL e123) Tryz.f123 qg0 c123.ps c123.rs (T:=Int) (fun y=>(y.2.1)) (x_0,())=qdu x_0:=by kernel_rfl
abbrev e130:List (Nat×Ctr):=[(105,c105)]
def qmL:LH
 | 6=>some ⟨qg8,qiy,lp qe0 K0⟩
 | _=>none
theorem quF (g:qg8.V->Option (OT qiy)) (v:qg8.V):q10q tb (envL e130) 46 qmL (q3q 3 (q4q Tryz.f130) .skip) qg8 qiy g v=qe0 g v:=by kernel_rfl
theorem quG (u_0:List Int) (v_1:List Int) (times_2:Int):fnF tb (envL e130) Tryz.f130 qmL c130.ps c130.rs (T:=(List Int)×Bool) (fun y=>(y.1.1,y.2.1)) (u_0,v_1,times_2,())=qnA u_0 v_1 times_2:=by kernel_rfl
abbrev e131:List (Nat×Ctr):=[(105,c105)]
def qmN:LH
 | 4=>some ⟨qha,qiB,lp qe1 K0⟩
 | _=>none
theorem quN (g:qha.V->Option (OT qiB)) (v:qha.V):q10q tb (envL e131) 29 qmN (q3q 2 (q4q Tryz.f131) .skip) qha qiB g v=qe1 g v:=by kernel_rfl
theorem quO (u_0:List Int) (v_1:List Int):fnF tb (envL e131) Tryz.f131 qmN c131.ps c131.rs (T:=(List Int)) (fun y=>(y.1.1)) (u_0,v_1,())=qnE u_0 v_1:=by kernel_rfl
abbrev e124:List (Nat×Ctr):=[(130,c130),(131,c131)]
def qlc:LH
 | 8=>some ⟨qf7,qhv,lp qbV K0⟩
 | _=>none
theorem qtw (g:qf7.V->Option (OT qhv)) (v:qf7.V):q10q tb (envL e124) 77 qlc (q3q 4 (q4q Tryz.f124) .skip) qf7 qhv g v=qbV g v:=by kernel_rfl
theorem qtx (a_0:List Int) (a_1:List Int):fnF tb (envL e124) Tryz.f124 qlc c124.ps c124.rs (T:=(List Int)×Int) (fun y=>(y.1.1,y.2.1)) (a_0,a_1,())=qjJ a_0 a_1:=by kernel_rfl
abbrev e104:List (Nat×Ctr):=[(66,c66),(99,c99),(100,c100),(123,c123),(124,c124)]
def qmM:LH
 | 14=>some ⟨qg9,qiA,lp qep K0⟩
 | _=>none
theorem quJ (g:qg9.V->Option (OT qiA)) (v:qg9.V):q10q tb (envL e104) 64 qmM (q3q 7 (q4q Tryz.f104) .skip) qg9 qiA g v=qep g v:=by kernel_rfl
theorem quK (a_0:List Int) (b_1:List Int):fnF tb (envL e104) Tryz.f104 qmM c104.ps c104.rs (T:=(List Int)×(List Int)) (fun y=>(y.2.1,y.2.2.1)) (a_0,b_1,())=qnD a_0 b_1:=by kernel_rfl
abbrev e68:List (Nat×Ctr):=[(40,c40),(60,c60),(92,c92),(103,c103),(104,c104)]
def qnF:LH
 | _=>none
theorem qr6 (a_0:List Int) (b_1:List Int):fnF tb (envL e68) Tryz.f68 qnF c68.ps c68.rs (T:=(List Int)×(List Int)×Int) (fun y=>(y.2.1,y.2.2.1,y.2.2.2.1)) (a_0,b_1,())=qfh a_0 b_1:=by kernel_rfl
abbrev e101:List (Nat×Ctr):=[(68,c68)]
def qqc:LH
 | _=>none
theorem quH (a_0:List Int) (b_1:List Int):fnF tb (envL e101) Tryz.f101 qqc c101.ps c101.rs (T:=(List Int)×(List Int)) (fun y=>(y.2.1,y.2.2.1)) (a_0,b_1,())=qiU a_0 b_1:=by kernel_rfl
abbrev e102:List (Nat×Ctr):=[(66,c66),(105,c105)]
def qlb:LH
 | 8=>some ⟨qf6,qhu,lp qej K0⟩
 | _=>none
theorem qtt (g:qf6.V->Option (OT qhu)) (v:qf6.V):q10q tb (envL e102) 39 qlb (q3q 4 (q4q Tryz.f102) .skip) qf6 qhu g v=qej g v:=by kernel_rfl
theorem qtu (a_0:List Int) (b_1:List Int):fnF tb (envL e102) Tryz.f102 qlb c102.ps c102.rs (T:=(List Int)) (fun y=>(y.2.1)) (a_0,b_1,())=qgp a_0 b_1:=by kernel_rfl
abbrev e67:List (Nat×Ctr):=[(60,c60),(92,c92),(97,c97),(98,c98),(99,c99),(100,c100),(101,c101),(102,c102)]
def qoe:LH
 | 20=>some ⟨qhb,qiC,lp qci K0⟩
 | _=>none
theorem quQ (g:qhb.V->Option (OT qiC)) (v:qhb.V):q10q tb (envL e67) 86 qoe (q3q 10 (q4q Tryz.f67) .skip) qhb qiC g v=qci g v:=by kernel_rfl
theorem qwI (a_0:List Int) (a_1:List Int):fnF tb (envL e67) Tryz.f67 qoe c67.ps c67.rs (T:=(List Int)) (fun y=>(y.2.1)) (a_0,a_1,())=qqe a_0 a_1:=by kernel_rfl
abbrev e41:List (Nat×Ctr):=[(40,c40),(67,c67),(68,c68)]
def qnl:LH
 | _=>none
theorem qrS (num_0:WH) (den_1:List Int):fnF tb (envL e41) Tryz.f41 qnl c41.ps c41.rs (T:=RAT) (fun y=>(y.2.1)) (num_0,den_1,())=qeC num_0 den_1:=by kernel_rfl
abbrev e63:List (Nat×Ctr):=[]
def qna:LH
 | _=>none
theorem qrA (neg_0:Bool) (abs_1:List Int):fnF tb (envL e63) Tryz.f63 qna c63.ps c63.rs (T:=WH) (fun y=>(y.2.1)) (neg_0,abs_1,())=qdU neg_0 abs_1:=by kernel_rfl
abbrev e61:List (Nat×Ctr):=[(60,c60),(63,c63)]
def qmw:LH
 | _=>none
theorem qqF (a_0:WH):fnF tb (envL e61) Tryz.f61 qmw c61.ps c61.rs (T:=WH) (fun y=>(y.2.1)) (a_0,())=qbM a_0:=by kernel_rfl
abbrev e35:List (Nat×Ctr):=[(16,c16),(41,c41),(60,c60),(61,c61)]
def qmA:LH
 | _=>none
theorem qqP (a_0:RAT):fnF tb (envL e35) Tryz.f35 qmA c35.ps c35.rs (T:=RAT) (fun y=>(y.2.1)) (a_0,())=qbC a_0:=by kernel_rfl
abbrev e80:List (Nat×Ctr):=[(61,c61)]
def qnb:LH
 | _=>none
theorem qrB (a_0:WH):fnF tb (envL e80) Tryz.f80 qnb c80.ps c80.rs (T:=Int) (fun y=>(y.2.1)) (a_0,())=qh9 a_0:=by kernel_rfl
abbrev e110:List (Nat×Ctr):=[(35,c35),(80,c80)]
def qno:LH
 | _=>none
theorem qrU (a_0:RAT):fnF tb (envL e110) Tryz.f110 qno c110.ps c110.rs (T:=Int) (fun y=>(y.2.1)) (a_0,())=qic a_0:=by kernel_rfl
abbrev e77:List (Nat×Ctr):=[(110,c110)]
def qio:LH
 | 4=>some ⟨qdZ,qeS,lp qbp K0⟩
 | _=>none
theorem qpG (g:qdZ.V->Option (OT qeS)) (v:qdZ.V):q10q tb (envL e77) 19 qio (q3q 2 (q4q Tryz.f77) .skip) qdZ qeS g v=qbp g v:=by kernel_rfl
theorem qpH (t_0:List NODE):fnF tb (envL e77) Tryz.f77 qio c77.ps c77.rs (T:=Int×Int) (fun y=>(y.2.1,y.2.2.1)) (t_0,())=qfV t_0:=by kernel_rfl
abbrev e62:List (Nat×Ctr):=[(60,c60),(92,c92)]
def qrf:LH
 | _=>none
theorem qwJ (a_0:List Int) (b_1:List Int):fnF tb (envL e62) Tryz.f62 qrf c62.ps c62.rs (T:=Int) (fun y=>(y.2.1)) (a_0,b_1,())=qhP a_0 b_1:=by kernel_rfl
abbrev e36:List (Nat×Ctr):=[(61,c61),(62,c62)]
def qoE:LH
 | _=>none
theorem qsE (a_0:WH) (b_1:WH):fnF tb (envL e36) Tryz.f36 qoE c36.ps c36.rs (T:=Int) (fun y=>(y.2.1)) (a_0,b_1,())=qkN a_0 b_1:=by kernel_rfl
abbrev e43:List (Nat×Ctr):=[(60,c60),(66,c66)]
def qma:LH
 | 16=>some ⟨qii,qjK,lp qfg K0⟩
 | 8=>some ⟨qij,qjL,lp qf8 K0⟩
 | _=>none
theorem qwF (g:qii.V->Option (OT qjK)) (v:qii.V):q10q tb (envL e43) 67 qma (q3q 8 (q4q Tryz.f43) .skip) qii qjK g v=qfg g v:=by kernel_rfl
theorem qwG (g:qij.V->Option (OT qjL)) (v:qij.V):q10q tb (envL e43) 67 qma (q3q 4 (q4q Tryz.f43) .skip) qij qjL g v=qf8 g v:=by kernel_rfl
theorem qwH (a_0:List Int) (a_1:List Int):fnF tb (envL e43) Tryz.f43 qma c43.ps c43.rs (T:=(List Int)) (fun y=>(y.2.1)) (a_0,a_1,())=qlf a_0 a_1:=by kernel_rfl
abbrev e37:List (Nat×Ctr):=[(43,c43),(61,c61),(63,c63)]
def qoD:LH
 | _=>none
theorem qsD (a_0:WH) (b_1:WH):fnF tb (envL e37) Tryz.f37 qoD c37.ps c37.rs (T:=WH) (fun y=>(y.2.1)) (a_0,b_1,())=qfu a_0 b_1:=by kernel_rfl
abbrev e38:List (Nat×Ctr):=[]
def qoK:LH
 | _=>none
theorem qsT (a_0:RAT):fnF tb (envL e38) Tryz.f38 qoK c38.ps c38.rs (T:=WH) (fun y=>(y.2.1)) (a_0,())=qfA a_0:=by kernel_rfl
abbrev e13:List (Nat×Ctr):=[(35,c35),(36,c36),(37,c37),(38,c38)]
def qoT:LH
 | _=>none
theorem qs5 (a_0:RAT) (b_1:RAT):fnF tb (envL e13) Tryz.f13 qoT c13.ps c13.rs (T:=Int) (fun y=>(y.2.1)) (a_0,b_1,())=qhn a_0 b_1:=by kernel_rfl
abbrev e17:List (Nat×Ctr):=[(13,c13)]
def qnp:LH
 | _=>none
theorem qrW (a_0:RAT) (b_1:RAT):fnF tb (envL e17) Tryz.f17 qnp c17.ps c17.rs (T:=Bool) (fun y=>(y.2.1)) (a_0,b_1,())=qid a_0 b_1:=by kernel_rfl
abbrev e69:List (Nat×Ctr):=[(60,c60),(66,c66),(105,c105)]
def qof:LH
 | 10=>some ⟨qik,qjM,lp qga K0⟩
 | _=>none
theorem qwL (g:qik.V->Option (OT qjM)) (v:qik.V):q10q tb (envL e69) 43 qof (q3q 5 (q4q Tryz.f69) .skip) qik qjM g v=qga g v:=by kernel_rfl
theorem qwM (a_0:List Int) (b_1:List Int):fnF tb (envL e69) Tryz.f69 qof c69.ps c69.rs (T:=(List Int)) (fun y=>(y.2.1)) (a_0,b_1,())=qog a_0 b_1:=by kernel_rfl
abbrev e70:List (Nat×Ctr):=[(60,c60),(92,c92),(102,c102)]
def qre:LH
 | _=>none
theorem qwC (a_0:List Int) (b_1:List Int):fnF tb (envL e70) Tryz.f70 qre c70.ps c70.rs (T:=(List Int)×Int) (fun y=>(y.2.1,y.2.2.1)) (a_0,b_1,())=qld a_0 b_1:=by kernel_rfl
abbrev e42:List (Nat×Ctr):=[(61,c61),(62,c62),(63,c63),(69,c69),(70,c70)]
def qoF:LH
 | _=>none
theorem qsF (a_0:WH) (b_1:WH):fnF tb (envL e42) Tryz.f42 qoF c42.ps c42.rs (T:=WH) (fun y=>(y.2.1)) (a_0,b_1,())=qkO a_0 b_1:=by kernel_rfl
abbrev e19:List (Nat×Ctr):=[(35,c35),(37,c37),(38,c38),(41,c41),(42,c42),(43,c43)]
def qoU:LH
 | _=>none
theorem qs6 (a_0:RAT) (b_1:RAT):fnF tb (envL e19) Tryz.f19 qoU c19.ps c19.rs (T:=RAT) (fun y=>(y.2.1)) (a_0,b_1,())=qdz a_0 b_1:=by kernel_rfl
abbrev e78:List (Nat×Ctr):=[(17,c17),(19,c19)]
def qjW:LH
 | 4=>some ⟨qe9,qgg,lp qbL K0⟩
 | _=>none
theorem qrD (g:qe9.V->Option (OT qgg)) (v:qe9.V):q10q tb (envL e78) 37 qjW (q3q 2 (q4q Tryz.f78) .skip) qe9 qgg g v=qbL g v:=by kernel_rfl
theorem qrE (t_0:List NODE):fnF tb (envL e78) Tryz.f78 qjW c78.ps c78.rs (T:=Int×Int) (fun y=>(y.2.1,y.2.2.1)) (t_0,())=qia t_0:=by kernel_rfl
abbrev e79:List (Nat×Ctr):=[]
def qmx:LH
 | _=>none
theorem qqJ (e_0:Int) (tree_1:Int) (node_2:Int):fnF tb (envL e79) Tryz.f79 qmx c79.ps c79.rs (T:=(Int×Int×Int×Int)) (fun y=>(y.2.1)) (e_0,tree_1,node_2,())=qfP e_0 tree_1 node_2:=by kernel_rfl
abbrev e50:List (Nat×Ctr):=[(74,c74),(75,c75),(76,c76),(77,c77),(78,c78),(79,c79)]
def qhg:LH
 | 14=>some ⟨qez,qfw,lp qaH K0⟩
 | 8=>some ⟨qeA,qfx,lp qbJ K0⟩
 | _=>none
theorem qqM (g:qez.V->Option (OT qfw)) (v:qez.V):q10q tb (envL e50) 63 qhg (q3q 7 (q4q Tryz.f50) .skip) qez qfw g v=qaH g v:=by kernel_rfl
theorem qqN (g:qeA.V->Option (OT qfx)) (v:qeA.V):q10q tb (envL e50) 63 qhg (q3q 4 (q4q Tryz.f50) .skip) qeA qfx g v=qbJ g v:=by kernel_rfl
theorem qqO (m_0:qaL):fnF tb (envL e50) Tryz.f50 qhg c50.ps c50.rs (T:=(Int×Int×Int×Int)) (fun y=>(y.2.1)) (m_0,())=qg2 m_0:=by kernel_rfl
abbrev e25:List (Nat×Ctr):=[(50,c50)]
def qpI:LH
 | _=>none
theorem quh (m_0:qaL):fnF tb (envL e25) Tryz.f25 qpI c25.ps c25.rs (T:=Bool) (fun y=>(y.2.1)) (m_0,())=qeG m_0:=by kernel_rfl
abbrev e44:List (Nat×Ctr):=[(25,c25)]
def qnh:LH
 | _=>none
theorem qrP (m_0:qaL) (row_1:List CELL):fnF tb (envL e44) Tryz.f44 qnh c44.ps c44.rs (T:=Int) (fun y=>(y.2.1)) (m_0,row_1,())=qeB m_0 row_1:=by kernel_rfl
abbrev e29:List (Nat×Ctr):=[(44,c44)]
def qnj:LH
 | _=>none
theorem qrR (m_0:qaL) (row_1:List CELL):fnF tb (envL e29) Tryz.f29 qnj c29.ps c29.rs (T:=Int) (fun y=>(y.2.1)) (m_0,row_1,())=qcO m_0 row_1:=by kernel_rfl
abbrev e73:List (Nat×Ctr):=[(61,c61),(63,c63)]
def qoC:LH
 | _=>none
theorem qsC (a_0:WH):fnF tb (envL e73) Tryz.f73 qoC c73.ps c73.rs (T:=WH) (fun y=>(y.2.1)) (a_0,())=qjc a_0:=by kernel_rfl
abbrev e47:List (Nat×Ctr):=[(35,c35),(73,c73)]
def qoO:LH
 | _=>none
theorem qs0 (a_0:RAT):fnF tb (envL e47) Tryz.f47 qoO c47.ps c47.rs (T:=RAT) (fun y=>(y.2.1)) (a_0,())=qis a_0:=by kernel_rfl
abbrev e22:List (Nat×Ctr):=[(19,c19),(47,c47)]
def qoL:LH
 | _=>none
theorem qsY (a_0:RAT) (b_1:RAT):fnF tb (envL e22) Tryz.f22 qoL c22.ps c22.rs (T:=RAT) (fun y=>(y.2.1)) (a_0,b_1,())=qhm a_0 b_1:=by kernel_rfl
abbrev e51:List (Nat×Ctr):=[(40,c40),(63,c63)]
def qpv:LH
 | _=>none
theorem qug (n_0:Int):fnF tb (envL e51) Tryz.f51 qpv c51.ps c51.rs (T:=WH) (fun y=>(y.2.1)) (n_0,())=qiO n_0:=by kernel_rfl
abbrev e52:List (Nat×Ctr):=[(41,c41),(61,c61),(73,c73),(80,c80)]
def qnr:LH
 | _=>none
theorem qrX (num_0:WH) (den_1:WH):fnF tb (envL e52) Tryz.f52 qnr c52.ps c52.rs (T:=RAT×Int) (fun y=>(y.2.1,y.2.2.1)) (num_0,den_1,())=qie num_0 den_1:=by kernel_rfl
abbrev e28:List (Nat×Ctr):=[(35,c35),(51,c51),(52,c52)]
def qnt:LH
 | _=>none
theorem qrY (n_0:Int) (d_1:Int):fnF tb (envL e28) Tryz.f28 qnt c28.ps c28.rs (T:=RAT) (fun y=>(y.2.1)) (n_0,d_1,())=qdc n_0 d_1:=by kernel_rfl
abbrev e64:List (Nat×Ctr):=[(16,c16)]
def qg5:LH
 | 6=>some ⟨qdd,qd2,lp qbt K0⟩
 | _=>none
theorem qn9 (g:qdd.V->Option (OT qd2)) (v:qdd.V):q10q tb (envL e64) 13 qg5 (q3q 3 (q4q Tryz.f64) .skip) qdd qd2 g v=qbt g v:=by kernel_rfl
theorem qoa (n_0:Int):fnF tb (envL e64) Tryz.f64 qg5 c64.ps c64.rs (T:=(List RAT)) (fun y=>(y.2.1)) (n_0,())=qfB n_0:=by kernel_rfl
abbrev e27:List (Nat×Ctr):=[(40,c40),(51,c51)]
def qpX:LH
 | _=>none
theorem quu (n_0:Int):fnF tb (envL e27) Tryz.f27 qpX c27.ps c27.rs (T:=RAT) (fun y=>(y.2.1)) (n_0,())=qiQ n_0:=by kernel_rfl
abbrev e26:List (Nat×Ctr):=[(27,c27)]
def qoM:LH
 | _=>none
theorem qsZ :fnF tb (envL e26) Tryz.f26 qoM c26.ps c26.rs (T:=RAT) (fun y=>(y.2.1)) ()=qgk :=by kernel_rfl
abbrev e93:List (Nat×Ctr):=[(26,c26)]
def qkZ:LH
 | _=>none
theorem qp5 :fnFB tb (envL e93) Tryz.f93 qkZ w93 c93.ps c93.rs (T:=(List (Int×RAT×CELL))) (fun y=>(y.2.1)) ()=qhp :=by kernel_rfl
abbrev e54:List (Nat×Ctr):=[(35,c35),(37,c37),(41,c41),(43,c43)]
def qoP:LH
 | _=>none
theorem qs1 (a_0:RAT) (b_1:RAT):fnF tb (envL e54) Tryz.f54 qoP c54.ps c54.rs (T:=RAT) (fun y=>(y.2.1)) (a_0,b_1,())=qaw a_0 b_1:=by kernel_rfl
abbrev e114:List (Nat×Ctr):=[]
def qeW:LH
 | 8=>some ⟨qbT,qcC,lp qam K0⟩
 | _=>none
theorem qkW (g:qbT.V->Option (OT qcC)) (v:qbT.V):q10q tb (envL e114) 29 qeW (q3q 4 (q4q Tryz.f114) .skip) qbT qcC g v=qam g v:=by kernel_rfl
theorem qkX (feature_0:Int) (b_1:List (Int×RAT×CELL)):fnFB tb (envL e114) Tryz.f114 qeW w114 c114.ps c114.rs (T:=Int×(List (Int×RAT×CELL))) (fun y=>(y.2.1,y.2.2.1)) (feature_0,b_1,())=qbE feature_0 b_1:=by kernel_rfl
abbrev e115:List (Nat×Ctr):=[]
def qeF:LH
 | 10=>some ⟨qbI,qct,lp qaF K0⟩
 | _=>none
theorem qkE (g:qbI.V->Option (OT qct)) (v:qbI.V):q10q tb (envL e115) 32 qeF (q3q 5 (q4q Tryz.f115) .skip) qbI qct g v=qaF g v:=by kernel_rfl
theorem qkF (b_0:List (Int×RAT×CELL)):fnFB tb (envL e115) Tryz.f115 qeF w115 c115.ps c115.rs (T:=(List PART)×(List (Int×RAT×CELL))) (fun y=>(y.2.1,y.2.2.1)) (b_0,())=qcv b_0:=by kernel_rfl
abbrev e128:List (Nat×Ctr):=[(35,c35),(38,c38),(52,c52)]
def qoR:LH
 | _=>none
theorem qs2 (a_0:RAT):fnF tb (envL e128) Tryz.f128 qoR c128.ps c128.rs (T:=RAT×Int) (fun y=>(y.2.1,y.2.2.1)) (a_0,())=qjs a_0:=by kernel_rfl
abbrev e127:List (Nat×Ctr):=[(22,c22),(28,c28),(54,c54),(128,c128)]
def qd4:LH
 | 14=>some ⟨qbk,qbR,lp qap K0⟩
 | _=>none
theorem qjy (g:qbk.V->Option (OT qbR)) (v:qbk.V):q10q tb (envL e127) 104 qd4 (q3q 7 (q4q Tryz.f127) .skip) qbk qbR g v=qap g v:=by kernel_rfl
theorem qjz (a_0:Int) (b_1:List (Int×RAT×CELL)):fnFB tb (envL e127) Tryz.f127 qd4 w127 c127.ps c127.rs (T:=(List RAT)×(List (Int×RAT×CELL))) (fun y=>(y.2.1,y.2.2.1)) (a_0,b_1,())=qbS a_0 b_1:=by kernel_rfl
abbrev e116:List (Nat×Ctr):=[(127,c127)]
def qel:LH
 | 16=>some ⟨qbx,qcg,lp qaA K0⟩
 | _=>none
theorem qj9 (g:qbx.V->Option (OT qcg)) (v:qbx.V):q10q tb (envL e116) 66 qel (q3q 8 (q4q Tryz.f116) .skip) qbx qcg g v=qaA g v:=by kernel_rfl
theorem qka (a_0:Int) (b_1:List (Int×RAT×CELL)):fnFB tb (envL e116) Tryz.f116 qel w116 c116.ps c116.rs (T:=Int×(List (Int×RAT×CELL))) (fun y=>(y.2.1,y.2.2.1)) (a_0,b_1,())=qcn a_0 b_1:=by kernel_rfl
abbrev e117:List (Nat×Ctr):=[(16,c16),(19,c19),(28,c28),(35,c35),(54,c54),(110,c110),(114,c114)]
def qem:LH
 | 20=>some ⟨qbl,qbU,lp qaq K0⟩
 | _=>none
theorem qjB (g:qbl.V->Option (OT qbU)) (v:qbl.V):q10q tb (envL e117) 113 qem (q3q 10 (q4q Tryz.f117) .skip) qbl qbU g v=qaq g v:=by kernel_rfl
theorem qkb (a_0:Int) (a_1:RAT) (a_2:Bool) (b_3:List (Int×RAT×CELL)):fnFB tb (envL e117) Tryz.f117 qem w117 c117.ps c117.rs (T:=Int×(List (Int×RAT×CELL))) (fun y=>(y.2.1,y.2.2.1)) (a_0,a_1,a_2,b_3,())=qaX a_0 a_1 a_2 b_3:=by kernel_rfl
abbrev e94:List (Nat×Ctr):=[(54,c54),(114,c114),(115,c115),(116,c116),(117,c117)]
def qgR:LH
 | _=>none
theorem qkC (b_0:Int) (b_1:Bool) (b_2:List Int) (b_3:List Int) (b_4:Int) (b_5:Bool) (b_6:List Int) (b_7:List Int) (b_8:Bool) (b_9:List (Int×RAT×CELL)):fnFB tb (envL e94) Tryz.f94 qgR w94 c94.ps c94.rs (T:=Int×Bool×(List Int)×(List Int)×Int×Bool×(List Int)×(List Int)×Bool×(List (Int×RAT×CELL))) (fun y=>(y.2.1,y.2.2.1,y.2.2.2.1,y.2.2.2.2.1,y.2.2.2.2.2.1,y.2.2.2.2.2.2.1,y.2.2.2.2.2.2.2.1,y.2.2.2.2.2.2.2.2.1,y.2.2.2.2.2.2.2.2.2.1,y.2.2.2.2.2.2.2.2.2.2.1)) (b_0,b_1,b_2,b_3,b_4,b_5,b_6,b_7,b_8,b_9,())=qa3 b_0 b_1 b_2 b_3 b_4 b_5 b_6 b_7 b_8 b_9:=by kernel_rfl
abbrev e18:List (Nat×Ctr):=[(16,c16),(19,c19)]
def qkT:LH
 | 6=>some ⟨qfW,qhl,lp qdy K0⟩
 | _=>none
theorem qsW (g:qfW.V->Option (OT qhl)) (v:qfW.V):q10q tb (envL e18) 18 qkT (q3q 3 (q4q Tryz.f18) .skip) qfW qhl g v=qdy g v:=by kernel_rfl
theorem qsX (l_0:List RAT):fnF tb (envL e18) Tryz.f18 qkT c18.ps c18.rs (T:=RAT) (fun y=>(y.2.1)) (l_0,())=qjr l_0:=by kernel_rfl
abbrev e118:List (Nat×Ctr):=[(18,c18),(127,c127)]
def qhR:LH
 | _=>none
theorem qmg (at_0:Int) (b_1:List (Int×RAT×CELL)):fnFB tb (envL e118) Tryz.f118 qhR w118 c118.ps c118.rs (T:=RAT×Int×(List (Int×RAT×CELL))) (fun y=>(y.2.1,y.2.2.1,y.2.2.2.1)) (at_0,b_1,())=qd5 at_0 b_1:=by kernel_rfl
abbrev e95:List (Nat×Ctr):=[(19,c19),(26,c26),(47,c47),(54,c54),(115,c115),(118,c118)]
def qek:LH
 | 6=>some ⟨qbw,qce,lp qas K0⟩
 | _=>none
theorem qj6 (g:qbw.V->Option (OT qce)) (v:qbw.V):q10q tb (envL e95) 69 qek (q3q 3 (q4q Tryz.f95) .skip) qbw qce g v=qas g v:=by kernel_rfl
theorem qj7 (a_0:Int) (a_1:Bool) (a_2:List Int) (a_3:List Int) (a_4:Int) (a_5:Bool) (a_6:List Int) (a_7:List Int) (a_8:Bool) (b_9:List NODE) (b_10:List CELL) (b_11:Int) (b_12:Bool) (b_13:List RAT) (b_14:List (Int×RAT×CELL)):fnFB tb (envL e95) Tryz.f95 qek w95 c95.ps c95.rs (T:=(List RAT)×(List NODE)×(List CELL)×Int×Bool×(List (Int×RAT×CELL))) (fun y=>(y.1.1,y.2.1,y.2.2.1,y.2.2.2.1,y.2.2.2.2.1,y.2.2.2.2.2.1)) (a_0,a_1,a_2,a_3,a_4,a_5,a_6,a_7,a_8,b_9,b_10,b_11,b_12,b_13,b_14,())=qbD a_0 a_1 a_2 a_3 a_4 a_5 a_6 a_7 a_8 b_9 b_10 b_11 b_12 b_13 b_14:=by kernel_rfl
abbrev e106:List (Nat×Ctr):=[(13,c13)]
def qng:LH
 | _=>none
theorem qrO (n_0:NODE) (c_1:CELL):fnF tb (envL e106) Tryz.f106 qng c106.ps c106.rs (T:=Bool) (fun y=>(y.2.1)) (n_0,c_1,())=qjn n_0 c_1:=by kernel_rfl
abbrev e109:List (Nat×Ctr):=[(106,c106)]
def qni:LH
 | _=>none
theorem qrQ (n_0:NODE) (c_1:CELL):fnF tb (envL e109) Tryz.f109 qni c109.ps c109.rs (T:=Bool) (fun y=>(y.2.1)) (n_0,c_1,())=qjo n_0 c_1:=by kernel_rfl
abbrev e119:List (Nat×Ctr):=[(54,c54),(128,c128)]
def qoS:LH
 | _=>none
theorem qs4 (a_0:RAT) (b_1:RAT):fnF tb (envL e119) Tryz.f119 qoS c119.ps c119.rs (T:=RAT×Int) (fun y=>(y.2.1,y.2.2.1)) (a_0,b_1,())=qjt a_0 b_1:=by kernel_rfl
abbrev e120:List (Nat×Ctr):=[]
def qho:LH
 | _=>none
theorem qkY (b_0:List (Int×RAT×CELL)):fnFB tb (envL e120) Tryz.f120 qho w120 c120.ps c120.rs (T:=(List (Int×RAT×CELL))×(List (Int×RAT×CELL))) (fun y=>(y.2.1,y.2.2.1)) (b_0,())=qdA b_0:=by kernel_rfl
abbrev e96:List (Nat×Ctr):=[(54,c54),(109,c109),(119,c119),(120,c120)]
def qfX:LH
 | _=>none
theorem qju (a_0:Int) (a_1:Bool) (a_2:List Int) (a_3:List Int) (a_4:Int) (a_5:Bool) (a_6:List Int) (a_7:List Int) (a_8:Bool) (a_9:Int) (a_10:Bool) (b_11:List NODE) (b_12:List CELL) (b_13:Int) (b_14:Bool) (b_15:List RAT) (b_16:List (Int×RAT×CELL)):fnFB tb (envL e96) Tryz.f96 qfX w96 c96.ps c96.rs (T:=(List RAT)×Int×Bool×(List Int)×(List Int)×Int×Bool×(List Int)×(List Int)×Bool×Bool×(List NODE)×(List CELL)×Int×Bool×(List (Int×RAT×CELL))×(List (Int×RAT×CELL))) (fun y=>(y.1.1,y.2.1,y.2.2.1,y.2.2.2.1,y.2.2.2.2.1,y.2.2.2.2.2.1,y.2.2.2.2.2.2.1,y.2.2.2.2.2.2.2.1,y.2.2.2.2.2.2.2.2.1,y.2.2.2.2.2.2.2.2.2.1,y.2.2.2.2.2.2.2.2.2.2.1,y.2.2.2.2.2.2.2.2.2.2.2.1,y.2.2.2.2.2.2.2.2.2.2.2.2.1,y.2.2.2.2.2.2.2.2.2.2.2.2.2.1,y.2.2.2.2.2.2.2.2.2.2.2.2.2.2.1,y.2.2.2.2.2.2.2.2.2.2.2.2.2.2.2.1,y.2.2.2.2.2.2.2.2.2.2.2.2.2.2.2.2.1)) (a_0,a_1,a_2,a_3,a_4,a_5,a_6,a_7,a_8,a_9,a_10,b_11,b_12,b_13,b_14,b_15,b_16,())=qbQ a_0 a_1 a_2 a_3 a_4 a_5 a_6 a_7 a_8 a_9 a_10 b_11 b_12 b_13 b_14 b_15 b_16:=by kernel_rfl
abbrev e65:List (Nat×Ctr):=[(26,c26),(93,c93),(94,c94),(95,c95),(96,c96)]
def qc5:LH
 | 18=>some ⟨qbu,qcc,lp qan K0⟩
 | 2=>some ⟨qbv,qcd,lp qar K0⟩
 | _=>none
theorem qj2 (g:qbu.V->Option (OT qcc)) (v:qbu.V):q10q tb (envL e65) 91 qc5 (q3q 9 (q4q Tryz.f65) .skip) qbu qcc g v=qan g v:=by kernel_rfl
theorem qj3 (g:qbv.V->Option (OT qcd)) (v:qbv.V):q10q tb (envL e65) 91 qc5 (q3q 1 (q4q Tryz.f65) .skip) qbv qcd g v=qar g v:=by kernel_rfl
theorem qj4 (b_0:List NODE) (b_1:List CELL) (b_2:Int) (b_3:Bool) (b_4:List RAT) (b_5:List (Int×(Option ((Option (List (Int×RAT×CELL)))×Unit))×RAT×PART)):fnFB tb (envL e65) Tryz.f65 qc5 w65 c65.ps c65.rs (T:=(List RAT)×(List NODE)×(List CELL)×Int×Bool×(List (Int×(Option ((Option (List (Int×RAT×CELL)))×Unit))×RAT×PART))) (fun y=>(y.1.1,y.2.1,y.2.2.1,y.2.2.2.1,y.2.2.2.2.1,y.2.2.2.2.2.1)) (b_0,b_1,b_2,b_3,b_4,b_5,())=qcm b_0 b_1 b_2 b_3 b_4 b_5:=by kernel_rfl
abbrev e39:List (Nat×Ctr):=[(64,c64),(65,c65)]
def qiu:LH
 | 6=>some ⟨qd3,qeV,lp qcf K0⟩
 | _=>none
theorem qp3 (g:qd3.V->Option (OT qeV)) (v:qd3.V):q10q tb (envL e39) 34 qiu (q3q 3 (q4q Tryz.f39) .skip) qd3 qeV g v=qcf g v:=by kernel_rfl
theorem qp4 (m_0:qaL) (row_1:List CELL) (fixed_2:Int) (on_3:Bool):fnF tb (envL e39) Tryz.f39 qiu c39.ps c39.rs (T:=(List RAT)) (fun y=>(y.2.1)) (m_0,row_1,fixed_2,on_3,())=qfY m_0 row_1 fixed_2 on_3:=by kernel_rfl
abbrev e53:List (Nat×Ctr):=[(29,c29),(39,c39)]
def qjC:LH
 | _=>none
theorem qob (m_0:qaL) (row_1:List CELL) (fixed_2:Int) (on_3:Bool):fnF tb (envL e53) Tryz.f53 qjC c53.ps c53.rs (T:=(List RAT)×Int) (fun y=>(y.2.1,y.2.2.1)) (m_0,row_1,fixed_2,on_3,())=qeE m_0 row_1 fixed_2 on_3:=by kernel_rfl
abbrev e30:List (Nat×Ctr):=[(22,c22),(28,c28),(53,c53),(54,c54)]
def qgt:LH
 | 10=>some ⟨qcQ,qdD,lp qbd K0⟩
 | _=>none
theorem qnM (g:qcQ.V->Option (OT qdD)) (v:qcQ.V):q10q tb (envL e30) 48 qgt (q3q 5 (q4q Tryz.f30) .skip) qcQ qdD g v=qbd g v:=by kernel_rfl
theorem qnN (m_0:qaL) (row_1:List CELL) (k_2:Int):fnF tb (envL e30) Tryz.f30 qgt c30.ps c30.rs (T:=(List RAT)) (fun y=>(y.2.1)) (m_0,row_1,k_2,())=qd9 m_0 row_1 k_2:=by kernel_rfl
abbrev e9:List (Nat×Ctr):=[(29,c29),(30,c30)]
def qkz:LH
 | _=>none
theorem qpc (m_0:qaL) (row_1:List CELL) (i_2:Int) (k_3:Int):fnF tb (envL e9) Tryz.f9 qkz c9.ps c9.rs (T:=RAT×Int) (fun y=>(y.2.1,y.2.2.1)) (m_0,row_1,i_2,k_3,())=qkk m_0 row_1 i_2 k_3:=by kernel_rfl
abbrev e8:List (Nat×Ctr):=[(9,c9),(17,c17),(26,c26),(27,c27),(28,c28)]
def qe8:LH
 | _=>none
theorem qlZ :fnF tb (envL e8) Tryz.f8 qe8 c8.ps c8.rs (T:=Bool) (fun y=>(y.2.1)) ()=qbg :=by kernel_rfl
abbrev e15:List (Nat×Ctr):=[(29,c29),(39,c39)]
def qiT:LH
 | _=>none
theorem qnx (m_0:qaL) (row_1:List CELL):fnF tb (envL e15) Tryz.f15 qiT c15.ps c15.rs (T:=(List RAT)×Int) (fun y=>(y.2.1,y.2.2.1)) (m_0,row_1,())=qdj m_0 row_1:=by kernel_rfl
abbrev qAg:List (Nat×Ctr):=[(16,c16),(19,c19)]
def qir:LH
 | 6=>some ⟨qd1,qeU,lp qcb K0⟩
 | _=>none
theorem qpV (g:qd1.V->Option (OT qeU)) (v:qd1.V):q10q tb (envL qAg) 18 qir (q3q 3 (q4q Tryz.f18) .skip) qd1 qeU g v=qcb g v:=by kernel_rfl
theorem qpW (l_0:List RAT):fnF tb (envL qAg) Tryz.f18 qir qy1.ps qy1.rs (T:=(List RAT)×RAT) (fun y=>(y.1.1,y.2.1)) (l_0,())=qhk l_0:=by kernel_rfl
abbrev e31:List (Nat×Ctr):=[(16,c16)]
def qfk:LH
 | 12=>some ⟨qdf,qd7,lp qbz K0⟩
 | 6=>some ⟨qdg,qd8,lp qbA K0⟩
 | _=>none
theorem qom (g:qdf.V->Option (OT qd7)) (v:qdf.V):q10q tbO (envL e31) 22 qfk (q3q 6 (q4q Tryz.f31) .skip) qdf qd7 g v=qbz g v:=by kernel_rfl
theorem qon (g:qdg.V->Option (OT qd8)) (v:qdg.V):q10q tbO (envL e31) 22 qfk (q3q 3 (q4q Tryz.f31) .skip) qdg qd8 g v=qbA g v:=by kernel_rfl
theorem qoo (n_0:Int):fnF tbO (envL e31) Tryz.f31 qfk c31.ps c31.rs (T:=(List (Option (List RAT)))) (fun y=>(y.2.1)) (n_0,())=qfL n_0:=by kernel_rfl
abbrev e10:List (Nat×Ctr):=[(15,c15),(18,qy1),(22,c22),(30,c30),(31,c31),(32,c32)]
def qdF:LH
 | 22=>some ⟨qcx,qdl,lp qa5 K0⟩
 | 14=>some ⟨qcR,qdE,lp qbe K0⟩
 | 36=>some ⟨qcw,qdk,lp qa4 K0⟩
 | _=>none
theorem qmT (g:qcx.V->Option (OT qdl)) (v:qcx.V):q10q tbO (envL e10) 91 qdF (q3q 11 (q4q Tryz.f10) .skip) qcx qdl g v=qa5 g v:=by kernel_rfl
theorem qnP (g:qcR.V->Option (OT qdE)) (v:qcR.V):q10q tbO (envL e10) 91 qdF (q3q 7 (q4q Tryz.f10) .skip) qcR qdE g v=qbe g v:=by kernel_rfl
theorem qmS (g:qcw.V->Option (OT qdk)) (v:qcw.V):q10q tbO (envL e10) 91 qdF (q3q 18 (q4q Tryz.f10) .skip) qcw qdk g v=qa4 g v:=by kernel_rfl
theorem qnQ (a_0:qaL) (a_1:List CELL):fnF tbO (envL e10) Tryz.f10 qdF c10.ps c10.rs (T:=(List (Option (List RAT)))×Int) (fun y=>(y.2.1,y.2.2.1)) (a_0,a_1,())=qcD a_0 a_1:=by kernel_rfl
abbrev e84:List (Nat×Ctr):=[]
def qe4:LH
 | 4=>some ⟨qb3,qcI,lp qa2 K0⟩
 | _=>none
theorem qlL (g:qb3.V->Option (OT qcI)) (v:qb3.V):q10q tb (envL e84) 14 qe4 (q3q 2 (q4q Tryz.f84) .skip) qb3 qcI g v=qa2 g v:=by kernel_rfl
theorem qlM (n_0:Int):fnF tb (envL e84) Tryz.f84 qe4 c84.ps c84.rs (T:=(List Int)) (fun y=>(y.2.1)) (n_0,())=qao n_0:=by kernel_rfl
abbrev e112:List (Nat×Ctr):=[]
def qhI:LH
 | _=>none
theorem qlE (a_0:List Int) (i_1:Int):fnF tb (envL e112) Tryz.f112 qhI c112.ps c112.rs (T:=Int) (fun y=>(y.2.1)) (a_0,i_1,())=qaO a_0 i_1:=by kernel_rfl
abbrev e88:List (Nat×Ctr):=[(112,c112)]
def qfs:LH
 | 8=>some ⟨qcp,qc1,lp qaI K0⟩
 | _=>none
theorem qmo (g:qcp.V->Option (OT qc1)) (v:qcp.V):q10q tb (envL e88) 41 qfs (q3q 4 (q4q Tryz.f88) .skip) qcp qc1 g v=qaI g v:=by kernel_rfl
theorem qmp (a_0:List Int) (b_1:List Int):fnF tb (envL e88) Tryz.f88 qfs c88.ps c88.rs (T:=(List Int)) (fun y=>(y.2.1)) (a_0,b_1,())=qdh a_0 b_1:=by kernel_rfl
abbrev e113:List (Nat×Ctr):=[]
def qfr:LH
 | 4=>some ⟨qco,qc0,lp qaY K0⟩
 | _=>none
theorem qml (g:qco.V->Option (OT qc0)) (v:qco.V):q10q tb (envL e113) 21 qfr (q3q 2 (q4q Tryz.f113) .skip) qco qc0 g v=qaY g v:=by kernel_rfl
theorem qmm (a_0:List Int):fnF tb (envL e113) Tryz.f113 qfr c113.ps c113.rs (T:=(List Int)) (fun y=>(y.2.1)) (a_0,())=qb0 a_0:=by kernel_rfl
abbrev e89:List (Nat×Ctr):=[(113,c113)]
def qdM:LH
 | 14=>some ⟨qb1,qcG,lp qaP K0⟩
 | 6=>some ⟨qb2,qcH,lp qa1 K0⟩
 | _=>none
theorem qlH (g:qb1.V->Option (OT qcG)) (v:qb1.V):q10q tb (envL e89) 63 qdM (q3q 7 (q4q Tryz.f89) .skip) qb1 qcG g v=qaP g v:=by kernel_rfl
theorem qlI (g:qb2.V->Option (OT qcH)) (v:qb2.V):q10q tb (envL e89) 63 qdM (q3q 3 (q4q Tryz.f89) .skip) qb2 qcH g v=qa1 g v:=by kernel_rfl
theorem qlJ (a_0:List Int) (b_1:List Int):fnF tb (envL e89) Tryz.f89 qdM c89.ps c89.rs (T:=(List Int)) (fun y=>(y.2.1)) (a_0,b_1,())=qbF a_0 b_1:=by kernel_rfl
abbrev e57:List (Nat×Ctr):=[(84,c84),(88,c88),(89,c89)]
def qft:LH
 | 8=>some ⟨qcr,qc3,lp qbb K0⟩
 | _=>none
theorem qmu (g:qcr.V->Option (OT qc3)) (v:qcr.V):q10q tb (envL e57) 26 qft (q3q 4 (q4q Tryz.f57) .skip) qcr qc3 g v=qbb g v:=by kernel_rfl
theorem qmv (a_0:List Int):fnF tb (envL e57) Tryz.f57 qft c57.ps c57.rs (T:=(List Int)) (fun y=>(y.2.1)) (a_0,())=qaM a_0:=by kernel_rfl
abbrev e91:List (Nat×Ctr):=[]
def qhX:LH
 | _=>none
theorem qmi (neg_0:Bool) (n_1:List Int):fnF tb (envL e91) Tryz.f91 qhX c91.ps c91.rs (T:=(Bool×List Int)) (fun y=>(y.2.1)) (neg_0,n_1,())=qbZ neg_0 n_1:=by kernel_rfl
abbrev e90:List (Nat×Ctr):=[(84,c84),(88,c88),(91,c91)]
def qhG:LH
 | _=>none
theorem qlC (n_0:Int):fnF tb (envL e90) Tryz.f90 qhG c90.ps c90.rs (T:=(Bool×List Int)) (fun y=>(y.2.1)) (n_0,())=qeK n_0:=by kernel_rfl
abbrev e58:List (Nat×Ctr):=[(84,c84),(90,c90)]
def qhC:LH
 | _=>none
theorem qly (n_0:Int) (d_1:Int):fnF tb (envL e58) Tryz.f58 qhC c58.ps c58.rs (T:=((Bool×List Int)×List Int)) (fun y=>(y.2.1)) (n_0,d_1,())=qeJ n_0 d_1:=by kernel_rfl
abbrev e59:List (Nat×Ctr):=[(57,c57),(91,c91)]
def qhY:LH
 | _=>none
theorem qmj (a_0:WH):fnF tb (envL e59) Tryz.f59 qhY c59.ps c59.rs (T:=(Bool×List Int)) (fun y=>(y.2.1)) (a_0,())=qeb a_0:=by kernel_rfl
abbrev e34:List (Nat×Ctr):=[(57,c57),(58,c58),(59,c59)]
def qhW:LH
 | _=>none
theorem qmh (a_0:RAT):fnF tb (envL e34) Tryz.f34 qhW c34.ps c34.rs (T:=((Bool×List Int)×List Int)) (fun y=>(y.2.1)) (a_0,())=qbY a_0:=by kernel_rfl
abbrev e81:List (Nat×Ctr):=[]
def qe5:LH
 | 4=>some ⟨qb4,qcJ,lp qaQ K0⟩
 | _=>none
theorem qlO (g:qb4.V->Option (OT qcJ)) (v:qb4.V):q10q tb (envL e81) 27 qe5 (q3q 2 (q4q Tryz.f81) .skip) qb4 qcJ g v=qaQ g v:=by kernel_rfl
theorem qlP (a_0:List Int):fnF tb (envL e81) Tryz.f81 qe5 c81.ps c81.rs (T:=Bool) (fun y=>(y.2.1)) (a_0,())=qcT a_0:=by kernel_rfl
abbrev e83:List (Nat×Ctr):=[]
def qe6:LH
 | 12=>some ⟨qb6,qcL,lp qaD K0⟩
 | _=>none
theorem qlT (g:qb6.V->Option (OT qcL)) (v:qb6.V):q10q tb (envL e83) 41 qe6 (q3q 6 (q4q Tryz.f83) .skip) qb6 qcL g v=qaD g v:=by kernel_rfl
theorem qlU (a_0:List Int) (b_1:List Int):fnF tb (envL e83) Tryz.f83 qe6 c83.ps c83.rs (T:=Int) (fun y=>(y.2.1)) (a_0,b_1,())=qal a_0 b_1:=by kernel_rfl
abbrev e126:List (Nat×Ctr):=[(112,c112),(113,c113)]
def qe7:LH
 | 8=>some ⟨qb7,qcM,lp qaR K0⟩
 | _=>none
theorem qlW (g:qb7.V->Option (OT qcM)) (v:qb7.V):q10q tb (envL e126) 35 qe7 (q3q 4 (q4q Tryz.f126) .skip) qb7 qcM g v=qaR g v:=by kernel_rfl
theorem qlX (a_0:List Int) (b_1:List Int):fnF tb (envL e126) Tryz.f126 qe7 c126.ps c126.rs (T:=(List Int)) (fun y=>(y.2.1)) (a_0,b_1,())=qdN a_0 b_1:=by kernel_rfl
abbrev e111:List (Nat×Ctr):=[(83,c83),(84,c84),(89,c89),(113,c113),(126,c126)]
def qdT:LH
 | 24=>some ⟨qb5,qcK,lp qaC K0⟩
 | 8=>some ⟨qcq,qc2,lp qba K0⟩
 | _=>none
theorem qlR (g:qb5.V->Option (OT qcK)) (v:qb5.V):q10q tb (envL e111) 65 qdT (q3q 12 (q4q Tryz.f111) .skip) qb5 qcK g v=qaC g v:=by kernel_rfl
theorem qmr (g:qcq.V->Option (OT qc2)) (v:qcq.V):q10q tb (envL e111) 65 qdT (q3q 4 (q4q Tryz.f111) .skip) qcq qc2 g v=qba g v:=by kernel_rfl
theorem qms (a_0:List Int) (a_1:List Int):fnF tb (envL e111) Tryz.f111 qdT c111.ps c111.rs (T:=(List Int)×(List Int)) (fun y=>(y.2.1,y.2.2.1)) (a_0,a_1,())=qec a_0 a_1:=by kernel_rfl
abbrev e82:List (Nat×Ctr):=[(111,c111)]
def qfS:LH
 | 2=>some ⟨qcy,qdn,lp qbr K0⟩
 | _=>none
theorem qmY (g:qcy.V->Option (OT qdn)) (v:qcy.V):q10q tb (envL e82) 19 qfS (q3q 1 (q4q Tryz.f82) .skip) qcy qdn g v=qbr g v:=by kernel_rfl
theorem qmZ (a_0:List Int) (b_1:List Int):fnF tb (envL e82) Tryz.f82 qfS c82.ps c82.rs (T:=(List Int)) (fun y=>(y.2.1)) (a_0,b_1,())=qcW a_0 b_1:=by kernel_rfl
abbrev e55:List (Nat×Ctr):=[(57,c57),(81,c81),(82,c82),(83,c83),(84,c84)]
def qhD:LH
 | _=>none
theorem qlz (a_0:RAT):fnF tb (envL e55) Tryz.f55 qhD c55.ps c55.rs (T:=Bool) (fun y=>(y.2.1)) (a_0,())=qdJ a_0:=by kernel_rfl
abbrev e85:List (Nat×Ctr):=[(83,c83)]
def qhH:LH
 | _=>none
theorem qlD (a_0:Bool×List Int) (b_1:Bool×List Int):fnF tb (envL e85) Tryz.f85 qhH c85.ps c85.rs (T:=Int) (fun y=>(y.2.1)) (a_0,b_1,())=qdL a_0 b_1:=by kernel_rfl
abbrev e86:List (Nat×Ctr):=[(89,c89),(91,c91)]
def qhF:LH
 | _=>none
theorem qlB (a_0:Bool×List Int) (b_1:Bool×List Int):fnF tb (envL e86) Tryz.f86 qhF c86.ps c86.rs (T:=(Bool×List Int)) (fun y=>(y.2.1)) (a_0,b_1,())=qcS a_0 b_1:=by kernel_rfl
abbrev e87:List (Nat×Ctr):=[(91,c91)]
def qiL:LH
 | _=>none
theorem qmW (a_0:(Bool×List Int)×List Int):fnF tb (envL e87) Tryz.f87 qiL c87.ps c87.rs (T:=(Bool×List Int)) (fun y=>(y.2.1)) (a_0,())=qet a_0:=by kernel_rfl
abbrev e56:List (Nat×Ctr):=[(85,c85),(86,c86),(87,c87)]
def qhE:LH
 | _=>none
theorem qlA (a_0:(Bool×List Int)×List Int) (b_1:(Bool×List Int)×List Int):fnF tb (envL e56) Tryz.f56 qhE c56.ps c56.rs (T:=Int) (fun y=>(y.2.1)) (a_0,b_1,())=qdK a_0 b_1:=by kernel_rfl
abbrev e33:List (Nat×Ctr):=[(34,c34),(55,c55),(56,c56)]
def qiY:LH
 | _=>none
theorem qnW (a_0:RAT) (x_1:(Bool×List Int)×List Int):fnF tb (envL e33) Tryz.f33 qiY c33.ps c33.rs (T:=Bool) (fun y=>(y.2.1)) (a_0,x_1,())=qgD a_0 x_1:=by kernel_rfl
abbrev e11:List (Nat×Ctr):=[(33,c33),(34,c34)]
def qiX:LH
 | _=>none
theorem qnV (a_0:RAT) (b_1:RAT):fnF tb (envL e11) Tryz.f11 qiX c11.ps c11.rs (T:=Bool) (fun y=>(y.2.1)) (a_0,b_1,())=qea a_0 b_1:=by kernel_rfl
abbrev e14:List (Nat×Ctr):=[(35,c35)]
def qoV:LH
 | _=>none
theorem qs7 (a_0:RAT):fnF tb (envL e14) Tryz.f14 qoV c14.ps c14.rs (T:=RAT) (fun y=>(y.2.1)) (a_0,())=qgl a_0:=by kernel_rfl
abbrev e12:List (Nat×Ctr):=[(10,c10),(13,c13),(14,c14)]
def qdG:LH
 | 18=>some ⟨qbW,qcE,lp qav K0⟩
 | 12=>some ⟨qbX,qcF,lp qaN K0⟩
 | _=>none
theorem qlm (g:qbW.V->Option (OT qcE)) (v:qbW.V):q10q tb (envL e12) 71 qdG (q3q 9 (q4q Tryz.f12) .skip) qbW qcE g v=qav g v:=by kernel_rfl
theorem qln (g:qbX.V->Option (OT qcF)) (v:qbX.V):q10q tb (envL e12) 71 qdG (q3q 6 (q4q Tryz.f12) .skip) qbX qcF g v=qaN g v:=by kernel_rfl
theorem qlo (a_0:qaL) (a_1:List CELL):fnF tb (envL e12) Tryz.f12 qdG c12.ps c12.rs (T:=Int×Int×RAT×Bool) (fun y=>(y.2.1,y.2.2.1,y.2.2.2.1,y.2.2.2.2.1)) (a_0,a_1,())=qbf a_0 a_1:=by kernel_rfl
abbrev e4:List (Nat×Ctr):=[(6,c6),(8,c8),(10,c10),(11,c11),(12,c12),(13,c13),(14,c14)]
def qaT:LH
 | 38=>some ⟨qat,qaJ,lp qae K0⟩
 | 18=>some ⟨qay,qaS,lp qag K0⟩
 | 32=>some ⟨qau,qaK,lp qaf K0⟩
 | _=>none
theorem qge (g:qat.V->Option (OT qaJ)) (v:qat.V):q10q tb (envL e4) 155 qaT (q3q 19 (q4q Tryz.f4) .skip) qat qaJ g v=qae g v:=by kernel_rfl
theorem qgN (g:qay.V->Option (OT qaS)) (v:qay.V):q10q tb (envL e4) 155 qaT (q3q 9 (q4q Tryz.f4) .skip) qay qaS g v=qag g v:=by kernel_rfl
theorem qgf (g:qau.V->Option (OT qaK)) (v:qau.V):q10q tb (envL e4) 155 qaT (q3q 16 (q4q Tryz.f4) .skip) qau qaK g v=qaf g v:=by kernel_rfl
theorem qgO (a_0:qaL) (a_1:List CELL):fnF tb (envL e4) Tryz.f4 qaT c4.ps c4.rs (T:=Bool) (fun y=>(y.2.1)) (a_0,a_1,())=qbG a_0 a_1:=by kernel_rfl
end Go.Proofs.YtaeiamdjpkgjpaaGreatDoor.X
