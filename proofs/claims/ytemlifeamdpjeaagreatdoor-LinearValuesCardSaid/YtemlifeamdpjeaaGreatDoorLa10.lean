/- Own work: part of the proof; the first line of each part says what it tells. -/
import Derived.Test.YtemlifeamdpjeaaGreatDoorLa6


namespace Go.Proofs.YtemlifeamdpjeaaGreatDoor.X
open Go
set_option linter.unusedVariables false
set_option linter.unusedSimpArgs false
set_option maxRecDepth 100000
abbrev e27:List (Nat×Ctr):=[]
def qg7:LH
 | _=>none
theorem qlc (a_0:RAT):fnF tb (envL e27) Tryz.f27 qg7 c27.ps c27.rs (T:=RAT) (fun y=>(y.2.1)) (a_0,())=qbC a_0:=by kernel_rfl
abbrev e10:List (Nat×Ctr):=[(27,c27)]
def qej:LH
 | 14=>some ⟨qcn,qc6,lp qaJ K0⟩
 | 6=>some ⟨qco,qc7,lp qaK K0⟩
 | _=>none
theorem qnC (g:qcn.V→Option (OT qc6)) (v:qcn.V):q10q tb (envL e10) 67 qej (q3q 7 (q4q Tryz.f10) .skip) qcn qc6 g v=qaJ g v:=by kernel_rfl
theorem qnD (g:qco.V→Option (OT qc7)) (v:qco.V):q10q tb (envL e10) 67 qej (q3q 3 (q4q Tryz.f10) .skip) qco qc7 g v=qaK g v:=by kernel_rfl
theorem qnE (a_0:qbf):fnF tb (envL e10) Tryz.f10 qej c10.ps c10.rs (T:=qbf) (fun y=>(y.2.1)) (a_0,())=qep a_0:=by kernel_rfl
abbrev e28:List (Nat×Ctr):=[]
def qg6:LH
 | _=>none
theorem qlb (a_0:RAT):fnF tb (envL e28) Tryz.f28 qg6 c28.ps c28.rs (T:=RAT) (fun y=>(y.2.1)) (a_0,())=qc4 a_0:=by kernel_rfl
abbrev e11:List (Nat×Ctr):=[(28,c28)]
def qf3:LH
 | 6=>some ⟨qcm,qc5,lp qaV K0⟩
 | _=>none
theorem qny (g:qcm.V→Option (OT qc5)) (v:qcm.V):q10q tb (envL e11) 32 qf3 (q3q 3 (q4q Tryz.f11) .skip) qcm qc5 g v=qaV g v:=by kernel_rfl
theorem qnz (l_0:List CELL) (n_1:Int):fnF tb (envL e11) Tryz.f11 qf3 c11.ps c11.rs (T:=(List CELL)) (fun y=>(y.2.1)) (l_0,n_1,())=qcK l_0 n_1:=by kernel_rfl
abbrev e4:List (Nat×Ctr):=[(10,c10),(11,c11)]
def qh5:LH
 | _=>none
theorem qmm (m_0:qbf) (row_1:List CELL):fnF tb (envL e4) Tryz.f4 qh5 c4.ps c4.rs (T:=qbf×(List CELL)) (fun y=>(y.2.1,y.2.2.1)) (m_0,row_1,())=qcI m_0 row_1:=by kernel_rfl
abbrev e78:List (Nat×Ctr):=[]
def qin:LH
 | 18=>some ⟨qfm,qgH,lp qb5 K0⟩
 | 8=>some ⟨qfn,qgI,lp qbl K0⟩
 | _=>none
theorem qs9 (g:qfm.V→Option (OT qgH)) (v:qfm.V):q10q tb (envL e78) 72 qin (q3q 9 (q4q Tryz.f78) .skip) qfm qgH g v=qb5 g v:=by kernel_rfl
theorem qta (g:qfn.V→Option (OT qgI)) (v:qfn.V):q10q tb (envL e78) 72 qin (q3q 4 (q4q Tryz.f78) .skip) qfn qgI g v=qbl g v:=by kernel_rfl
theorem qtb (a_0:qbf):fnF tb (envL e78) Tryz.f78 qin c78.ps c78.rs (T:=Bool) (fun y=>(y.2.1)) (a_0,())=qj8 a_0:=by kernel_rfl
abbrev e79:List (Nat×Ctr):=[]
def qiK:LH
 | 4=>some ⟨qdN,qeQ,lp qa9 K0⟩
 | _=>none
theorem qqn (g:qdN.V→Option (OT qeQ)) (v:qdN.V):q10q tb (envL e79) 52 qiK (q3q 2 (q4q Tryz.f79) .skip) qdN qeQ g v=qa9 g v:=by kernel_rfl
theorem qqo (t_0:List NODE) (features_1:Int):fnF tb (envL e79) Tryz.f79 qiK c79.ps c79.rs (T:=Int×Int) (fun y=>(y.2.1,y.2.2.1)) (t_0,features_1,())=qf4 t_0 features_1:=by kernel_rfl
abbrev e80:List (Nat×Ctr):=[]
def qet:LH
 | 6=>some ⟨qeu,qfA,lp qbU K0⟩
 | 20=>some ⟨qdM,qeP,lp qaW K0⟩
 | 34=>some ⟨qdL,qeO,lp qbV K0⟩
 | 50=>some ⟨qdK,qeN,lp qa8 K0⟩
 | _=>none
theorem qrw (g:qeu.V→Option (OT qfA)) (v:qeu.V):q10q tb (envL e80) 103 qet (q3q 3 (q4q Tryz.f80) .skip) qeu qfA g v=qbU g v:=by kernel_rfl
theorem qql (g:qdM.V→Option (OT qeP)) (v:qdM.V):q10q tb (envL e80) 103 qet (q3q 10 (q4q Tryz.f80) .skip) qdM qeP g v=qaW g v:=by kernel_rfl
theorem qqk (g:qdL.V→Option (OT qeO)) (v:qdL.V):q10q tb (envL e80) 103 qet (q3q 17 (q4q Tryz.f80) .skip) qdL qeO g v=qbV g v:=by kernel_rfl
theorem qqj (g:qdK.V→Option (OT qeN)) (v:qdK.V):q10q tb (envL e80) 103 qet (q3q 25 (q4q Tryz.f80) .skip) qdK qeN g v=qa8 g v:=by kernel_rfl
theorem qrx (a_0:List NODE):fnF tb (envL e80) Tryz.f80 qet c80.ps c80.rs (T:=Int×Int) (fun y=>(y.2.1,y.2.2.1)) (a_0,())=qiJ a_0:=by kernel_rfl
abbrev e55:List (Nat×Ctr):=[]
def qnf:LH
 | 4=>some ⟨qhl,qiT,lp qef K0⟩
 | _=>none
theorem qvZ (g:qhl.V→Option (OT qiT)) (v:qhl.V):q10q tb (envL e55) 23 qnf (q3q 2 (q4q Tryz.f55) .skip) qhl qiT g v=qef g v:=by kernel_rfl
theorem qv0 (a_0:List Int):fnF tb (envL e55) Tryz.f55 qnf c55.ps c55.rs (T:=(List Int)) (fun y=>(y.2.1)) (a_0,())=qeH a_0:=by kernel_rfl
abbrev e30:List (Nat×Ctr):=[(55,c55)]
def quL:LH
 | _=>none
theorem qzv (n_0:Int):fnF tb (envL e30) Tryz.f30 quL c30.ps c30.rs (T:=(List Int)) (fun y=>(y.2.1)) (n_0,())=qlG n_0:=by kernel_rfl
abbrev e13:List (Nat×Ctr):=[(30,c30)]
def qnY:LH
 | _=>none
theorem qsP :fnF tb (envL e13) Tryz.f13 qnY c13.ps c13.rs (T:=RAT) (fun y=>(y.2.1)) ()=qdQ :=by kernel_rfl
abbrev e56:List (Nat×Ctr):=[(55,c55)]
def qlI:LH
 | 6=>some ⟨qgn,qhX,lp qdr K0⟩
 | _=>none
theorem quN (g:qgn.V→Option (OT qhX)) (v:qgn.V):q10q tb (envL e56) 24 qlI (q3q 3 (q4q Tryz.f56) .skip) qgn qhX g v=qdr g v:=by kernel_rfl
theorem quO (a_0:List Int):fnF tb (envL e56) Tryz.f56 qlI c56.ps c56.rs (T:=(List Int)) (fun y=>(y.2.1)) (a_0,())=qb4 a_0:=by kernel_rfl
abbrev e120:List (Nat×Ctr):=[(56,c56)]
def quK:LH
 | _=>none
theorem qzu (a_0:List Int):fnF tb (envL e120) Tryz.f120 quK c120.ps c120.rs (T:=Int×Bool) (fun y=>(y.2.1,y.2.2.1)) (a_0,())=qr7 a_0:=by kernel_rfl
abbrev e96:List (Nat×Ctr):=[(30,c30),(120,c120)]
def qkH:LH
 | 6=>some ⟨qfj,qgG,lp qdq K0⟩
 | _=>none
theorem qs3 (g:qfj.V→Option (OT qgG)) (v:qfj.V):q10q tb (envL e96) 27 qkH (q3q 3 (q4q Tryz.f96) .skip) qfj qgG g v=qdq g v:=by kernel_rfl
theorem qs4 (a_0:List Int) (b_1:List Int):fnF tb (envL e96) Tryz.f96 qkH c96.ps c96.rs (T:=(List Int)) (fun y=>(y.2.1)) (a_0,b_1,())=qj3 a_0 b_1:=by kernel_rfl
abbrev e97:List (Nat×Ctr):=[(121,c121)]
def qlz:LH
 | 6=>some ⟨qgh,qhR,lp qd7 K0⟩
 | _=>none
theorem quw (g:qgh.V→Option (OT qhR)) (v:qgh.V):q10q tb (envL e97) 24 qlz (q3q 3 (q4q Tryz.f97) .skip) qgh qhR g v=qd7 g v:=by kernel_rfl
theorem qux (a_0:List Int):fnF tb (envL e97) Tryz.f97 qlz c97.ps c97.rs (T:=Int) (fun y=>(y.2.1)) (a_0,())=qci a_0:=by kernel_rfl
abbrev e105:List (Nat×Ctr):=[]
def qqW:LH
 | _=>none
theorem qv8 (a_0:List Int) (i_1:Int):fnF tb (envL e105) Tryz.f105 qqW c105.ps c105.rs (T:=Int) (fun y=>(y.2.1)) (a_0,i_1,())=qhA a_0 i_1:=by kernel_rfl
abbrev e98:List (Nat×Ctr):=[(55,c55),(105,c105)]
def qoU:LH
 | 12=>some ⟨qiB,qj1,lp qfh K0⟩
 | _=>none
theorem qxU (g:qiB.V→Option (OT qj1)) (v:qiB.V):q10q tb (envL e98) 50 qoU (q3q 6 (q4q Tryz.f98) .skip) qiB qj1 g v=qfh g v:=by kernel_rfl
theorem qxV (a_0:List Int) (n_1:Int):fnF tb (envL e98) Tryz.f98 qoU c98.ps c98.rs (T:=(List Int)) (fun y=>(y.2.1)) (a_0,n_1,())=qeg a_0 n_1:=by kernel_rfl
abbrev e99:List (Nat×Ctr):=[]
def qlC:LH
 | 12=>some ⟨qgj,qhT,lp qcT K0⟩
 | _=>none
theorem quC (g:qgj.V→Option (OT qhT)) (v:qgj.V):q10q tb (envL e99) 45 qlC (q3q 6 (q4q Tryz.f99) .skip) qgj qhT g v=qcT g v:=by kernel_rfl
theorem quD (a_0:List Int) (b_1:List Int):fnF tb (envL e99) Tryz.f99 qlC c99.ps c99.rs (T:=Int) (fun y=>(y.2.1)) (a_0,b_1,())=qhU a_0 b_1:=by kernel_rfl
abbrev e100:List (Nat×Ctr):=[(55,c55)]
def qoV:LH
 | 8=>some ⟨qiC,qj2,lp qfi K0⟩
 | _=>none
theorem qxX (g:qiC.V→Option (OT qj2)) (v:qiC.V):q10q tb (envL e100) 51 qoV (q3q 4 (q4q Tryz.f100) .skip) qiC qj2 g v=qfi g v:=by kernel_rfl
theorem qxY (a_0:List Int) (n_1:Int):fnF tb (envL e100) Tryz.f100 qoV c100.ps c100.rs (T:=(List Int)) (fun y=>(y.2.1)) (a_0,n_1,())=qiV a_0 n_1:=by kernel_rfl
abbrev e103:List (Nat×Ctr):=[(55,c55)]
def qlA:LH
 | 8=>some ⟨qgi,qhS,lp qd8 K0⟩
 | _=>none
theorem quz (g:qgi.V→Option (OT qhS)) (v:qgi.V):q10q tb (envL e103) 38 qlA (q3q 4 (q4q Tryz.f103) .skip) qgi qhS g v=qd8 g v:=by kernel_rfl
theorem quA (a_0:List Int) (d_1:Int):fnF tb (envL e103) Tryz.f103 qlA c103.ps c103.rs (T:=(List Int)×Int) (fun y=>(y.2.1,y.2.2.1)) (a_0,d_1,())=qlB a_0 d_1:=by kernel_rfl
abbrev e122:List (Nat×Ctr):=[(130,c130)]
def qg8:LH
 | _=>none
theorem qld (x_0:Int):fnF tb (envL e122) Tryz.f122 qg8 c122.ps c122.rs (T:=Int) (fun y=>(y.2.1)) (x_0,())=qc8 x_0:=by kernel_rfl
abbrev e131:List (Nat×Ctr):=[(105,c105)]
def qng:LH
 | 6=>some ⟨qhm,qiU,lp qeZ K0⟩
 | _=>none
theorem qv2 (g:qhm.V→Option (OT qiU)) (v:qhm.V):q10q tb (envL e131) 46 qng (q3q 3 (q4q Tryz.f131) .skip) qhm qiU g v=qeZ g v:=by kernel_rfl
theorem qv3 (u_0:List Int) (v_1:List Int) (times_2:Int):fnF tb (envL e131) Tryz.f131 qng c131.ps c131.rs (T:=(List Int)×Bool) (fun y=>(y.1.1,y.2.1)) (u_0,v_1,times_2,())=qof u_0 v_1 times_2:=by kernel_rfl
abbrev e132:List (Nat×Ctr):=[(105,c105)]
def qni:LH
 | 4=>some ⟨qho,qiX,lp qe0 K0⟩
 | _=>none
theorem qwa (g:qho.V→Option (OT qiX)) (v:qho.V):q10q tb (envL e132) 29 qni (q3q 2 (q4q Tryz.f132) .skip) qho qiX g v=qe0 g v:=by kernel_rfl
theorem qwb (u_0:List Int) (v_1:List Int):fnF tb (envL e132) Tryz.f132 qni c132.ps c132.rs (T:=(List Int)) (fun y=>(y.1.1)) (u_0,v_1,())=qoj u_0 v_1:=by kernel_rfl
abbrev e123:List (Nat×Ctr):=[(131,c131),(132,c132)]
def qlE:LH
 | 8=>some ⟨qgl,qhW,lp qbJ K0⟩
 | _=>none
theorem quI (g:qgl.V→Option (OT qhW)) (v:qgl.V):q10q tb (envL e123) 77 qlE (q3q 4 (q4q Tryz.f123) .skip) qgl qhW g v=qbJ g v:=by kernel_rfl
theorem quJ (a_0:List Int) (a_1:List Int):fnF tb (envL e123) Tryz.f123 qlE c123.ps c123.rs (T:=(List Int)×Int) (fun y=>(y.1.1,y.2.1)) (a_0,a_1,())=qj4 a_0 a_1:=by kernel_rfl
abbrev e104:List (Nat×Ctr):=[(55,c55),(98,c98),(100,c100),(122,c122),(123,c123)]
def qnh:LH
 | 14=>some ⟨qhn,qiW,lp qeh K0⟩
 | _=>none
theorem qv6 (g:qhn.V→Option (OT qiW)) (v:qhn.V):q10q tb (envL e104) 64 qnh (q3q 7 (q4q Tryz.f104) .skip) qhn qiW g v=qeh g v:=by kernel_rfl
theorem qv7 (a_0:List Int) (b_1:List Int):fnF tb (envL e104) Tryz.f104 qnh c104.ps c104.rs (T:=(List Int)×(List Int)) (fun y=>(y.2.1,y.2.2.1)) (a_0,b_1,())=qoi a_0 b_1:=by kernel_rfl
abbrev e59:List (Nat×Ctr):=[(30,c30),(56,c56),(99,c99),(103,c103),(104,c104)]
def qok:LH
 | _=>none
theorem qs5 (a_0:List Int) (b_1:List Int):fnF tb (envL e59) Tryz.f59 qok c59.ps c59.rs (T:=(List Int)×(List Int)×Int) (fun y=>(y.2.1,y.2.2.1,y.2.2.2.1)) (a_0,b_1,())=qfl a_0 b_1:=by kernel_rfl
abbrev e101:List (Nat×Ctr):=[(59,c59)]
def qqV:LH
 | _=>none
theorem qv4 (a_0:List Int) (b_1:List Int):fnF tb (envL e101) Tryz.f101 qqV c101.ps c101.rs (T:=(List Int)×(List Int)) (fun y=>(y.2.1,y.2.2.1)) (a_0,b_1,())=qjh a_0 b_1:=by kernel_rfl
abbrev e102:List (Nat×Ctr):=[(55,c55),(105,c105)]
def qlD:LH
 | 8=>some ⟨qgk,qhV,lp qd9 K0⟩
 | _=>none
theorem quF (g:qgk.V→Option (OT qhV)) (v:qgk.V):q10q tb (envL e102) 39 qlD (q3q 4 (q4q Tryz.f102) .skip) qgk qhV g v=qd9 g v:=by kernel_rfl
theorem quG (a_0:List Int) (b_1:List Int):fnF tb (envL e102) Tryz.f102 qlD c102.ps c102.rs (T:=(List Int)) (fun y=>(y.2.1)) (a_0,b_1,())=qgF a_0 b_1:=by kernel_rfl
abbrev e58:List (Nat×Ctr):=[(56,c56),(96,c96),(97,c97),(98,c98),(99,c99),(100,c100),(101,c101),(102,c102)]
def qoW:LH
 | 20=>some ⟨qhp,qiY,lp qb3 K0⟩
 | _=>none
theorem qwd (g:qhp.V→Option (OT qiY)) (v:qhp.V):q10q tb (envL e58) 86 qoW (q3q 10 (q4q Tryz.f58) .skip) qhp qiY g v=qb3 g v:=by kernel_rfl
theorem qx5 (a_0:List Int) (a_1:List Int):fnF tb (envL e58) Tryz.f58 qoW c58.ps c58.rs (T:=(List Int)) (fun y=>(y.2.1)) (a_0,a_1,())=qqX a_0 a_1:=by kernel_rfl
abbrev e32:List (Nat×Ctr):=[(30,c30),(58,c58),(59,c59)]
def qnX:LH
 | _=>none
theorem qsO (num_0:WH) (den_1:List Int):fnF tb (envL e32) Tryz.f32 qnX c32.ps c32.rs (T:=RAT) (fun y=>(y.2.1)) (num_0,den_1,())=qeA num_0 den_1:=by kernel_rfl
abbrev e60:List (Nat×Ctr):=[]
def qnJ:LH
 | _=>none
theorem qsu (neg_0:Bool) (abs_1:List Int):fnF tb (envL e60) Tryz.f60 qnJ c60.ps c60.rs (T:=WH) (fun y=>(y.2.1)) (neg_0,abs_1,())=qdG neg_0 abs_1:=by kernel_rfl
abbrev e57:List (Nat×Ctr):=[(56,c56),(60,c60)]
def qmR:LH
 | _=>none
theorem qru (a_0:WH):fnF tb (envL e57) Tryz.f57 qmR c57.ps c57.rs (T:=WH) (fun y=>(y.2.1)) (a_0,())=qbA a_0:=by kernel_rfl
abbrev e31:List (Nat×Ctr):=[(13,c13),(32,c32),(56,c56),(57,c57)]
def qmV:LH
 | _=>none
theorem qrE (a_0:RAT):fnF tb (envL e31) Tryz.f31 qmV c31.ps c31.rs (T:=RAT) (fun y=>(y.2.1)) (a_0,())=qbb a_0:=by kernel_rfl
abbrev e124:List (Nat×Ctr):=[(57,c57)]
def qnK:LH
 | _=>none
theorem qsv (a_0:WH):fnF tb (envL e124) Tryz.f124 qnK c124.ps c124.rs (T:=Int) (fun y=>(y.2.1)) (a_0,())=qiw a_0:=by kernel_rfl
abbrev e109:List (Nat×Ctr):=[(31,c31),(124,c124)]
def qnZ:LH
 | _=>none
theorem qsQ (a_0:RAT):fnF tb (envL e109) Tryz.f109 qnZ c109.ps c109.rs (T:=Int) (fun y=>(y.2.1)) (a_0,())=qhg a_0:=by kernel_rfl
abbrev e81:List (Nat×Ctr):=[(109,c109)]
def qiL:LH
 | 4=>some ⟨qdO,qeR,lp qba K0⟩
 | _=>none
theorem qqq (g:qdO.V→Option (OT qeR)) (v:qdO.V):q10q tb (envL e81) 19 qiL (q3q 2 (q4q Tryz.f81) .skip) qdO qeR g v=qba g v:=by kernel_rfl
theorem qqr (t_0:List NODE):fnF tb (envL e81) Tryz.f81 qiL c81.ps c81.rs (T:=Int×Int) (fun y=>(y.2.1,y.2.2.1)) (t_0,())=qf5 t_0:=by kernel_rfl
abbrev e61:List (Nat×Ctr):=[(55,c55),(56,c56),(105,c105)]
def qoX:LH
 | 10=>some ⟨qiF,qj7,lp qgo K0⟩
 | _=>none
theorem qx8 (g:qiF.V→Option (OT qj7)) (v:qiF.V):q10q tb (envL e61) 43 qoX (q3q 5 (q4q Tryz.f61) .skip) qiF qj7 g v=qgo g v:=by kernel_rfl
theorem qx9 (a_0:List Int) (b_1:List Int):fnF tb (envL e61) Tryz.f61 qoX c61.ps c61.rs (T:=(List Int)) (fun y=>(y.2.1)) (a_0,b_1,())=qoY a_0 b_1:=by kernel_rfl
abbrev e62:List (Nat×Ctr):=[(56,c56),(99,c99)]
def qr9:LH
 | _=>none
theorem qx6 (a_0:List Int) (b_1:List Int):fnF tb (envL e62) Tryz.f62 qr9 c62.ps c62.rs (T:=Int) (fun y=>(y.2.1)) (a_0,b_1,())=qia a_0 b_1:=by kernel_rfl
abbrev e63:List (Nat×Ctr):=[(56,c56),(99,c99),(102,c102)]
def qr8:LH
 | _=>none
theorem qxZ (a_0:List Int) (b_1:List Int):fnF tb (envL e63) Tryz.f63 qr8 c63.ps c63.rs (T:=(List Int)×Int) (fun y=>(y.2.1,y.2.2.1)) (a_0,b_1,())=qlF a_0 b_1:=by kernel_rfl
abbrev e33:List (Nat×Ctr):=[(57,c57),(60,c60),(61,c61),(62,c62),(63,c63)]
def qpp:LH
 | _=>none
theorem qtG (a_0:WH) (b_1:WH):fnF tb (envL e33) Tryz.f33 qpp c33.ps c33.rs (T:=WH) (fun y=>(y.2.1)) (a_0,b_1,())=qlf a_0 b_1:=by kernel_rfl
abbrev e36:List (Nat×Ctr):=[(55,c55),(56,c56)]
def qmu:LH
 | 16=>some ⟨qiD,qj5,lp qfk K0⟩
 | 8=>some ⟨qiE,qj6,lp qgm K0⟩
 | _=>none
theorem qx2 (g:qiD.V→Option (OT qj5)) (v:qiD.V):q10q tb (envL e36) 67 qmu (q3q 8 (q4q Tryz.f36) .skip) qiD qj5 g v=qfk g v:=by kernel_rfl
theorem qx3 (g:qiE.V→Option (OT qj6)) (v:qiE.V):q10q tb (envL e36) 67 qmu (q3q 4 (q4q Tryz.f36) .skip) qiE qj6 g v=qgm g v:=by kernel_rfl
theorem qx4 (a_0:List Int) (a_1:List Int):fnF tb (envL e36) Tryz.f36 qmu c36.ps c36.rs (T:=(List Int)) (fun y=>(y.2.1)) (a_0,a_1,())=qlH a_0 a_1:=by kernel_rfl
abbrev e34:List (Nat×Ctr):=[(36,c36),(57,c57),(60,c60)]
def qpn:LH
 | _=>none
theorem qtE (a_0:WH) (b_1:WH):fnF tb (envL e34) Tryz.f34 qpn c34.ps c34.rs (T:=WH) (fun y=>(y.2.1)) (a_0,b_1,())=qdH a_0 b_1:=by kernel_rfl
abbrev e35:List (Nat×Ctr):=[]
def qpu:LH
 | _=>none
theorem qtY (a_0:RAT):fnF tb (envL e35) Tryz.f35 qpu c35.ps c35.rs (T:=WH) (fun y=>(y.2.1)) (a_0,())=qfF a_0:=by kernel_rfl
abbrev e15:List (Nat×Ctr):=[(31,c31),(32,c32),(33,c33),(34,c34),(35,c35),(36,c36)]
def qpF:LH
 | _=>none
theorem qua (a_0:RAT) (b_1:RAT):fnF tb (envL e15) Tryz.f15 qpF c15.ps c15.rs (T:=RAT) (fun y=>(y.2.1)) (a_0,b_1,())=qct a_0 b_1:=by kernel_rfl
abbrev e95:List (Nat×Ctr):=[(57,c57),(62,c62)]
def qpo:LH
 | _=>none
theorem qtF (a_0:WH) (b_1:WH):fnF tb (envL e95) Tryz.f95 qpo c95.ps c95.rs (T:=Int) (fun y=>(y.2.1)) (a_0,b_1,())=qle a_0 b_1:=by kernel_rfl
abbrev e54:List (Nat×Ctr):=[(31,c31),(34,c34),(35,c35),(95,c95)]
def qpE:LH
 | _=>none
theorem qt9 (a_0:RAT) (b_1:RAT):fnF tb (envL e54) Tryz.f54 qpE c54.ps c54.rs (T:=Int) (fun y=>(y.2.1)) (a_0,b_1,())=qjN a_0 b_1:=by kernel_rfl
abbrev e26:List (Nat×Ctr):=[(54,c54)]
def qn0:LH
 | _=>none
theorem qsS (a_0:RAT) (b_1:RAT):fnF tb (envL e26) Tryz.f26 qn0 c26.ps c26.rs (T:=Bool) (fun y=>(y.2.1)) (a_0,b_1,())=qiz a_0 b_1:=by kernel_rfl
abbrev e82:List (Nat×Ctr):=[(15,c15),(26,c26)]
def qki:LH
 | 4=>some ⟨qfe,qgw,lp qby K0⟩
 | _=>none
theorem qsx (g:qfe.V→Option (OT qgw)) (v:qfe.V):q10q tb (envL e82) 37 qki (q3q 2 (q4q Tryz.f82) .skip) qfe qgw g v=qby g v:=by kernel_rfl
theorem qsy (t_0:List NODE):fnF tb (envL e82) Tryz.f82 qki c82.ps c82.rs (T:=Int×Int) (fun y=>(y.2.1,y.2.2.1)) (t_0,())=qix t_0:=by kernel_rfl
abbrev e83:List (Nat×Ctr):=[]
def qmS:LH
 | _=>none
theorem qry (e_0:Int) (tree_1:Int) (node_2:Int):fnF tb (envL e83) Tryz.f83 qmS c83.ps c83.rs (T:=(Int×Int×Int×Int)) (fun y=>(y.2.1)) (e_0,tree_1,node_2,())=qfY e_0 tree_1 node_2:=by kernel_rfl
abbrev e48:List (Nat×Ctr):=[(78,c78),(79,c79),(80,c80),(81,c81),(82,c82),(83,c83)]
def qhy:LH
 | 14=>some ⟨qev,qfB,lp qaC K0⟩
 | 8=>some ⟨qew,qfC,lp qbu K0⟩
 | _=>none
theorem qrB (g:qev.V→Option (OT qfB)) (v:qev.V):q10q tb (envL e48) 63 qhy (q3q 7 (q4q Tryz.f48) .skip) qev qfB g v=qaC g v:=by kernel_rfl
theorem qrC (g:qew.V→Option (OT qfC)) (v:qew.V):q10q tb (envL e48) 63 qhy (q3q 4 (q4q Tryz.f48) .skip) qew qfC g v=qbu g v:=by kernel_rfl
theorem qrD (m_0:qbf):fnF tb (envL e48) Tryz.f48 qhy c48.ps c48.rs (T:=(Int×Int×Int×Int)) (fun y=>(y.2.1)) (m_0,())=qhb m_0:=by kernel_rfl
abbrev e23:List (Nat×Ctr):=[(48,c48)]
def qqs:LH
 | _=>none
theorem qvy (m_0:qbf):fnF tb (envL e23) Tryz.f23 qqs c23.ps c23.rs (T:=Bool) (fun y=>(y.2.1)) (m_0,())=qhx m_0:=by kernel_rfl
abbrev e29:List (Nat×Ctr):=[(23,c23)]
def qnU:LH
 | _=>none
theorem qsL (m_0:qbf) (row_1:List CELL):fnF tb (envL e29) Tryz.f29 qnU c29.ps c29.rs (T:=Int) (fun y=>(y.2.1)) (m_0,row_1,())=qey m_0 row_1:=by kernel_rfl
abbrev e12:List (Nat×Ctr):=[(29,c29)]
def qnW:LH
 | _=>none
theorem qsN (m_0:qbf) (row_1:List CELL):fnF tb (envL e12) Tryz.f12 qnW c12.ps c12.rs (T:=Int) (fun y=>(y.2.1)) (m_0,row_1,())=qez m_0 row_1:=by kernel_rfl
abbrev e14:List (Nat×Ctr):=[(15,c15)]
def qi7:LH
 | _=>none
theorem qnk (feature_0:Int) (x_1:RAT) (b_2:List RAT):fnFB tb (envL e14) Tryz.f14 qi7 w14 c14.ps c14.rs (T:=(List RAT)) (fun y=>(y.2.1)) (feature_0,x_1,b_2,())=qcf feature_0 x_1 b_2:=by kernel_rfl
abbrev e37:List (Nat×Ctr):=[(23,c23)]
def qnQ:LH
 | _=>none
theorem qsA (t_0:List NODE) (features_1:Int):fnF tb (envL e37) Tryz.f37 qnQ c37.ps c37.rs (T:=Bool) (fun y=>(y.2.1)) (t_0,features_1,())=qjC t_0 features_1:=by kernel_rfl
abbrev e106:List (Nat×Ctr):=[(54,c54)]
def qnT:LH
 | _=>none
theorem qsK (n_0:NODE) (c_1:CELL):fnF tb (envL e106) Tryz.f106 qnT c106.ps c106.rs (T:=Bool) (fun y=>(y.2.1)) (n_0,c_1,())=qjK n_0 c_1:=by kernel_rfl
abbrev e64:List (Nat×Ctr):=[(106,c106)]
def qnV:LH
 | _=>none
theorem qsM (n_0:NODE) (c_1:CELL):fnF tb (envL e64) Tryz.f64 qnV c64.ps c64.rs (T:=Bool) (fun y=>(y.2.1)) (n_0,c_1,())=qiy n_0 c_1:=by kernel_rfl
abbrev e21:List (Nat×Ctr):=[(31,c31),(32,c32),(34,c34),(36,c36)]
def qpz:LH
 | _=>none
theorem qt6 (a_0:RAT) (b_1:RAT):fnF tb (envL e21) Tryz.f21 qpz c21.ps c21.rs (T:=RAT) (fun y=>(y.2.1)) (a_0,b_1,())=qah a_0 b_1:=by kernel_rfl
abbrev e65:List (Nat×Ctr):=[(21,c21)]
def qja:LH
 | 6=>some ⟨qd2,qe5,lp qbx K0⟩
 | _=>none
theorem qrg (g:qd2.V→Option (OT qe5)) (v:qd2.V):q10q tb (envL e65) 86 qja (q3q 3 (q4q Tryz.f65) .skip) qd2 qe5 g v=qbx g v:=by kernel_rfl
theorem qrh (a_0:List PART) (a_1:Int) (a_2:RAT) (a_3:Bool):fnF tb (envL e65) Tryz.f65 qja c65.ps c65.rs (T:=(List PART)) (fun y=>(y.2.1)) (a_0,a_1,a_2,a_3,())=qgq a_0 a_1 a_2 a_3:=by kernel_rfl
abbrev e44:List (Nat×Ctr):=[(57,c57),(60,c60)]
def qpm:LH
 | _=>none
theorem qtD (a_0:WH):fnF tb (envL e44) Tryz.f44 qpm c44.ps c44.rs (T:=WH) (fun y=>(y.2.1)) (a_0,())=qjz a_0:=by kernel_rfl
abbrev e108:List (Nat×Ctr):=[(32,c32),(44,c44),(57,c57),(124,c124)]
def qn2:LH
 | _=>none
theorem qsT (num_0:WH) (den_1:WH):fnF tb (envL e108) Tryz.f108 qn2 c108.ps c108.rs (T:=RAT×Int) (fun y=>(y.2.1,y.2.2.1)) (num_0,den_1,())=qhh num_0 den_1:=by kernel_rfl
abbrev e68:List (Nat×Ctr):=[(31,c31),(35,c35),(108,c108)]
def qpA:LH
 | _=>none
theorem qt7 (a_0:RAT):fnF tb (envL e68) Tryz.f68 qpA c68.ps c68.rs (T:=RAT×Int) (fun y=>(y.2.1,y.2.2.1)) (a_0,())=qhJ a_0:=by kernel_rfl
abbrev e107:List (Nat×Ctr):=[(21,c21),(68,c68)]
def qpC:LH
 | _=>none
theorem qt8 (a_0:RAT) (b_1:RAT):fnF tb (envL e107) Tryz.f107 qpC c107.ps c107.rs (T:=RAT×Int) (fun y=>(y.2.1,y.2.2.1)) (a_0,b_1,())=qiN a_0 b_1:=by kernel_rfl
abbrev e66:List (Nat×Ctr):=[(107,c107)]
def qm7:LH
 | _=>none
theorem qrN (a_0:RAT) (b_1:RAT):fnF tb (envL e66) Tryz.f66 qm7 c66.ps c66.rs (T:=RAT) (fun y=>(y.2.1)) (a_0,b_1,())=qht a_0 b_1:=by kernel_rfl
abbrev e38 (n:Nat):List (Nat×Ctr):=[(31,c31),(38,(c38 n)),(64,c64),(65,c65),(66,c66)]
def qm8 (n:Nat):LH
 | _=>none
theorem qrO (n:Nat) (a_0:List NODE) (a_1:List CELL) (a_2:Int) (a_3:List PART):fnF tb (envL (e38 n)) Tryz.f38 (qm8 n) (c38 n).ps (c38 n).rs (T:=(List LEG)) (fun y=>(y.2.1)) (a_0,a_1,a_2,a_3,())=qf1 (n+1) a_0 a_1 a_2 a_3:=by kernel_rfl
abbrev e16:List (Nat×Ctr):=[(37,c37),(38,(c38 R0))]
def qm9:LH
 | _=>none
theorem qrP (t_0:List NODE) (row_1:List CELL):fnF tb (envL e16) Tryz.f16 qm9 c16.ps c16.rs (T:=(List LEG)×Int) (fun y=>(y.2.1,y.2.2.1)) (t_0,row_1,())=qhu t_0 row_1:=by kernel_rfl
abbrev e70:List (Nat×Ctr):=[(109,c109)]
def qln:LH
 | 4=>some ⟨qf9,qhK,lp qdl K0⟩
 | _=>none
theorem qui (g:qf9.V→Option (OT qhK)) (v:qf9.V):q10q tb (envL e70) 23 qln (q3q 2 (q4q Tryz.f70) .skip) qf9 qhK g v=qdl g v:=by kernel_rfl
theorem quj (p_0:List RAT):fnF tb (envL e70) Tryz.f70 qln c70.ps c70.rs (T:=(List RAT)) (fun y=>(y.2.1)) (p_0,())=qhL p_0:=by kernel_rfl
abbrev e67:List (Nat×Ctr):=[(31,c31),(70,c70)]
def qkq:LH
 | 6=>some ⟨qfg,qgB,lp qcQ K0⟩
 | _=>none
theorem qsY (g:qfg.V→Option (OT qgB)) (v:qfg.V):q10q tb (envL e67) 24 qkq (q3q 3 (q4q Tryz.f67) .skip) qfg qgB g v=qcQ g v:=by kernel_rfl
theorem qsZ (p_0:List RAT):fnF tb (envL e67) Tryz.f67 qkq c67.ps c67.rs (T:=(List RAT)) (fun y=>(y.2.1)) (p_0,())=qgc p_0:=by kernel_rfl
abbrev e19:List (Nat×Ctr):=[(31,c31),(44,c44)]
def qpy:LH
 | _=>none
theorem qt5 (a_0:RAT):fnF tb (envL e19) Tryz.f19 qpy c19.ps c19.rs (T:=RAT) (fun y=>(y.2.1)) (a_0,())=qgA a_0:=by kernel_rfl
abbrev e69:List (Nat×Ctr):=[(15,c15),(19,c19)]
def qpw:LH
 | _=>none
theorem qt3 (a_0:RAT) (b_1:RAT):fnF tb (envL e69) Tryz.f69 qpw c69.ps c69.rs (T:=RAT) (fun y=>(y.2.1)) (a_0,b_1,())=qjM a_0 b_1:=by kernel_rfl
abbrev e39:List (Nat×Ctr):=[(21,c21),(67,c67),(68,c68),(69,c69),(70,c70)]
def qhz:LH
 | 26=>some ⟨qdS,qeS,lp qbW K0⟩
 | 18=>some ⟨qeB,qfG,lp qcp K0⟩
 | _=>none
theorem qqH (g:qdS.V→Option (OT qeS)) (v:qdS.V):q10q tb (envL e39) 93 qhz (q3q 13 (q4q Tryz.f39) .skip) qdS qeS g v=qbW g v:=by kernel_rfl
theorem qrG (g:qeB.V→Option (OT qfG)) (v:qeB.V):q10q tb (envL e39) 93 qhz (q3q 9 (q4q Tryz.f39) .skip) qeB qfG g v=qcp g v:=by kernel_rfl
theorem qrH (a_0:List RAT) (a_1:List RAT):fnF tb (envL e39) Tryz.f39 qhz c39.ps c39.rs (T:=(List RAT)×(List RAT)×Int) (fun y=>(y.2.1,y.2.2.1,y.2.2.2.1)) (a_0,a_1,())=qeT a_0 a_1:=by kernel_rfl
abbrev e73:List (Nat×Ctr):=[(30,c30),(60,c60)]
def qqf:LH
 | _=>none
theorem qvv (n_0:Int):fnF tb (envL e73) Tryz.f73 qqf c73.ps c73.rs (T:=WH) (fun y=>(y.2.1)) (n_0,())=qhw n_0:=by kernel_rfl
abbrev e45:List (Nat×Ctr):=[(30,c30),(73,c73)]
def qqD:LH
 | _=>none
theorem qvL (n_0:Int):fnF tb (envL e45) Tryz.f45 qqD c45.ps c45.rs (T:=RAT) (fun y=>(y.2.1)) (n_0,())=qn1 n_0:=by kernel_rfl
abbrev e20:List (Nat×Ctr):=[(45,c45)]
def qpx:LH
 | _=>none
theorem qt4 :fnF tb (envL e20) Tryz.f20 qpx c20.ps c20.rs (T:=RAT) (fun y=>(y.2.1)) ()=qdk :=by kernel_rfl
abbrev e41:List (Nat×Ctr):=[(20,c20)]
def qk2:LH
 | _=>none
theorem qpV (p_0:PART):fnF tb (envL e41) Tryz.f41 qk2 c41.ps c41.rs (T:=(List RAT)) (fun y=>(y.2.1)) (p_0,())=qfo p_0:=by kernel_rfl
abbrev e71:List (Nat×Ctr):=[(13,c13),(15,c15),(21,c21),(67,c67),(70,c70)]
def qiQ:LH
 | 28=>some ⟨qga,qhM,lp qdm K0⟩
 | 12=>some ⟨qhj,qiP,lp qeb K0⟩
 | 22=>some ⟨qgb,qhN,lp qdn K0⟩
 | _=>none
theorem qum (g:qga.V→Option (OT qhM)) (v:qga.V):q10q tb (envL e71) 73 qiQ (q3q 14 (q4q Tryz.f71) .skip) qga qhM g v=qdm g v:=by kernel_rfl
theorem qvS (g:qhj.V→Option (OT qiP)) (v:qhj.V):q10q tb (envL e71) 73 qiQ (q3q 6 (q4q Tryz.f71) .skip) qhj qiP g v=qeb g v:=by kernel_rfl
theorem qun (g:qgb.V→Option (OT qhN)) (v:qgb.V):q10q tb (envL e71) 73 qiQ (q3q 11 (q4q Tryz.f71) .skip) qgb qhN g v=qdn g v:=by kernel_rfl
theorem qvT (a_0:List RAT) (a_1:List RAT):fnF tb (envL e71) Tryz.f71 qiQ c71.ps c71.rs (T:=(List RAT)) (fun y=>(y.2.1)) (a_0,a_1,())=qms a_0 a_1:=by kernel_rfl
abbrev e40:List (Nat×Ctr):=[(20,c20),(41,c41),(71,c71)]
def qjs:LH
 | 6=>some ⟨qeC,qfR,lp qcq K0⟩
 | _=>none
theorem qrK (g:qeC.V→Option (OT qfR)) (v:qeC.V):q10q tb (envL e40) 21 qjs (q3q 3 (q4q Tryz.f40) .skip) qeC qfR g v=qcq g v:=by kernel_rfl
theorem qrL (l_0:LEG):fnF tb (envL e40) Tryz.f40 qjs c40.ps c40.rs (T:=(List RAT)) (fun y=>(y.2.1)) (l_0,())=qhr l_0:=by kernel_rfl
abbrev e17:List (Nat×Ctr):=[(39,c39),(40,c40),(41,c41)]
def qka:LH
 | _=>none
theorem qo1 (l_0:LEG) (i_1:Int):fnF tb (envL e17) Tryz.f17 qka c17.ps c17.rs (T:=(List RAT)×Int) (fun y=>(y.2.1,y.2.2.1)) (l_0,i_1,())=qcU l_0 i_1:=by kernel_rfl
abbrev e42:List (Nat×Ctr):=[]
def qpq:LH
 | _=>none
theorem qtH :fnFB tb (envL e42) Tryz.f42 qpq w42 c42.ps c42.rs (T:=Int×Int×Int×(List WH)) (fun y=>(y.2.1,y.2.2.1,y.2.2.2.1,y.2.2.2.2.1)) ()=qnO :=by kernel_rfl
abbrev e135:List (Nat×Ctr):=[(34,c34),(73,c73)]
def qha:LH
 | 8=>some ⟨qcV,qdJ,lp qdI K0⟩
 | _=>none
theorem qoM (g:qcV.V→Option (OT qdJ)) (v:qcV.V):q10q tb (envL e135) 21 qha (q3q 4 (q4q Tryz.f135) .skip) qcV qdJ g v=qdI g v:=by kernel_rfl
theorem qoN :fnF tb (envL e135) Tryz.f135 qha c135.ps c135.rs (T:=(List WH)) (fun y=>(y.2.1)) ()=qes :=by kernel_rfl
abbrev e134:List (Nat×Ctr):=[(135,c135)]
def qic:LH
 | _=>none
theorem qmz (b_0:Int) (b_1:Int) (b_2:Int) (b_3:List WH):fnFB tb (envL e134) Tryz.f134 qic w134 c134.ps c134.rs (T:=Int×Int×Int×(List WH)) (fun y=>(y.2.1,y.2.2.1,y.2.2.2.1,y.2.2.2.2.1)) (b_0,b_1,b_2,b_3,())=qfd b_0 b_1 b_2 b_3:=by kernel_rfl
abbrev e110:List (Nat×Ctr):=[(34,c34),(108,c108),(125,c125)]
def qgu:LH
 | _=>none
theorem qkh (a_0:Int) (b_1:Int) (c_2:Int) (b_3:Int) (b_4:Int) (b_5:Int) (b_6:List WH):fnFB tb (envL e110) Tryz.f110 qgu w110 c110.ps c110.rs (T:=RAT×Int×Int×Int×(List WH)) (fun y=>(y.2.1,y.2.2.1,y.2.2.2.1,y.2.2.2.2.1,y.2.2.2.2.2.1)) (a_0,b_1,c_2,b_3,b_4,b_5,b_6,())=qcL a_0 b_1 c_2 b_3 b_4 b_5 b_6:=by kernel_rfl
abbrev e72:List (Nat×Ctr):=[(110,c110)]
def qhD:LH
 | _=>none
theorem qlg (s_0:Int) (n_1:Int) (b_2:Int) (b_3:Int) (b_4:Int) (b_5:List WH):fnFB tb (envL e72) Tryz.f72 qhD w72 c72.ps c72.rs (T:=RAT×Int×Int×Int×Int×(List WH)) (fun y=>(y.2.1,y.2.2.1,y.2.2.2.1,y.2.2.2.2.1,y.2.2.2.2.2.1,y.2.2.2.2.2.2.1)) (s_0,n_1,b_2,b_3,b_4,b_5,())=qdg s_0 n_1 b_2 b_3 b_4 b_5:=by kernel_rfl
abbrev e43:List (Nat×Ctr):=[(72,c72)]
def qgv:LH
 | 14=>some ⟨qcE,qdh,lp qbq K0⟩
 | _=>none
theorem qnM (g:qcE.V→Option (OT qdh)) (v:qcE.V):q10q tb (envL e43) 35 qgv (q3q 7 (q4q Tryz.f43) .skip) qcE qdh g v=qbq g v:=by kernel_rfl
theorem qnN (n_0:Int) (b_1:Int) (b_2:Int) (b_3:Int) (b_4:List WH):fnFB tb (envL e43) Tryz.f43 qgv w43 c43.ps c43.rs (T:=(List RAT)×Int×Int×Int×Int×(List WH)) (fun y=>(y.2.1,y.2.2.1,y.2.2.2.1,y.2.2.2.2.1,y.2.2.2.2.2.1,y.2.2.2.2.2.2.1)) (n_0,b_1,b_2,b_3,b_4,())=qeL n_0 b_1 b_2 b_3 b_4:=by kernel_rfl
abbrev e18:List (Nat×Ctr):=[(13,c13),(15,c15),(21,c21),(42,c42),(43,c43)]
def qi0:LH
 | 16=>some ⟨qdY,qe1,lp qb6 K0⟩
 | _=>none
theorem qq1 (g:qdY.V→Option (OT qe1)) (v:qdY.V):q10q tb (envL e18) 44 qi0 (q3q 8 (q4q Tryz.f18) .skip) qdY qe1 g v=qb6 g v:=by kernel_rfl
theorem qq2 (p_0:List RAT) (n_1:Int):fnF tb (envL e18) Tryz.f18 qi0 c18.ps c18.rs (T:=RAT×Int) (fun y=>(y.2.1,y.2.2.1)) (p_0,n_1,())=qe2 p_0 n_1:=by kernel_rfl
abbrev e5:List (Nat×Ctr):=[(12,c12),(13,c13),(14,c14),(15,c15),(16,c16),(17,c17),(18,c18),(19,c19),(20,c20),(21,c21)]
def qde:LH
 | 38=>some ⟨qcX,qdZ,lp qaY K0⟩
 | 32=>some ⟨qcY,qd0,lp qbm K0⟩
 | 12=>some ⟨qdf,qem,lp qbz K0⟩
 | 24=>some ⟨qcZ,qd1,lp qbn K0⟩
 | _=>none
theorem qo5 (g:qcX.V→Option (OT qdZ)) (v:qcX.V):q10q tb (envL e5) 106 qde (q3q 19 (q4q Tryz.f5) .skip) qcX qdZ g v=qaY g v:=by kernel_rfl
theorem qo6 (g:qcY.V→Option (OT qd0)) (v:qcY.V):q10q tb (envL e5) 106 qde (q3q 16 (q4q Tryz.f5) .skip) qcY qd0 g v=qbm g v:=by kernel_rfl
theorem qpX (g:qdf.V→Option (OT qem)) (v:qdf.V):q10q tb (envL e5) 106 qde (q3q 6 (q4q Tryz.f5) .skip) qdf qem g v=qbz g v:=by kernel_rfl
theorem qo7 (g:qcZ.V→Option (OT qd1)) (v:qcZ.V):q10q tb (envL e5) 106 qde (q3q 12 (q4q Tryz.f5) .skip) qcZ qd1 g v=qbn g v:=by kernel_rfl
theorem qpY (a_0:qbf) (a_1:List CELL):fnF tb (envL e5) Tryz.f5 qde c5.ps c5.rs (T:=(List RAT)×Int) (fun y=>(y.2.1,y.2.2.1)) (a_0,a_1,())=qei a_0 a_1:=by kernel_rfl
abbrev e46:List (Nat×Ctr):=[(13,c13)]
def qhk:LH
 | 6=>some ⟨qcW,qdT,lp qbg K0⟩
 | _=>none
theorem qoS (g:qcW.V→Option (OT qdT)) (v:qcW.V):q10q tb (envL e46) 13 qhk (q3q 3 (q4q Tryz.f46) .skip) qcW qdT g v=qbg g v:=by kernel_rfl
theorem qoT (n_0:Int):fnF tb (envL e46) Tryz.f46 qhk c46.ps c46.rs (T:=(List RAT)) (fun y=>(y.2.1)) (n_0,())=qfH n_0:=by kernel_rfl
abbrev e74:List (Nat×Ctr):=[(20,c20)]
def qls:LH
 | _=>none
theorem qqO :fnFB tb (envL e74) Tryz.f74 qls w74 c74.ps c74.rs (T:=(List (Int×RAT×CELL))) (fun y=>(y.2.1)) ()=qhQ :=by kernel_rfl
abbrev e111:List (Nat×Ctr):=[]
def qeV:LH
 | 8=>some ⟨qbH,qcu,lp qak K0⟩
 | _=>none
theorem qlp (g:qbH.V→Option (OT qcu)) (v:qbH.V):q10q tb (envL e111) 29 qeV (q3q 4 (q4q Tryz.f111) .skip) qbH qcu g v=qak g v:=by kernel_rfl
theorem qlq (feature_0:Int) (b_1:List (Int×RAT×CELL)):fnFB tb (envL e111) Tryz.f111 qeV w111 c111.ps c111.rs (T:=Int×(List (Int×RAT×CELL))) (fun y=>(y.2.1,y.2.2.1)) (feature_0,b_1,())=qbr feature_0 b_1:=by kernel_rfl
abbrev e112:List (Nat×Ctr):=[]
def qeD:LH
 | 10=>some ⟨qbt,qch,lp qaA K0⟩
 | _=>none
theorem qk6 (g:qbt.V→Option (OT qch)) (v:qbt.V):q10q tb (envL e112) 32 qeD (q3q 5 (q4q Tryz.f112) .skip) qbt qch g v=qaA g v:=by kernel_rfl
theorem qk7 (b_0:List (Int×RAT×CELL)):fnFB tb (envL e112) Tryz.f112 qeD w112 c112.ps c112.rs (T:=(List PART)×(List (Int×RAT×CELL))) (fun y=>(y.2.1,y.2.2.1)) (b_0,())=qck b_0:=by kernel_rfl
abbrev e127:List (Nat×Ctr):=[(31,c31),(73,c73),(108,c108)]
def qn3:LH
 | _=>none
theorem qsV (n_0:Int) (d_1:Int):fnF tb (envL e127) Tryz.f127 qn3 c127.ps c127.rs (T:=RAT) (fun y=>(y.2.1)) (n_0,d_1,())=qdR n_0 d_1:=by kernel_rfl
abbrev e126:List (Nat×Ctr):=[(21,c21),(68,c68),(69,c69),(127,c127)]
def qdV:LH
 | 14=>some ⟨qa5,qbF,lp qao K0⟩
 | _=>none
theorem qjU (g:qa5.V→Option (OT qbF)) (v:qa5.V):q10q tb (envL e126) 104 qdV (q3q 7 (q4q Tryz.f126) .skip) qa5 qbF g v=qao g v:=by kernel_rfl
theorem qjV (a_0:Int) (b_1:List (Int×RAT×CELL)):fnFB tb (envL e126) Tryz.f126 qdV w126 c126.ps c126.rs (T:=(List RAT)×(List (Int×RAT×CELL))) (fun y=>(y.2.1,y.2.2.1)) (a_0,b_1,())=qbG a_0 b_1:=by kernel_rfl
abbrev e113:List (Nat×Ctr):=[(126,c126)]
def qed:LH
 | 16=>some ⟨qbk,qb1,lp qau K0⟩
 | _=>none
theorem qkA (g:qbk.V→Option (OT qb1)) (v:qbk.V):q10q tb (envL e113) 66 qed (q3q 8 (q4q Tryz.f113) .skip) qbk qb1 g v=qau g v:=by kernel_rfl
theorem qkB (a_0:Int) (b_1:List (Int×RAT×CELL)):fnFB tb (envL e113) Tryz.f113 qed w113 c113.ps c113.rs (T:=Int×(List (Int×RAT×CELL))) (fun y=>(y.2.1,y.2.2.1)) (a_0,b_1,())=qb9 a_0 b_1:=by kernel_rfl
abbrev e114:List (Nat×Ctr):=[(13,c13),(15,c15),(21,c21),(31,c31),(109,c109),(111,c111),(127,c127)]
def qee:LH
 | 20=>some ⟨qa6,qbI,lp qap K0⟩
 | _=>none
theorem qjX (g:qa6.V→Option (OT qbI)) (v:qa6.V):q10q tb (envL e114) 113 qee (q3q 10 (q4q Tryz.f114) .skip) qa6 qbI g v=qap g v:=by kernel_rfl
theorem qkC (a_0:Int) (a_1:RAT) (a_2:Bool) (b_3:List (Int×RAT×CELL)):fnFB tb (envL e114) Tryz.f114 qee w114 c114.ps c114.rs (T:=Int×(List (Int×RAT×CELL))) (fun y=>(y.2.1,y.2.2.1)) (a_0,a_1,a_2,b_3,())=qaM a_0 a_1 a_2 b_3:=by kernel_rfl
abbrev e75:List (Nat×Ctr):=[(21,c21),(111,c111),(112,c112),(113,c113),(114,c114)]
def qgZ:LH
 | _=>none
theorem qk4 (b_0:Int) (b_1:Bool) (b_2:List Int) (b_3:List Int) (b_4:Int) (b_5:Bool) (b_6:List Int) (b_7:List Int) (b_8:Bool) (b_9:List (Int×RAT×CELL)):fnFB tb (envL e75) Tryz.f75 qgZ w75 c75.ps c75.rs (T:=Int×Bool×(List Int)×(List Int)×Int×Bool×(List Int)×(List Int)×Bool×(List (Int×RAT×CELL))) (fun y=>(y.2.1,y.2.2.1,y.2.2.2.1,y.2.2.2.2.1,y.2.2.2.2.2.1,y.2.2.2.2.2.2.1,y.2.2.2.2.2.2.2.1,y.2.2.2.2.2.2.2.2.1,y.2.2.2.2.2.2.2.2.2.1,y.2.2.2.2.2.2.2.2.2.2.1)) (b_0,b_1,b_2,b_3,b_4,b_5,b_6,b_7,b_8,b_9,())=qaU b_0 b_1 b_2 b_3 b_4 b_5 b_6 b_7 b_8 b_9:=by kernel_rfl
abbrev e128:List (Nat×Ctr):=[(13,c13),(15,c15)]
def qlk:LH
 | 6=>some ⟨qf7,qhI,lp qdj K0⟩
 | _=>none
theorem qt1 (g:qf7.V→Option (OT qhI)) (v:qf7.V):q10q tb (envL e128) 18 qlk (q3q 3 (q4q Tryz.f128) .skip) qf7 qhI g v=qdj g v:=by kernel_rfl
theorem qt2 (l_0:List RAT):fnF tb (envL e128) Tryz.f128 qlk c128.ps c128.rs (T:=RAT) (fun y=>(y.2.1)) (l_0,())=qjL l_0:=by kernel_rfl
abbrev e115:List (Nat×Ctr):=[(126,c126),(128,c128)]
def qif:LH
 | _=>none
theorem qmB (at_0:Int) (b_1:List (Int×RAT×CELL)):fnFB tb (envL e115) Tryz.f115 qif w115 c115.ps c115.rs (T:=RAT×Int×(List (Int×RAT×CELL))) (fun y=>(y.2.1,y.2.2.1,y.2.2.2.1)) (at_0,b_1,())=qdW at_0 b_1:=by kernel_rfl
abbrev e76:List (Nat×Ctr):=[(15,c15),(19,c19),(20,c20),(21,c21),(112,c112),(115,c115)]
def qec:LH
 | 6=>some ⟨qbj,qbZ,lp qat K0⟩
 | _=>none
theorem qkx (g:qbj.V→Option (OT qbZ)) (v:qbj.V):q10q tb (envL e76) 69 qec (q3q 3 (q4q Tryz.f76) .skip) qbj qbZ g v=qat g v:=by kernel_rfl
theorem qky (a_0:Int) (a_1:Bool) (a_2:List Int) (a_3:List Int) (a_4:Int) (a_5:Bool) (a_6:List Int) (a_7:List Int) (a_8:Bool) (b_9:List NODE) (b_10:List CELL) (b_11:Int) (b_12:Bool) (b_13:List RAT) (b_14:List (Int×RAT×CELL)):fnFB tb (envL e76) Tryz.f76 qec w76 c76.ps c76.rs (T:=(List RAT)×(List NODE)×(List CELL)×Int×Bool×(List (Int×RAT×CELL))) (fun y=>(y.1.1,y.2.1,y.2.2.1,y.2.2.2.1,y.2.2.2.2.1,y.2.2.2.2.2.1)) (a_0,a_1,a_2,a_3,a_4,a_5,a_6,a_7,a_8,b_9,b_10,b_11,b_12,b_13,b_14,())=qbp a_0 a_1 a_2 a_3 a_4 a_5 a_6 a_7 a_8 b_9 b_10 b_11 b_12 b_13 b_14:=by kernel_rfl
abbrev e116:List (Nat×Ctr):=[]
def qhP:LH
 | _=>none
theorem qlr (b_0:List (Int×RAT×CELL)):fnFB tb (envL e116) Tryz.f116 qhP w116 c116.ps c116.rs (T:=(List (Int×RAT×CELL))×(List (Int×RAT×CELL))) (fun y=>(y.2.1,y.2.2.1)) (b_0,())=qdo b_0:=by kernel_rfl
abbrev e77:List (Nat×Ctr):=[(21,c21),(64,c64),(107,c107),(116,c116)]
def qgd:LH
 | _=>none
theorem qjQ (a_0:Int) (a_1:Bool) (a_2:List Int) (a_3:List Int) (a_4:Int) (a_5:Bool) (a_6:List Int) (a_7:List Int) (a_8:Bool) (a_9:Int) (a_10:Bool) (b_11:List NODE) (b_12:List CELL) (b_13:Int) (b_14:Bool) (b_15:List RAT) (b_16:List (Int×RAT×CELL)):fnFB tb (envL e77) Tryz.f77 qgd w77 c77.ps c77.rs (T:=(List RAT)×Int×Bool×(List Int)×(List Int)×Int×Bool×(List Int)×(List Int)×Bool×Bool×(List NODE)×(List CELL)×Int×Bool×(List (Int×RAT×CELL))×(List (Int×RAT×CELL))) (fun y=>(y.1.1,y.2.1,y.2.2.1,y.2.2.2.1,y.2.2.2.2.1,y.2.2.2.2.2.1,y.2.2.2.2.2.2.1,y.2.2.2.2.2.2.2.1,y.2.2.2.2.2.2.2.2.1,y.2.2.2.2.2.2.2.2.2.1,y.2.2.2.2.2.2.2.2.2.2.1,y.2.2.2.2.2.2.2.2.2.2.2.1,y.2.2.2.2.2.2.2.2.2.2.2.2.1,y.2.2.2.2.2.2.2.2.2.2.2.2.2.1,y.2.2.2.2.2.2.2.2.2.2.2.2.2.2.1,y.2.2.2.2.2.2.2.2.2.2.2.2.2.2.2.1,y.2.2.2.2.2.2.2.2.2.2.2.2.2.2.2.2.1)) (a_0,a_1,a_2,a_3,a_4,a_5,a_6,a_7,a_8,a_9,a_10,b_11,b_12,b_13,b_14,b_15,b_16,())=qbE a_0 a_1 a_2 a_3 a_4 a_5 a_6 a_7 a_8 a_9 a_10 b_11 b_12 b_13 b_14 b_15 b_16:=by kernel_rfl
abbrev e47:List (Nat×Ctr):=[(20,c20),(74,c74),(75,c75),(76,c76),(77,c77)]
def qcR:LH
 | 18=>some ⟨qbh,qbX,lp qal K0⟩
 | 2=>some ⟨qbi,qbY,lp qas K0⟩
 | _=>none
theorem qkt (g:qbh.V→Option (OT qbX)) (v:qbh.V):q10q tb (envL e47) 91 qcR (q3q 9 (q4q Tryz.f47) .skip) qbh qbX g v=qal g v:=by kernel_rfl
theorem qku (g:qbi.V→Option (OT qbY)) (v:qbi.V):q10q tb (envL e47) 91 qcR (q3q 1 (q4q Tryz.f47) .skip) qbi qbY g v=qas g v:=by kernel_rfl
theorem qkv (b_0:List NODE) (b_1:List CELL) (b_2:Int) (b_3:Bool) (b_4:List RAT) (b_5:List (Int×(Option ((Option (List (Int×RAT×CELL)))×Unit))×RAT×PART)):fnFB tb (envL e47) Tryz.f47 qcR w47 c47.ps c47.rs (T:=(List RAT)×(List NODE)×(List CELL)×Int×Bool×(List (Int×(Option ((Option (List (Int×RAT×CELL)))×Unit))×RAT×PART))) (fun y=>(y.1.1,y.2.1,y.2.2.1,y.2.2.2.1,y.2.2.2.2.1,y.2.2.2.2.2.1)) (b_0,b_1,b_2,b_3,b_4,b_5,())=qb8 b_0 b_1 b_2 b_3 b_4 b_5:=by kernel_rfl
abbrev e22:List (Nat×Ctr):=[(46,c46),(47,c47)]
def qiR:LH
 | 6=>some ⟨qdU,qeU,lp qb0 K0⟩
 | _=>none
theorem qqM (g:qdU.V→Option (OT qeU)) (v:qdU.V):q10q tb (envL e22) 34 qiR (q3q 3 (q4q Tryz.f22) .skip) qdU qeU g v=qb0 g v:=by kernel_rfl
theorem qqN (m_0:qbf) (row_1:List CELL) (fixed_2:Int) (on_3:Bool):fnF tb (envL e22) Tryz.f22 qiR c22.ps c22.rs (T:=(List RAT)) (fun y=>(y.2.1)) (m_0,row_1,fixed_2,on_3,())=qhO m_0 row_1 fixed_2 on_3:=by kernel_rfl
abbrev e6:List (Nat×Ctr):=[(12,c12),(22,c22)]
def qjg:LH
 | _=>none
theorem qoa (m_0:qbf) (row_1:List CELL):fnF tb (envL e6) Tryz.f6 qjg c6.ps c6.rs (T:=(List RAT)×Int) (fun y=>(y.2.1,y.2.2.1)) (m_0,row_1,())=qc1 m_0 row_1:=by kernel_rfl
abbrev e7:List (Nat×Ctr):=[(23,c23)]
def qjc:LH
 | _=>none
theorem qnw (m_0:qbf) (row_1:List CELL):fnF tb (envL e7) Tryz.f7 qjc c7.ps c7.rs (T:=Int) (fun y=>(y.2.1)) (m_0,row_1,())=qfX m_0 row_1:=by kernel_rfl
abbrev e87:List (Nat×Ctr):=[]
def qe6:LH
 | 4=>some ⟨qbP,qcy,lp qaT K0⟩
 | _=>none
theorem ql6 (g:qbP.V→Option (OT qcy)) (v:qbP.V):q10q tb (envL e87) 14 qe6 (q3q 2 (q4q Tryz.f87) .skip) qbP qcy g v=qaT g v:=by kernel_rfl
theorem ql7 (n_0:Int):fnF tb (envL e87) Tryz.f87 qe6 c87.ps c87.rs (T:=(List Int)) (fun y=>(y.2.1)) (n_0,())=qam n_0:=by kernel_rfl
abbrev e118:List (Nat×Ctr):=[]
def qh4:LH
 | _=>none
theorem qlZ (a_0:List Int) (i_1:Int):fnF tb (envL e118) Tryz.f118 qh4 c118.ps c118.rs (T:=Int) (fun y=>(y.2.1)) (a_0,i_1,())=qaF a_0 i_1:=by kernel_rfl
abbrev e91:List (Nat×Ctr):=[(118,c118)]
def qfw:LH
 | 8=>some ⟨qcb,qcN,lp qaD K0⟩
 | _=>none
theorem qmJ (g:qcb.V→Option (OT qcN)) (v:qcb.V):q10q tb (envL e91) 41 qfw (q3q 4 (q4q Tryz.f91) .skip) qcb qcN g v=qaD g v:=by kernel_rfl
theorem qmK (a_0:List Int) (b_1:List Int):fnF tb (envL e91) Tryz.f91 qfw c91.ps c91.rs (T:=(List Int)) (fun y=>(y.2.1)) (a_0,b_1,())=qc0 a_0 b_1:=by kernel_rfl
abbrev e119:List (Nat×Ctr):=[]
def qfv:LH
 | 4=>some ⟨qca,qcM,lp qaN K0⟩
 | _=>none
theorem qmG (g:qca.V→Option (OT qcM)) (v:qca.V):q10q tb (envL e119) 21 qfv (q3q 2 (q4q Tryz.f119) .skip) qca qcM g v=qaN g v:=by kernel_rfl
theorem qmH (a_0:List Int):fnF tb (envL e119) Tryz.f119 qfv c119.ps c119.rs (T:=(List Int)) (fun y=>(y.2.1)) (a_0,())=qbM a_0:=by kernel_rfl
abbrev e92:List (Nat×Ctr):=[(119,c119)]
def qdx:LH
 | 14=>some ⟨qbN,qcw,lp qaG K0⟩
 | 6=>some ⟨qbO,qcx,lp qaS K0⟩
 | _=>none
theorem ql2 (g:qbN.V→Option (OT qcw)) (v:qbN.V):q10q tb (envL e92) 63 qdx (q3q 7 (q4q Tryz.f92) .skip) qbN qcw g v=qaG g v:=by kernel_rfl
theorem ql3 (g:qbO.V→Option (OT qcx)) (v:qbO.V):q10q tb (envL e92) 63 qdx (q3q 3 (q4q Tryz.f92) .skip) qbO qcx g v=qaS g v:=by kernel_rfl
theorem ql4 (a_0:List Int) (b_1:List Int):fnF tb (envL e92) Tryz.f92 qdx c92.ps c92.rs (T:=(List Int)) (fun y=>(y.2.1)) (a_0,b_1,())=qbs a_0 b_1:=by kernel_rfl
abbrev e51:List (Nat×Ctr):=[(87,c87),(91,c91),(92,c92)]
def qfx:LH
 | 8=>some ⟨qcd,qcP,lp qa0 K0⟩
 | _=>none
theorem qmP (g:qcd.V→Option (OT qcP)) (v:qcd.V):q10q tb (envL e51) 26 qfx (q3q 4 (q4q Tryz.f51) .skip) qcd qcP g v=qa0 g v:=by kernel_rfl
theorem qmQ (a_0:List Int):fnF tb (envL e51) Tryz.f51 qfx c51.ps c51.rs (T:=(List Int)) (fun y=>(y.2.1)) (a_0,())=qaE a_0:=by kernel_rfl
abbrev e94:List (Nat×Ctr):=[]
def qih:LH
 | _=>none
theorem qmD (neg_0:Bool) (n_1:List Int):fnF tb (envL e94) Tryz.f94 qih c94.ps c94.rs (T:=(Bool×List Int)) (fun y=>(y.2.1)) (neg_0,n_1,())=qbL neg_0 n_1:=by kernel_rfl
abbrev e93:List (Nat×Ctr):=[(87,c87),(91,c91),(94,c94)]
def qh2:LH
 | _=>none
theorem qlX (n_0:Int):fnF tb (envL e93) Tryz.f93 qh2 c93.ps c93.rs (T:=(Bool×List Int)) (fun y=>(y.2.1)) (n_0,())=qeJ n_0:=by kernel_rfl
abbrev e52:List (Nat×Ctr):=[(87,c87),(93,c93)]
def qhY:LH
 | _=>none
theorem qlT (n_0:Int) (d_1:Int):fnF tb (envL e52) Tryz.f52 qhY c52.ps c52.rs (T:=((Bool×List Int)×List Int)) (fun y=>(y.2.1)) (n_0,d_1,())=qeI n_0 d_1:=by kernel_rfl
abbrev e53:List (Nat×Ctr):=[(51,c51),(94,c94)]
def qii:LH
 | _=>none
theorem qmE (a_0:WH):fnF tb (envL e53) Tryz.f53 qii c53.ps c53.rs (T:=(Bool×List Int)) (fun y=>(y.2.1)) (a_0,())=qd4 a_0:=by kernel_rfl
abbrev e25:List (Nat×Ctr):=[(51,c51),(52,c52),(53,c53)]
def qig:LH
 | _=>none
theorem qmC (a_0:RAT):fnF tb (envL e25) Tryz.f25 qig c25.ps c25.rs (T:=((Bool×List Int)×List Int)) (fun y=>(y.2.1)) (a_0,())=qbK a_0:=by kernel_rfl
abbrev e84:List (Nat×Ctr):=[]
def qe7:LH
 | 4=>some ⟨qbQ,qcz,lp qaH K0⟩
 | _=>none
theorem ql9 (g:qbQ.V→Option (OT qcz)) (v:qbQ.V):q10q tb (envL e84) 27 qe7 (q3q 2 (q4q Tryz.f84) .skip) qbQ qcz g v=qaH g v:=by kernel_rfl
theorem qma (a_0:List Int):fnF tb (envL e84) Tryz.f84 qe7 c84.ps c84.rs (T:=Bool) (fun y=>(y.2.1)) (a_0,())=qcG a_0:=by kernel_rfl
abbrev e86:List (Nat×Ctr):=[]
def qe8:LH
 | 12=>some ⟨qbS,qcB,lp qax K0⟩
 | _=>none
theorem qme (g:qbS.V→Option (OT qcB)) (v:qbS.V):q10q tb (envL e86) 41 qe8 (q3q 6 (q4q Tryz.f86) .skip) qbS qcB g v=qax g v:=by kernel_rfl
theorem qmf (a_0:List Int) (b_1:List Int):fnF tb (envL e86) Tryz.f86 qe8 c86.ps c86.rs (T:=Int) (fun y=>(y.2.1)) (a_0,b_1,())=qaj a_0 b_1:=by kernel_rfl
abbrev e129:List (Nat×Ctr):=[(118,c118),(119,c119)]
def qe9:LH
 | 8=>some ⟨qbT,qcC,lp qaI K0⟩
 | _=>none
theorem qmh (g:qbT.V→Option (OT qcC)) (v:qbT.V):q10q tb (envL e129) 35 qe9 (q3q 4 (q4q Tryz.f129) .skip) qbT qcC g v=qaI g v:=by kernel_rfl
theorem qmi (a_0:List Int) (b_1:List Int):fnF tb (envL e129) Tryz.f129 qe9 c129.ps c129.rs (T:=(List Int)) (fun y=>(y.2.1)) (a_0,b_1,())=qdy a_0 b_1:=by kernel_rfl
abbrev e117:List (Nat×Ctr):=[(86,c86),(87,c87),(92,c92),(119,c119),(129,c129)]
def qdF:LH
 | 24=>some ⟨qbR,qcA,lp qaw K0⟩
 | 8=>some ⟨qcc,qcO,lp qaZ K0⟩
 | _=>none
theorem qmc (g:qbR.V→Option (OT qcA)) (v:qbR.V):q10q tb (envL e117) 65 qdF (q3q 12 (q4q Tryz.f117) .skip) qbR qcA g v=qaw g v:=by kernel_rfl
theorem qmM (g:qcc.V→Option (OT qcO)) (v:qcc.V):q10q tb (envL e117) 65 qdF (q3q 4 (q4q Tryz.f117) .skip) qcc qcO g v=qaZ g v:=by kernel_rfl
theorem qmN (a_0:List Int) (a_1:List Int):fnF tb (envL e117) Tryz.f117 qdF c117.ps c117.rs (T:=(List Int)×(List Int)) (fun y=>(y.2.1,y.2.2.1)) (a_0,a_1,())=qd5 a_0 a_1:=by kernel_rfl
abbrev e85:List (Nat×Ctr):=[(117,c117)]
def qf2:LH
 | 2=>some ⟨qcl,qc3,lp qbd K0⟩
 | _=>none
theorem qnu (g:qcl.V→Option (OT qc3)) (v:qcl.V):q10q tb (envL e85) 19 qf2 (q3q 1 (q4q Tryz.f85) .skip) qcl qc3 g v=qbd g v:=by kernel_rfl
theorem qnv (a_0:List Int) (b_1:List Int):fnF tb (envL e85) Tryz.f85 qf2 c85.ps c85.rs (T:=(List Int)) (fun y=>(y.2.1)) (a_0,b_1,())=qcJ a_0 b_1:=by kernel_rfl
abbrev e49:List (Nat×Ctr):=[(51,c51),(84,c84),(85,c85),(86,c86),(87,c87)]
def qhZ:LH
 | _=>none
theorem qlU (a_0:RAT):fnF tb (envL e49) Tryz.f49 qhZ c49.ps c49.rs (T:=Bool) (fun y=>(y.2.1)) (a_0,())=qdu a_0:=by kernel_rfl
abbrev e88:List (Nat×Ctr):=[(86,c86)]
def qh3:LH
 | _=>none
theorem qlY (a_0:Bool×List Int) (b_1:Bool×List Int):fnF tb (envL e88) Tryz.f88 qh3 c88.ps c88.rs (T:=Int) (fun y=>(y.2.1)) (a_0,b_1,())=qdw a_0 b_1:=by kernel_rfl
abbrev e89:List (Nat×Ctr):=[(92,c92),(94,c94)]
def qh1:LH
 | _=>none
theorem qlW (a_0:Bool×List Int) (b_1:Bool×List Int):fnF tb (envL e89) Tryz.f89 qh1 c89.ps c89.rs (T:=(Bool×List Int)) (fun y=>(y.2.1)) (a_0,b_1,())=qcF a_0 b_1:=by kernel_rfl
abbrev e90:List (Nat×Ctr):=[(94,c94)]
def qjb:LH
 | _=>none
theorem qns (a_0:(Bool×List Int)×List Int):fnF tb (envL e90) Tryz.f90 qjb c90.ps c90.rs (T:=(Bool×List Int)) (fun y=>(y.2.1)) (a_0,())=qeo a_0:=by kernel_rfl
abbrev e50:List (Nat×Ctr):=[(88,c88),(89,c89),(90,c90)]
def qh0:LH
 | _=>none
theorem qlV (a_0:(Bool×List Int)×List Int) (b_1:(Bool×List Int)×List Int):fnF tb (envL e50) Tryz.f50 qh0 c50.ps c50.rs (T:=Int) (fun y=>(y.2.1)) (a_0,b_1,())=qdv a_0 b_1:=by kernel_rfl
abbrev e24:List (Nat×Ctr):=[(25,c25),(49,c49),(50,c50)]
def qjm:LH
 | _=>none
theorem qox (a_0:RAT) (x_1:(Bool×List Int)×List Int):fnF tb (envL e24) Tryz.f24 qjm c24.ps c24.rs (T:=Bool) (fun y=>(y.2.1)) (a_0,x_1,())=qgO a_0 x_1:=by kernel_rfl
abbrev e8:List (Nat×Ctr):=[(24,c24),(25,c25)]
def qjl:LH
 | _=>none
theorem qow (a_0:RAT) (b_1:RAT):fnF tb (envL e8) Tryz.f8 qjl c8.ps c8.rs (T:=Bool) (fun y=>(y.2.1)) (a_0,b_1,())=qd3 a_0 b_1:=by kernel_rfl
abbrev e9:List (Nat×Ctr):=[(18,c18),(20,c20),(26,c26)]
def qfa:LH
 | _=>none
theorem qmk :fnF tb (envL e9) Tryz.f9 qfa c9.ps c9.rs (T:=Bool) (fun y=>(y.2.1)) ()=qcH :=by kernel_rfl
abbrev e3:List (Nat×Ctr):=[(4,c4),(5,c5),(6,c6),(7,c7),(8,c8),(9,c9)]
def qcS:LH
 | 14=>some ⟨qaL,qa3,lp qaf K0⟩
 | _=>none
theorem qiu (g:qaL.V→Option (OT qa3)) (v:qaL.V):q10q tb (envL e3) 62 qcS (q3q 7 (q4q Tryz.f3) .skip) qaL qa3 g v=qaf g v:=by kernel_rfl
theorem qiv (m_0:qbf) (row_1:List CELL):fnF tb (envL e3) Tryz.f3 qcS c3.ps c3.rs (T:=Bool) (fun y=>(y.2.1)) (m_0,row_1,())=qcr m_0 row_1:=by kernel_rfl
end Go.Proofs.YtemlifeamdpjeaaGreatDoor.X
