/- Own work: part of the proof; the first line of each part says what it tells. -/
import Derived.Test.YtiefddjokkihdaaGreatDoorLa7


namespace Go.Proofs.YtiefddjokkihdaaGreatDoor.X
open Go
set_option linter.unusedVariables false
set_option linter.unusedSimpArgs false
set_option maxRecDepth 100000
abbrev e42:List (Nat×Ctr):=[]
def qhR:LH
 | _=>none
theorem ql5 (a_0:RAT):fnF tb (envL e42) Tryz.f42 qhR c42.ps c42.rs (T:=RAT) (fun y=>(y.2.1)) (a_0,())=qbZ a_0:=by kernel_rfl
abbrev e13:List (Nat×Ctr):=[(42,c42)]
def qe8:LH
 | 14=>some ⟨qcW,qdZ,lp qaS K0⟩
 | 6=>some ⟨qcX,qd0,lp qaT K0⟩
 | _=>none
theorem qoR (g:qcW.V->Option (OT qdZ)) (v:qcW.V):q10q tb (envL e13) 67 qe8 (q3q 7 (q4q Tryz.f13) .skip) qcW qdZ g v=qaS g v:=by kernel_rfl
theorem qoS (g:qcX.V->Option (OT qd0)) (v:qcX.V):q10q tb (envL e13) 67 qe8 (q3q 3 (q4q Tryz.f13) .skip) qcX qd0 g v=qaT g v:=by kernel_rfl
theorem qoT (a_0:qas):fnF tb (envL e13) Tryz.f13 qe8 c13.ps c13.rs (T:=qas) (fun y=>(y.2.1)) (a_0,())=qfc a_0:=by kernel_rfl
abbrev e43:List (Nat×Ctr):=[]
def qhQ:LH
 | _=>none
theorem ql4 (a_0:RAT):fnF tb (envL e43) Tryz.f43 qhQ c43.ps c43.rs (T:=RAT) (fun y=>(y.2.1)) (a_0,())=qdX a_0:=by kernel_rfl
abbrev e14:List (Nat×Ctr):=[(43,c43)]
def qgN:LH
 | 6=>some ⟨qcV,qdY,lp qbc K0⟩
 | _=>none
theorem qoN (g:qcV.V->Option (OT qdY)) (v:qcV.V):q10q tb (envL e14) 32 qgN (q3q 3 (q4q Tryz.f14) .skip) qcV qdY g v=qbc g v:=by kernel_rfl
theorem qoO (l_0:List CELL) (n_1:Int):fnF tb (envL e14) Tryz.f14 qgN c14.ps c14.rs (T:=(List CELL)) (fun y=>(y.2.1)) (l_0,n_1,())=qdm l_0 n_1:=by kernel_rfl
abbrev e4:List (Nat×Ctr):=[(13,c13),(14,c14)]
def qiQ:LH
 | _=>none
theorem qnp (m_0:qas) (row_1:List CELL):fnF tb (envL e4) Tryz.f4 qiQ c4.ps c4.rs (T:=qas×(List CELL)) (fun y=>(y.2.1,y.2.2.1)) (m_0,row_1,())=qdj m_0 row_1:=by kernel_rfl
abbrev e66:List (Nat×Ctr):=[]
def qja:LH
 | 18=>some ⟨qf4,qhi,lp qcv K0⟩
 | 8=>some ⟨qf5,qhj,lp qbG K0⟩
 | _=>none
theorem qul (g:qf4.V->Option (OT qhi)) (v:qf4.V):q10q tb (envL e66) 72 qja (q3q 9 (q4q Tryz.f66) .skip) qf4 qhi g v=qcv g v:=by kernel_rfl
theorem qum (g:qf5.V->Option (OT qhj)) (v:qf5.V):q10q tb (envL e66) 72 qja (q3q 4 (q4q Tryz.f66) .skip) qf5 qhj g v=qbG g v:=by kernel_rfl
theorem qun (a_0:qas):fnF tb (envL e66) Tryz.f66 qja c66.ps c66.rs (T:=Bool) (fun y=>(y.2.1)) (a_0,())=qkY a_0:=by kernel_rfl
abbrev e67:List (Nat×Ctr):=[]
def qjC:LH
 | 4=>some ⟨qeE,qfz,lp qbx K0⟩
 | _=>none
theorem qrA (g:qeE.V->Option (OT qfz)) (v:qeE.V):q10q tb (envL e67) 52 qjC (q3q 2 (q4q Tryz.f67) .skip) qeE qfz g v=qbx g v:=by kernel_rfl
theorem qrB (t_0:List NODE) (features_1:Int):fnF tb (envL e67) Tryz.f67 qjC c67.ps c67.rs (T:=Int×Int) (fun y=>(y.2.1,y.2.2.1)) (t_0,features_1,())=qgP t_0 features_1:=by kernel_rfl
abbrev e68:List (Nat×Ctr):=[]
def qff:LH
 | 6=>some ⟨qfg,qgj,lp qcj K0⟩
 | 20=>some ⟨qeD,qfy,lp qbd K0⟩
 | 34=>some ⟨qeC,qfx,lp qck K0⟩
 | 50=>some ⟨qeB,qfw,lp qbw K0⟩
 | _=>none
theorem qsS (g:qfg.V->Option (OT qgj)) (v:qfg.V):q10q tb (envL e68) 103 qff (q3q 3 (q4q Tryz.f68) .skip) qfg qgj g v=qcj g v:=by kernel_rfl
theorem qry (g:qeD.V->Option (OT qfy)) (v:qeD.V):q10q tb (envL e68) 103 qff (q3q 10 (q4q Tryz.f68) .skip) qeD qfy g v=qbd g v:=by kernel_rfl
theorem qrx (g:qeC.V->Option (OT qfx)) (v:qeC.V):q10q tb (envL e68) 103 qff (q3q 17 (q4q Tryz.f68) .skip) qeC qfx g v=qck g v:=by kernel_rfl
theorem qrw (g:qeB.V->Option (OT qfw)) (v:qeB.V):q10q tb (envL e68) 103 qff (q3q 25 (q4q Tryz.f68) .skip) qeB qfw g v=qbw g v:=by kernel_rfl
theorem qsT (a_0:List NODE):fnF tb (envL e68) Tryz.f68 qff c68.ps c68.rs (T:=Int×Int) (fun y=>(y.2.1,y.2.2.1)) (a_0,())=qjB a_0:=by kernel_rfl
abbrev e73:List (Nat×Ctr):=[]
def qop:LH
 | 4=>some ⟨qh2,qjM,lp qe4 K0⟩
 | _=>none
theorem qw2 (g:qh2.V->Option (OT qjM)) (v:qh2.V):q10q tb (envL e73) 23 qop (q3q 2 (q4q Tryz.f73) .skip) qh2 qjM g v=qe4 g v:=by kernel_rfl
theorem qw3 (a_0:List Int):fnF tb (envL e73) Tryz.f73 qop c73.ps c73.rs (T:=(List Int)) (fun y=>(y.2.1)) (a_0,())=qfp a_0:=by kernel_rfl
abbrev e46:List (Nat×Ctr):=[(73,c73)]
def qvR:LH
 | _=>none
theorem qA2 (n_0:Int):fnF tb (envL e46) Tryz.f46 qvR c46.ps c46.rs (T:=(List Int)) (fun y=>(y.2.1)) (n_0,())=qmD n_0:=by kernel_rfl
abbrev e29:List (Nat×Ctr):=[(46,c46)]
def qo7:LH
 | _=>none
theorem qt5 :fnF tb (envL e29) Tryz.f29 qo7 c29.ps c29.rs (T:=RAT) (fun y=>(y.2.1)) ()=qdE :=by kernel_rfl
abbrev e77:List (Nat×Ctr):=[(73,c73)]
def qmF:LH
 | 6=>some ⟨qg3,qiA,lp qd8 K0⟩
 | _=>none
theorem qvT (g:qg3.V->Option (OT qiA)) (v:qg3.V):q10q tb (envL e77) 24 qmF (q3q 3 (q4q Tryz.f77) .skip) qg3 qiA g v=qd8 g v:=by kernel_rfl
theorem qvU (a_0:List Int):fnF tb (envL e77) Tryz.f77 qmF c77.ps c77.rs (T:=(List Int)) (fun y=>(y.2.1)) (a_0,())=qcu a_0:=by kernel_rfl
abbrev e132:List (Nat×Ctr):=[(77,c77)]
def qvQ:LH
 | _=>none
theorem qA1 (a_0:List Int):fnF tb (envL e132) Tryz.f132 qvQ c132.ps c132.rs (T:=Int×Bool) (fun y=>(y.2.1,y.2.2.1)) (a_0,())=qtq a_0:=by kernel_rfl
abbrev e110:List (Nat×Ctr):=[(46,c46),(132,c132)]
def qlA:LH
 | 6=>some ⟨qf1,qhh,lp qd7 K0⟩
 | _=>none
theorem quf (g:qf1.V->Option (OT qhh)) (v:qf1.V):q10q tb (envL e110) 27 qlA (q3q 3 (q4q Tryz.f110) .skip) qf1 qhh g v=qd7 g v:=by kernel_rfl
theorem qug (a_0:List Int) (b_1:List Int):fnF tb (envL e110) Tryz.f110 qlA c110.ps c110.rs (T:=(List Int)) (fun y=>(y.2.1)) (a_0,b_1,())=qkT a_0 b_1:=by kernel_rfl
abbrev e111:List (Nat×Ctr):=[(133,c133)]
def qmw:LH
 | 6=>some ⟨qgX,qiu,lp qeY K0⟩
 | _=>none
theorem qvC (g:qgX.V->Option (OT qiu)) (v:qgX.V):q10q tb (envL e111) 24 qmw (q3q 3 (q4q Tryz.f111) .skip) qgX qiu g v=qeY g v:=by kernel_rfl
theorem qvD (a_0:List Int):fnF tb (envL e111) Tryz.f111 qmw c111.ps c111.rs (T:=Int) (fun y=>(y.2.1)) (a_0,())=qcN a_0:=by kernel_rfl
abbrev e119:List (Nat×Ctr):=[]
def qsb:LH
 | _=>none
theorem qxb (a_0:List Int) (i_1:Int):fnF tb (envL e119) Tryz.f119 qsb c119.ps c119.rs (T:=Int) (fun y=>(y.2.1)) (a_0,i_1,())=qii a_0 i_1:=by kernel_rfl
abbrev e112:List (Nat×Ctr):=[(73,c73),(119,c119)]
def qp5:LH
 | 12=>some ⟨qjr,qkR,lp qfZ K0⟩
 | _=>none
theorem qzh (g:qjr.V->Option (OT qkR)) (v:qjr.V):q10q tb (envL e112) 50 qp5 (q3q 6 (q4q Tryz.f112) .skip) qjr qkR g v=qfZ g v:=by kernel_rfl
theorem qzi (a_0:List Int) (n_1:Int):fnF tb (envL e112) Tryz.f112 qp5 c112.ps c112.rs (T:=(List Int)) (fun y=>(y.2.1)) (a_0,n_1,())=qe5 a_0 n_1:=by kernel_rfl
abbrev e113:List (Nat×Ctr):=[]
def qmz:LH
 | 12=>some ⟨qgZ,qiw,lp qdC K0⟩
 | _=>none
theorem qvI (g:qgZ.V->Option (OT qiw)) (v:qgZ.V):q10q tb (envL e113) 45 qmz (q3q 6 (q4q Tryz.f113) .skip) qgZ qiw g v=qdC g v:=by kernel_rfl
theorem qvJ (a_0:List Int) (b_1:List Int):fnF tb (envL e113) Tryz.f113 qmz c113.ps c113.rs (T:=Int) (fun y=>(y.2.1)) (a_0,b_1,())=qix a_0 b_1:=by kernel_rfl
abbrev e114:List (Nat×Ctr):=[(73,c73)]
def qp6:LH
 | 8=>some ⟨qjs,qkS,lp qf0 K0⟩
 | _=>none
theorem qzk (g:qjs.V->Option (OT qkS)) (v:qjs.V):q10q tb (envL e114) 51 qp6 (q3q 4 (q4q Tryz.f114) .skip) qjs qkS g v=qf0 g v:=by kernel_rfl
theorem qzl (a_0:List Int) (n_1:Int):fnF tb (envL e114) Tryz.f114 qp6 c114.ps c114.rs (T:=(List Int)) (fun y=>(y.2.1)) (a_0,n_1,())=qjO a_0 n_1:=by kernel_rfl
abbrev e117:List (Nat×Ctr):=[(73,c73)]
def qmx:LH
 | 8=>some ⟨qgY,qiv,lp qeZ K0⟩
 | _=>none
theorem qvF (g:qgY.V->Option (OT qiv)) (v:qgY.V):q10q tb (envL e117) 38 qmx (q3q 4 (q4q Tryz.f117) .skip) qgY qiv g v=qeZ g v:=by kernel_rfl
theorem qvG (a_0:List Int) (d_1:Int):fnF tb (envL e117) Tryz.f117 qmx c117.ps c117.rs (T:=(List Int)×Int) (fun y=>(y.2.1,y.2.2.1)) (a_0,d_1,())=qmy a_0 d_1:=by kernel_rfl
abbrev e134:List (Nat×Ctr):=[(143,c143)]
def qhS:LH
 | _=>none
theorem ql6 (x_0:Int):fnF tb (envL e134) Tryz.f134 qhS c134.ps c134.rs (T:=Int) (fun y=>(y.2.1)) (x_0,())=qd1 x_0:=by kernel_rfl
abbrev e144:List (Nat×Ctr):=[(119,c119)]
def qoq:LH
 | 6=>some ⟨qh3,qjN,lp qfK K0⟩
 | _=>none
theorem qw5 (g:qh3.V->Option (OT qjN)) (v:qh3.V):q10q tb (envL e144) 46 qoq (q3q 3 (q4q Tryz.f144) .skip) qh3 qjN g v=qfK g v:=by kernel_rfl
theorem qw6 (u_0:List Int) (v_1:List Int) (times_2:Int):fnF tb (envL e144) Tryz.f144 qoq c144.ps c144.rs (T:=(List Int)×Bool) (fun y=>(y.1.1,y.2.1)) (u_0,v_1,times_2,())=qpj u_0 v_1 times_2:=by kernel_rfl
abbrev e145:List (Nat×Ctr):=[(119,c119)]
def qos:LH
 | 4=>some ⟨qh5,qjQ,lp qfL K0⟩
 | _=>none
theorem qxd (g:qh5.V->Option (OT qjQ)) (v:qh5.V):q10q tb (envL e145) 29 qos (q3q 2 (q4q Tryz.f145) .skip) qh5 qjQ g v=qfL g v:=by kernel_rfl
theorem qxe (u_0:List Int) (v_1:List Int):fnF tb (envL e145) Tryz.f145 qos c145.ps c145.rs (T:=(List Int)) (fun y=>(y.1.1)) (u_0,v_1,())=qpn u_0 v_1:=by kernel_rfl
abbrev e135:List (Nat×Ctr):=[(144,c144),(145,c145)]
def qmB:LH
 | 8=>some ⟨qg1,qiz,lp qb6 K0⟩
 | _=>none
theorem qvO (g:qg1.V->Option (OT qiz)) (v:qg1.V):q10q tb (envL e135) 77 qmB (q3q 4 (q4q Tryz.f135) .skip) qg1 qiz g v=qb6 g v:=by kernel_rfl
theorem qvP (a_0:List Int) (a_1:List Int):fnF tb (envL e135) Tryz.f135 qmB c135.ps c135.rs (T:=(List Int)×Int) (fun y=>(y.1.1,y.2.1)) (a_0,a_1,())=qkU a_0 a_1:=by kernel_rfl
abbrev e118:List (Nat×Ctr):=[(73,c73),(112,c112),(114,c114),(134,c134),(135,c135)]
def qor:LH
 | 14=>some ⟨qh4,qjP,lp qe6 K0⟩
 | _=>none
theorem qw9 (g:qh4.V->Option (OT qjP)) (v:qh4.V):q10q tb (envL e118) 64 qor (q3q 7 (q4q Tryz.f118) .skip) qh4 qjP g v=qe6 g v:=by kernel_rfl
theorem qxa (a_0:List Int) (b_1:List Int):fnF tb (envL e118) Tryz.f118 qor c118.ps c118.rs (T:=(List Int)×(List Int)) (fun y=>(y.2.1,y.2.2.1)) (a_0,b_1,())=qpm a_0 b_1:=by kernel_rfl
abbrev e85:List (Nat×Ctr):=[(46,c46),(77,c77),(113,c113),(117,c117),(118,c118)]
def qpo:LH
 | _=>none
theorem quh (a_0:List Int) (b_1:List Int):fnF tb (envL e85) Tryz.f85 qpo c85.ps c85.rs (T:=(List Int)×(List Int)×Int) (fun y=>(y.2.1,y.2.2.1,y.2.2.2.1)) (a_0,b_1,())=qf3 a_0 b_1:=by kernel_rfl
abbrev e115:List (Nat×Ctr):=[(85,c85)]
def qsa:LH
 | _=>none
theorem qw7 (a_0:List Int) (b_1:List Int):fnF tb (envL e115) Tryz.f115 qsa c115.ps c115.rs (T:=(List Int)×(List Int)) (fun y=>(y.2.1,y.2.2.1)) (a_0,b_1,())=qj9 a_0 b_1:=by kernel_rfl
abbrev e116:List (Nat×Ctr):=[(73,c73),(119,c119)]
def qmA:LH
 | 8=>some ⟨qg0,qiy,lp qe0 K0⟩
 | _=>none
theorem qvL (g:qg0.V->Option (OT qiy)) (v:qg0.V):q10q tb (envL e116) 39 qmA (q3q 4 (q4q Tryz.f116) .skip) qg0 qiy g v=qe0 g v:=by kernel_rfl
theorem qvM (a_0:List Int) (b_1:List Int):fnF tb (envL e116) Tryz.f116 qmA c116.ps c116.rs (T:=(List Int)) (fun y=>(y.2.1)) (a_0,b_1,())=qhg a_0 b_1:=by kernel_rfl
abbrev e84:List (Nat×Ctr):=[(77,c77),(110,c110),(111,c111),(112,c112),(113,c113),(114,c114),(115,c115),(116,c116)]
def qp7:LH
 | 20=>some ⟨qh6,qjR,lp qct K0⟩
 | _=>none
theorem qxg (g:qh6.V->Option (OT qjR)) (v:qh6.V):q10q tb (envL e84) 86 qp7 (q3q 10 (q4q Tryz.f84) .skip) qh6 qjR g v=qct g v:=by kernel_rfl
theorem qzs (a_0:List Int) (a_1:List Int):fnF tb (envL e84) Tryz.f84 qp7 c84.ps c84.rs (T:=(List Int)) (fun y=>(y.2.1)) (a_0,a_1,())=qsc a_0 a_1:=by kernel_rfl
abbrev e55:List (Nat×Ctr):=[(46,c46),(84,c84),(85,c85)]
def qo6:LH
 | _=>none
theorem qt4 (num_0:WH) (den_1:List Int):fnF tb (envL e55) Tryz.f55 qo6 c55.ps c55.rs (T:=RAT) (fun y=>(y.2.1)) (num_0,den_1,())=qfk num_0 den_1:=by kernel_rfl
abbrev e72:List (Nat×Ctr):=[]
def qoW:LH
 | _=>none
theorem qtM (neg_0:Bool) (abs_1:List Int):fnF tb (envL e72) Tryz.f72 qoW c72.ps c72.rs (T:=WH) (fun y=>(y.2.1)) (neg_0,abs_1,())=qex neg_0 abs_1:=by kernel_rfl
abbrev e75:List (Nat×Ctr):=[(72,c72),(77,c77)]
def qn7:LH
 | _=>none
theorem qsQ (a_0:WH):fnF tb (envL e75) Tryz.f75 qn7 c75.ps c75.rs (T:=WH) (fun y=>(y.2.1)) (a_0,())=qbX a_0:=by kernel_rfl
abbrev e49:List (Nat×Ctr):=[(29,c29),(55,c55),(75,c75),(77,c77)]
def qob:LH
 | _=>none
theorem qs0 (a_0:RAT):fnF tb (envL e49) Tryz.f49 qob c49.ps c49.rs (T:=RAT) (fun y=>(y.2.1)) (a_0,())=qbK a_0:=by kernel_rfl
abbrev e76:List (Nat×Ctr):=[(75,c75)]
def qoX:LH
 | _=>none
theorem qtN (a_0:WH):fnF tb (envL e76) Tryz.f76 qoX c76.ps c76.rs (T:=Int) (fun y=>(y.2.1)) (a_0,())=qjj a_0:=by kernel_rfl
abbrev e100:List (Nat×Ctr):=[(49,c49),(76,c76)]
def qo9:LH
 | _=>none
theorem qt6 (a_0:RAT):fnF tb (envL e100) Tryz.f100 qo9 c100.ps c100.rs (T:=Int) (fun y=>(y.2.1)) (a_0,())=qjo a_0:=by kernel_rfl
abbrev e69:List (Nat×Ctr):=[(100,c100)]
def qjD:LH
 | 4=>some ⟨qeF,qfA,lp qby K0⟩
 | _=>none
theorem qrD (g:qeF.V->Option (OT qfA)) (v:qeF.V):q10q tb (envL e69) 19 qjD (q3q 2 (q4q Tryz.f69) .skip) qeF qfA g v=qby g v:=by kernel_rfl
theorem qrE (t_0:List NODE):fnF tb (envL e69) Tryz.f69 qjD c69.ps c69.rs (T:=Int×Int) (fun y=>(y.2.1,y.2.2.1)) (t_0,())=qgQ t_0:=by kernel_rfl
abbrev e59:List (Nat×Ctr):=[(73,c73),(77,c77)]
def qnz:LH
 | 16=>some ⟨qjt,qkV,lp qf2 K0⟩
 | 8=>some ⟨qju,qkW,lp qg2 K0⟩
 | _=>none
theorem qzp (g:qjt.V->Option (OT qkV)) (v:qjt.V):q10q tb (envL e59) 67 qnz (q3q 8 (q4q Tryz.f59) .skip) qjt qkV g v=qf2 g v:=by kernel_rfl
theorem qzq (g:qju.V->Option (OT qkW)) (v:qju.V):q10q tb (envL e59) 67 qnz (q3q 4 (q4q Tryz.f59) .skip) qju qkW g v=qg2 g v:=by kernel_rfl
theorem qzr (a_0:List Int) (a_1:List Int):fnF tb (envL e59) Tryz.f59 qnz c59.ps c59.rs (T:=(List Int)) (fun y=>(y.2.1)) (a_0,a_1,())=qmE a_0 a_1:=by kernel_rfl
abbrev e57:List (Nat×Ctr):=[(59,c59),(72,c72),(75,c75)]
def qqx:LH
 | _=>none
theorem quQ (a_0:WH) (b_1:WH):fnF tb (envL e57) Tryz.f57 qqx c57.ps c57.rs (T:=WH) (fun y=>(y.2.1)) (a_0,b_1,())=qey a_0 b_1:=by kernel_rfl
abbrev e58:List (Nat×Ctr):=[]
def qqF:LH
 | _=>none
theorem qvd (a_0:RAT):fnF tb (envL e58) Tryz.f58 qqF c58.ps c58.rs (T:=WH) (fun y=>(y.2.1)) (a_0,())=qgn a_0:=by kernel_rfl
abbrev e87:List (Nat×Ctr):=[(77,c77),(113,c113)]
def qts:LH
 | _=>none
theorem qzt (a_0:List Int) (b_1:List Int):fnF tb (envL e87) Tryz.f87 qts c87.ps c87.rs (T:=Int) (fun y=>(y.2.1)) (a_0,b_1,())=qiW a_0 b_1:=by kernel_rfl
abbrev e74:List (Nat×Ctr):=[(75,c75),(87,c87)]
def qqy:LH
 | _=>none
theorem quR (a_0:WH) (b_1:WH):fnF tb (envL e74) Tryz.f74 qqy c74.ps c74.rs (T:=Int) (fun y=>(y.2.1)) (a_0,b_1,())=ql8 a_0 b_1:=by kernel_rfl
abbrev e47:List (Nat×Ctr):=[(49,c49),(57,c57),(58,c58),(74,c74)]
def qqQ:LH
 | _=>none
theorem qvo (a_0:RAT) (b_1:RAT):fnF tb (envL e47) Tryz.f47 qqQ c47.ps c47.rs (T:=Int) (fun y=>(y.2.1)) (a_0,b_1,())=qkE a_0 b_1:=by kernel_rfl
abbrev e19:List (Nat×Ctr):=[(47,c47)]
def qpa:LH
 | _=>none
theorem qt8 (a_0:RAT) (b_1:RAT):fnF tb (envL e19) Tryz.f19 qpa c19.ps c19.rs (T:=Bool) (fun y=>(y.2.1)) (a_0,b_1,())=qjp a_0 b_1:=by kernel_rfl
abbrev e86:List (Nat×Ctr):=[(73,c73),(77,c77),(119,c119)]
def qp8:LH
 | 10=>some ⟨qjv,qkX,lp qg4 K0⟩
 | _=>none
theorem qzv (g:qjv.V->Option (OT qkX)) (v:qjv.V):q10q tb (envL e86) 43 qp8 (q3q 5 (q4q Tryz.f86) .skip) qjv qkX g v=qg4 g v:=by kernel_rfl
theorem qzw (a_0:List Int) (b_1:List Int):fnF tb (envL e86) Tryz.f86 qp8 c86.ps c86.rs (T:=(List Int)) (fun y=>(y.2.1)) (a_0,b_1,())=qp9 a_0 b_1:=by kernel_rfl
abbrev e88:List (Nat×Ctr):=[(77,c77),(113,c113),(116,c116)]
def qtr:LH
 | _=>none
theorem qzm (a_0:List Int) (b_1:List Int):fnF tb (envL e88) Tryz.f88 qtr c88.ps c88.rs (T:=(List Int)×Int) (fun y=>(y.2.1,y.2.2.1)) (a_0,b_1,())=qmC a_0 b_1:=by kernel_rfl
abbrev e56:List (Nat×Ctr):=[(72,c72),(75,c75),(86,c86),(87,c87),(88,c88)]
def qqz:LH
 | _=>none
theorem quS (a_0:WH) (b_1:WH):fnF tb (envL e56) Tryz.f56 qqz c56.ps c56.rs (T:=WH) (fun y=>(y.2.1)) (a_0,b_1,())=ql9 a_0 b_1:=by kernel_rfl
abbrev e34:List (Nat×Ctr):=[(49,c49),(55,c55),(56,c56),(57,c57),(58,c58),(59,c59)]
def qqR:LH
 | _=>none
theorem qvp (a_0:RAT) (b_1:RAT):fnF tb (envL e34) Tryz.f34 qqR c34.ps c34.rs (T:=RAT) (fun y=>(y.2.1)) (a_0,b_1,())=qaU a_0 b_1:=by kernel_rfl
abbrev e70:List (Nat×Ctr):=[(19,c19),(34,c34)]
def qlb:LH
 | 4=>some ⟨qfX,qg8,lp qbV K0⟩
 | _=>none
theorem qtP (g:qfX.V->Option (OT qg8)) (v:qfX.V):q10q tb (envL e70) 37 qlb (q3q 2 (q4q Tryz.f70) .skip) qfX qg8 g v=qbV g v:=by kernel_rfl
theorem qtQ (t_0:List NODE):fnF tb (envL e70) Tryz.f70 qlb c70.ps c70.rs (T:=Int×Int) (fun y=>(y.2.1,y.2.2.1)) (t_0,())=qjk t_0:=by kernel_rfl
abbrev e71:List (Nat×Ctr):=[]
def qn8:LH
 | _=>none
theorem qsU (e_0:Int) (tree_1:Int) (node_2:Int):fnF tb (envL e71) Tryz.f71 qn8 c71.ps c71.rs (T:=(Int×Int×Int×Int)) (fun y=>(y.2.1)) (e_0,tree_1,node_2,())=qgF e_0 tree_1 node_2:=by kernel_rfl
abbrev e44:List (Nat×Ctr):=[(66,c66),(67,c67),(68,c68),(69,c69),(70,c70),(71,c71)]
def qih:LH
 | 14=>some ⟨qfh,qgk,lp qaJ K0⟩
 | 8=>some ⟨qfi,qgl,lp qbT K0⟩
 | _=>none
theorem qsX (g:qfh.V->Option (OT qgk)) (v:qfh.V):q10q tb (envL e44) 63 qih (q3q 7 (q4q Tryz.f44) .skip) qfh qgk g v=qaJ g v:=by kernel_rfl
theorem qsY (g:qfi.V->Option (OT qgl)) (v:qfi.V):q10q tb (envL e44) 63 qih (q3q 4 (q4q Tryz.f44) .skip) qfi qgl g v=qbT g v:=by kernel_rfl
theorem qsZ (m_0:qas):fnF tb (envL e44) Tryz.f44 qih c44.ps c44.rs (T:=(Int×Int×Int×Int)) (fun y=>(y.2.1)) (m_0,())=qhV m_0:=by kernel_rfl
abbrev e15:List (Nat×Ctr):=[(44,c44)]
def qrF:LH
 | _=>none
theorem qwF (m_0:qas):fnF tb (envL e15) Tryz.f15 qrF c15.ps c15.rs (T:=Bool) (fun y=>(y.2.1)) (m_0,())=qfn m_0:=by kernel_rfl
abbrev e5:List (Nat×Ctr):=[(15,c15)]
def qj4:LH
 | _=>none
theorem qoL (m_0:qas) (row_1:List CELL):fnF tb (envL e5) Tryz.f5 qj4 c5.ps c5.rs (T:=Int) (fun y=>(y.2.1)) (m_0,row_1,())=qgE m_0 row_1:=by kernel_rfl
abbrev e45:List (Nat×Ctr):=[(46,c46),(72,c72)]
def qrs:LH
 | _=>none
theorem qwC (n_0:Int):fnF tb (envL e45) Tryz.f45 qrs c45.ps c45.rs (T:=WH) (fun y=>(y.2.1)) (n_0,())=qig n_0:=by kernel_rfl
abbrev e17:List (Nat×Ctr):=[(45,c45),(46,c46)]
def qrV:LH
 | _=>none
theorem qwT (n_0:Int):fnF tb (envL e17) Tryz.f17 qrV c17.ps c17.rs (T:=RAT) (fun y=>(y.2.1)) (n_0,())=qj7 n_0:=by kernel_rfl
abbrev e16:List (Nat×Ctr):=[(17,c17)]
def qqH:LH
 | _=>none
theorem qvj :fnF tb (envL e16) Tryz.f16 qqH c16.ps c16.rs (T:=RAT) (fun y=>(y.2.1)) ()=qhc :=by kernel_rfl
abbrev e60:List (Nat×Ctr):=[(72,c72),(75,c75)]
def qqw:LH
 | _=>none
theorem quP (a_0:WH):fnF tb (envL e60) Tryz.f60 qqw c60.ps c60.rs (T:=WH) (fun y=>(y.2.1)) (a_0,())=qko a_0:=by kernel_rfl
abbrev e39:List (Nat×Ctr):=[(49,c49),(60,c60)]
def qqJ:LH
 | _=>none
theorem qvk (a_0:RAT):fnF tb (envL e39) Tryz.f39 qqJ c39.ps c39.rs (T:=RAT) (fun y=>(y.2.1)) (a_0,())=qjG a_0:=by kernel_rfl
abbrev e11:List (Nat×Ctr):=[(34,c34),(39,c39)]
def qqG:LH
 | _=>none
theorem qvi (a_0:RAT) (b_1:RAT):fnF tb (envL e11) Tryz.f11 qqG c11.ps c11.rs (T:=RAT) (fun y=>(y.2.1)) (a_0,b_1,())=qcZ a_0 b_1:=by kernel_rfl
abbrev e48:List (Nat×Ctr):=[(55,c55),(60,c60),(75,c75),(76,c76)]
def qpb:LH
 | _=>none
theorem qt9 (num_0:WH) (den_1:WH):fnF tb (envL e48) Tryz.f48 qpb c48.ps c48.rs (T:=RAT×Int) (fun y=>(y.2.1,y.2.2.1)) (num_0,den_1,())=qhY num_0 den_1:=by kernel_rfl
abbrev e20:List (Nat×Ctr):=[(45,c45),(48,c48),(49,c49)]
def qpc:LH
 | _=>none
theorem qua (n_0:Int) (d_1:Int):fnF tb (envL e20) Tryz.f20 qpc c20.ps c20.rs (T:=RAT) (fun y=>(y.2.1)) (n_0,d_1,())=qdc n_0 d_1:=by kernel_rfl
abbrev e35:List (Nat×Ctr):=[(49,c49),(55,c55),(57,c57),(59,c59)]
def qqK:LH
 | _=>none
theorem qvl (a_0:RAT) (b_1:RAT):fnF tb (envL e35) Tryz.f35 qqK c35.ps c35.rs (T:=RAT) (fun y=>(y.2.1)) (a_0,b_1,())=qaj a_0 b_1:=by kernel_rfl
abbrev e52:List (Nat×Ctr):=[(15,c15)]
def qo3:LH
 | _=>none
theorem qt1 (m_0:qas) (row_1:List CELL):fnF tb (envL e52) Tryz.f52 qo3 c52.ps c52.rs (T:=Int) (fun y=>(y.2.1)) (m_0,row_1,())=qfj m_0 row_1:=by kernel_rfl
abbrev e26:List (Nat×Ctr):=[(52,c52)]
def qo5:LH
 | _=>none
theorem qt3 (m_0:qas) (row_1:List CELL):fnF tb (envL e26) Tryz.f26 qo5 c26.ps c26.rs (T:=Int) (fun y=>(y.2.1)) (m_0,row_1,())=qcC m_0 row_1:=by kernel_rfl
abbrev e78:List (Nat×Ctr):=[(29,c29)]
def qh0:LH
 | 6=>some ⟨qdF,qeI,lp qbB K0⟩
 | _=>none
theorem qp1 (g:qdF.V->Option (OT qeI)) (v:qdF.V):q10q tb (envL e78) 13 qh0 (q3q 3 (q4q Tryz.f78) .skip) qdF qeI g v=qbB g v:=by kernel_rfl
theorem qp2 (n_0:Int):fnF tb (envL e78) Tryz.f78 qh0 c78.ps c78.rs (T:=(List RAT)) (fun y=>(y.2.1)) (n_0,())=qgo n_0:=by kernel_rfl
abbrev e101:List (Nat×Ctr):=[(16,c16)]
def qmo:LH
 | _=>none
theorem qr4 :fnFB tb (envL e101) Tryz.f101 qmo w101 c101.ps c101.rs (T:=(List (Int×RAT×CELL))) (fun y=>(y.2.1)) ()=qit :=by kernel_rfl
abbrev e123:List (Nat×Ctr):=[]
def qfG:LH
 | 8=>some ⟨qb4,qc0,lp qam K0⟩
 | _=>none
theorem qml (g:qb4.V->Option (OT qc0)) (v:qb4.V):q10q tb (envL e123) 29 qfG (q3q 4 (q4q Tryz.f123) .skip) qb4 qc0 g v=qam g v:=by kernel_rfl
theorem qmm (feature_0:Int) (b_1:List (Int×RAT×CELL)):fnFB tb (envL e123) Tryz.f123 qfG w123 c123.ps c123.rs (T:=Int×(List (Int×RAT×CELL))) (fun y=>(y.2.1,y.2.2.1)) (feature_0,b_1,())=qbO feature_0 b_1:=by kernel_rfl
abbrev e124:List (Nat×Ctr):=[]
def qfm:LH
 | 10=>some ⟨qbS,qcM,lp qaH K0⟩
 | _=>none
theorem ql1 (g:qbS.V->Option (OT qcM)) (v:qbS.V):q10q tb (envL e124) 32 qfm (q3q 5 (q4q Tryz.f124) .skip) qbS qcM g v=qaH g v:=by kernel_rfl
theorem ql2 (b_0:List (Int×RAT×CELL)):fnFB tb (envL e124) Tryz.f124 qfm w124 c124.ps c124.rs (T:=(List PART)×(List (Int×RAT×CELL))) (fun y=>(y.2.1,y.2.2.1)) (b_0,())=qcO b_0:=by kernel_rfl
abbrev e138:List (Nat×Ctr):=[(48,c48),(49,c49),(58,c58)]
def qqM:LH
 | _=>none
theorem qvm (a_0:RAT):fnF tb (envL e138) Tryz.f138 qqM c138.ps c138.rs (T:=RAT×Int) (fun y=>(y.2.1,y.2.2.1)) (a_0,())=qkD a_0:=by kernel_rfl
abbrev e137:List (Nat×Ctr):=[(11,c11),(20,c20),(35,c35),(138,c138)]
def qeK:LH
 | 14=>some ⟨qbr,qb2,lp qaq K0⟩
 | _=>none
theorem qkJ (g:qbr.V->Option (OT qb2)) (v:qbr.V):q10q tb (envL e137) 104 qeK (q3q 7 (q4q Tryz.f137) .skip) qbr qb2 g v=qaq g v:=by kernel_rfl
theorem qkK (a_0:Int) (b_1:List (Int×RAT×CELL)):fnFB tb (envL e137) Tryz.f137 qeK w137 c137.ps c137.rs (T:=(List RAT)×(List (Int×RAT×CELL))) (fun y=>(y.2.1,y.2.2.1)) (a_0,b_1,())=qb3 a_0 b_1:=by kernel_rfl
abbrev e125:List (Nat×Ctr):=[(137,c137)]
def qe2:LH
 | 16=>some ⟨qbF,qcr,lp qaz K0⟩
 | _=>none
theorem qlu (g:qbF.V->Option (OT qcr)) (v:qbF.V):q10q tb (envL e125) 66 qe2 (q3q 8 (q4q Tryz.f125) .skip) qbF qcr g v=qaz g v:=by kernel_rfl
theorem qlv (a_0:Int) (b_1:List (Int×RAT×CELL)):fnFB tb (envL e125) Tryz.f125 qe2 w125 c125.ps c125.rs (T:=Int×(List (Int×RAT×CELL))) (fun y=>(y.2.1,y.2.2.1)) (a_0,b_1,())=qcE a_0 b_1:=by kernel_rfl
abbrev e126:List (Nat×Ctr):=[(20,c20),(29,c29),(34,c34),(35,c35),(49,c49),(100,c100),(123,c123)]
def qe3:LH
 | 20=>some ⟨qbs,qb5,lp qar K0⟩
 | _=>none
theorem qkM (g:qbs.V->Option (OT qb5)) (v:qbs.V):q10q tb (envL e126) 113 qe3 (q3q 10 (q4q Tryz.f126) .skip) qbs qb5 g v=qar g v:=by kernel_rfl
theorem qlw (a_0:Int) (a_1:RAT) (a_2:Bool) (b_3:List (Int×RAT×CELL)):fnFB tb (envL e126) Tryz.f126 qe3 w126 c126.ps c126.rs (T:=Int×(List (Int×RAT×CELL))) (fun y=>(y.2.1,y.2.2.1)) (a_0,a_1,a_2,b_3,())=qaW a_0 a_1 a_2 b_3:=by kernel_rfl
abbrev e102:List (Nat×Ctr):=[(35,c35),(123,c123),(124,c124),(125,c125),(126,c126)]
def qhD:LH
 | _=>none
theorem qlZ (b_0:Int) (b_1:Bool) (b_2:List Int) (b_3:List Int) (b_4:Int) (b_5:Bool) (b_6:List Int) (b_7:List Int) (b_8:Bool) (b_9:List (Int×RAT×CELL)):fnFB tb (envL e102) Tryz.f102 qhD w102 c102.ps c102.rs (T:=Int×Bool×(List Int)×(List Int)×Int×Bool×(List Int)×(List Int)×Bool×(List (Int×RAT×CELL))) (fun y=>(y.2.1,y.2.2.1,y.2.2.2.1,y.2.2.2.2.1,y.2.2.2.2.2.1,y.2.2.2.2.2.2.1,y.2.2.2.2.2.2.2.1,y.2.2.2.2.2.2.2.2.1,y.2.2.2.2.2.2.2.2.2.1,y.2.2.2.2.2.2.2.2.2.2.1)) (b_0,b_1,b_2,b_3,b_4,b_5,b_6,b_7,b_8,b_9,())=qa7 b_0 b_1 b_2 b_3 b_4 b_5 b_6 b_7 b_8 b_9:=by kernel_rfl
abbrev e25:List (Nat×Ctr):=[(29,c29),(34,c34)]
def qmi:LH
 | 6=>some ⟨qgR,qiq,lp qd5 K0⟩
 | _=>none
theorem qvg (g:qgR.V->Option (OT qiq)) (v:qgR.V):q10q tb (envL e25) 18 qmi (q3q 3 (q4q Tryz.f25) .skip) qgR qiq g v=qd5 g v:=by kernel_rfl
theorem qvh (l_0:List RAT):fnF tb (envL e25) Tryz.f25 qmi c25.ps c25.rs (T:=RAT) (fun y=>(y.2.1)) (l_0,())=qkC l_0:=by kernel_rfl
abbrev e127:List (Nat×Ctr):=[(25,c25),(137,c137)]
def qiZ:LH
 | _=>none
theorem qnI (at_0:Int) (b_1:List (Int×RAT×CELL)):fnFB tb (envL e127) Tryz.f127 qiZ w127 c127.ps c127.rs (T:=RAT×Int×(List (Int×RAT×CELL))) (fun y=>(y.2.1,y.2.2.1,y.2.2.2.1)) (at_0,b_1,())=qeL at_0 b_1:=by kernel_rfl
abbrev e103:List (Nat×Ctr):=[(16,c16),(34,c34),(35,c35),(39,c39),(124,c124),(127,c127)]
def qe1:LH
 | 6=>some ⟨qbE,qcp,lp qau K0⟩
 | _=>none
theorem qlr (g:qbE.V->Option (OT qcp)) (v:qbE.V):q10q tb (envL e103) 69 qe1 (q3q 3 (q4q Tryz.f103) .skip) qbE qcp g v=qau g v:=by kernel_rfl
theorem qls (a_0:Int) (a_1:Bool) (a_2:List Int) (a_3:List Int) (a_4:Int) (a_5:Bool) (a_6:List Int) (a_7:List Int) (a_8:Bool) (b_9:List NODE) (b_10:List CELL) (b_11:Int) (b_12:Bool) (b_13:List RAT) (b_14:List (Int×RAT×CELL)):fnFB tb (envL e103) Tryz.f103 qe1 w103 c103.ps c103.rs (T:=(List RAT)×(List NODE)×(List CELL)×Int×Bool×(List (Int×RAT×CELL))) (fun y=>(y.1.1,y.2.1,y.2.2.1,y.2.2.2.1,y.2.2.2.2.1,y.2.2.2.2.2.1)) (a_0,a_1,a_2,a_3,a_4,a_5,a_6,a_7,a_8,b_9,b_10,b_11,b_12,b_13,b_14,())=qbL a_0 a_1 a_2 a_3 a_4 a_5 a_6 a_7 a_8 b_9 b_10 b_11 b_12 b_13 b_14:=by kernel_rfl
abbrev e106:List (Nat×Ctr):=[(47,c47)]
def qo2:LH
 | _=>none
theorem qt0 (n_0:NODE) (c_1:CELL):fnF tb (envL e106) Tryz.f106 qo2 c106.ps c106.rs (T:=Bool) (fun y=>(y.2.1)) (n_0,c_1,())=qkz n_0 c_1:=by kernel_rfl
abbrev e82:List (Nat×Ctr):=[(106,c106)]
def qo4:LH
 | _=>none
theorem qt2 (n_0:NODE) (c_1:CELL):fnF tb (envL e82) Tryz.f82 qo4 c82.ps c82.rs (T:=Bool) (fun y=>(y.2.1)) (n_0,c_1,())=qjn n_0 c_1:=by kernel_rfl
abbrev e128:List (Nat×Ctr):=[(35,c35),(138,c138)]
def qqO:LH
 | _=>none
theorem qvn (a_0:RAT) (b_1:RAT):fnF tb (envL e128) Tryz.f128 qqO c128.ps c128.rs (T:=RAT×Int) (fun y=>(y.2.1,y.2.2.1)) (a_0,b_1,())=qjH a_0 b_1:=by kernel_rfl
abbrev e129:List (Nat×Ctr):=[]
def qis:LH
 | _=>none
theorem qmn (b_0:List (Int×RAT×CELL)):fnFB tb (envL e129) Tryz.f129 qis w129 c129.ps c129.rs (T:=(List (Int×RAT×CELL))×(List (Int×RAT×CELL))) (fun y=>(y.2.1,y.2.2.1)) (b_0,())=qd6 b_0:=by kernel_rfl
abbrev e104:List (Nat×Ctr):=[(35,c35),(82,c82),(128,c128),(129,c129)]
def qgS:LH
 | _=>none
theorem qkF (a_0:Int) (a_1:Bool) (a_2:List Int) (a_3:List Int) (a_4:Int) (a_5:Bool) (a_6:List Int) (a_7:List Int) (a_8:Bool) (a_9:Int) (a_10:Bool) (b_11:List NODE) (b_12:List CELL) (b_13:Int) (b_14:Bool) (b_15:List RAT) (b_16:List (Int×RAT×CELL)):fnFB tb (envL e104) Tryz.f104 qgS w104 c104.ps c104.rs (T:=(List RAT)×Int×Bool×(List Int)×(List Int)×Int×Bool×(List Int)×(List Int)×Bool×Bool×(List NODE)×(List CELL)×Int×Bool×(List (Int×RAT×CELL))×(List (Int×RAT×CELL))) (fun y=>(y.1.1,y.2.1,y.2.2.1,y.2.2.2.1,y.2.2.2.2.1,y.2.2.2.2.2.1,y.2.2.2.2.2.2.1,y.2.2.2.2.2.2.2.1,y.2.2.2.2.2.2.2.2.1,y.2.2.2.2.2.2.2.2.2.1,y.2.2.2.2.2.2.2.2.2.2.1,y.2.2.2.2.2.2.2.2.2.2.2.1,y.2.2.2.2.2.2.2.2.2.2.2.2.1,y.2.2.2.2.2.2.2.2.2.2.2.2.2.1,y.2.2.2.2.2.2.2.2.2.2.2.2.2.2.1,y.2.2.2.2.2.2.2.2.2.2.2.2.2.2.2.1,y.2.2.2.2.2.2.2.2.2.2.2.2.2.2.2.2.1)) (a_0,a_1,a_2,a_3,a_4,a_5,a_6,a_7,a_8,a_9,a_10,b_11,b_12,b_13,b_14,b_15,b_16,())=qb1 a_0 a_1 a_2 a_3 a_4 a_5 a_6 a_7 a_8 a_9 a_10 b_11 b_12 b_13 b_14 b_15 b_16:=by kernel_rfl
abbrev e79:List (Nat×Ctr):=[(16,c16),(101,c101),(102,c102),(103,c103),(104,c104)]
def qdy:LH
 | 18=>some ⟨qbC,qcn,lp qan K0⟩
 | 2=>some ⟨qbD,qco,lp qat K0⟩
 | _=>none
theorem qln (g:qbC.V->Option (OT qcn)) (v:qbC.V):q10q tb (envL e79) 91 qdy (q3q 9 (q4q Tryz.f79) .skip) qbC qcn g v=qan g v:=by kernel_rfl
theorem qlo (g:qbD.V->Option (OT qco)) (v:qbD.V):q10q tb (envL e79) 91 qdy (q3q 1 (q4q Tryz.f79) .skip) qbD qco g v=qat g v:=by kernel_rfl
theorem qlp (b_0:List NODE) (b_1:List CELL) (b_2:Int) (b_3:Bool) (b_4:List RAT) (b_5:List (Int×(Option ((Option (List (Int×RAT×CELL)))×Unit))×RAT×PART)):fnFB tb (envL e79) Tryz.f79 qdy w79 c79.ps c79.rs (T:=(List RAT)×(List NODE)×(List CELL)×Int×Bool×(List (Int×(Option ((Option (List (Int×RAT×CELL)))×Unit))×RAT×PART))) (fun y=>(y.1.1,y.2.1,y.2.2.1,y.2.2.2.1,y.2.2.2.2.1,y.2.2.2.2.2.1)) (b_0,b_1,b_2,b_3,b_4,b_5,())=qcD b_0 b_1 b_2 b_3 b_4 b_5:=by kernel_rfl
abbrev e50:List (Nat×Ctr):=[(78,c78),(79,c79)]
def qjJ:LH
 | 6=>some ⟨qeJ,qfF,lp qcq K0⟩
 | _=>none
theorem qr2 (g:qeJ.V->Option (OT qfF)) (v:qeJ.V):q10q tb (envL e50) 34 qjJ (q3q 3 (q4q Tryz.f50) .skip) qeJ qfF g v=qcq g v:=by kernel_rfl
theorem qr3 (m_0:qas) (row_1:List CELL) (fixed_2:Int) (on_3:Bool):fnF tb (envL e50) Tryz.f50 qjJ c50.ps c50.rs (T:=(List RAT)) (fun y=>(y.2.1)) (m_0,row_1,fixed_2,on_3,())=qgT m_0 row_1 fixed_2 on_3:=by kernel_rfl
abbrev e51:List (Nat×Ctr):=[(26,c26),(50,c50)]
def qkN:LH
 | _=>none
theorem qp3 (m_0:qas) (row_1:List CELL) (fixed_2:Int) (on_3:Bool):fnF tb (envL e51) Tryz.f51 qkN c51.ps c51.rs (T:=(List RAT)×Int) (fun y=>(y.2.1,y.2.2.1)) (m_0,row_1,fixed_2,on_3,())=qfl m_0 row_1 fixed_2 on_3:=by kernel_rfl
abbrev e24:List (Nat×Ctr):=[(11,c11),(20,c20),(35,c35),(51,c51)]
def qhk:LH
 | 10=>some ⟨qdd,qd9,lp qbj K0⟩
 | _=>none
theorem qpv (g:qdd.V->Option (OT qd9)) (v:qdd.V):q10q tb (envL e24) 48 qhk (q3q 5 (q4q Tryz.f24) .skip) qdd qd9 g v=qbj g v:=by kernel_rfl
theorem qpw (m_0:qas) (row_1:List CELL) (k_2:Int):fnF tb (envL e24) Tryz.f24 qhk c24.ps c24.rs (T:=(List RAT)) (fun y=>(y.2.1)) (m_0,row_1,k_2,())=qeP m_0 row_1 k_2:=by kernel_rfl
abbrev e18:List (Nat×Ctr):=[(24,c24),(26,c26)]
def qlW:LH
 | _=>none
theorem qq8 (m_0:qas) (row_1:List CELL) (i_2:Int) (k_3:Int):fnF tb (envL e18) Tryz.f18 qlW c18.ps c18.rs (T:=RAT×Int) (fun y=>(y.2.1,y.2.2.1)) (m_0,row_1,i_2,k_3,())=qlG m_0 row_1 i_2 k_3:=by kernel_rfl
abbrev e6:List (Nat×Ctr):=[(16,c16),(17,c17),(18,c18),(19,c19),(20,c20)]
def qfV:LH
 | _=>none
theorem qnn :fnF tb (envL e6) Tryz.f6 qfV c6.ps c6.rs (T:=Bool) (fun y=>(y.2.1)) ()=qa3 :=by kernel_rfl
abbrev e21:List (Nat×Ctr):=[(26,c26),(50,c50)]
def qj8:LH
 | _=>none
theorem qpg (m_0:qas) (row_1:List CELL):fnF tb (envL e21) Tryz.f21 qj8 c21.ps c21.rs (T:=(List RAT)×Int) (fun y=>(y.2.1,y.2.2.1)) (m_0,row_1,())=qdO m_0 row_1:=by kernel_rfl
abbrev e22:List (Nat×Ctr):=[(29,c29)]
def qf6:LH
 | 12=>some ⟨qdI,qeN,lp qbH K0⟩
 | 6=>some ⟨qdJ,qeO,lp qbI K0⟩
 | _=>none
theorem qqf (g:qdI.V->Option (OT qeN)) (v:qdI.V):q10q tbO (envL e22) 22 qf6 (q3q 6 (q4q Tryz.f22) .skip) qdI qeN g v=qbH g v:=by kernel_rfl
theorem qqg (g:qdJ.V->Option (OT qeO)) (v:qdJ.V):q10q tbO (envL e22) 22 qf6 (q3q 3 (q4q Tryz.f22) .skip) qdJ qeO g v=qbI g v:=by kernel_rfl
theorem qqh (n_0:Int):fnF tbO (envL e22) Tryz.f22 qf6 c22.ps c22.rs (T:=(List (Option (List RAT)))) (fun y=>(y.2.1)) (n_0,())=qgy n_0:=by kernel_rfl
abbrev qDl:List (Nat×Ctr):=[(29,c29),(34,c34)]
def qjF:LH
 | 6=>some ⟨qeH,qfD,lp qcm K0⟩
 | _=>none
theorem qrT (g:qeH.V->Option (OT qfD)) (v:qeH.V):q10q tb (envL qDl) 18 qjF (q3q 3 (q4q Tryz.f25) .skip) qeH qfD g v=qcm g v:=by kernel_rfl
theorem qrU (l_0:List RAT):fnF tb (envL qDl) Tryz.f25 qjF qBZ.ps qBZ.rs (T:=(List RAT)×RAT) (fun y=>(y.1.1,y.2.1)) (l_0,())=qip l_0:=by kernel_rfl
abbrev e7:List (Nat×Ctr):=[(11,c11),(21,c21),(22,c22),(23,c23),(24,c24),(25,qBZ)]
def qeb:LH
 | 22=>some ⟨qcR,qdQ,lp qa9 K0⟩
 | 14=>some ⟨qde,qea,lp qbk K0⟩
 | 36=>some ⟨qcQ,qdP,lp qa8 K0⟩
 | _=>none
theorem qoy (g:qcR.V->Option (OT qdQ)) (v:qcR.V):q10q tbO (envL e7) 91 qeb (q3q 11 (q4q Tryz.f7) .skip) qcR qdQ g v=qa9 g v:=by kernel_rfl
theorem qpy (g:qde.V->Option (OT qea)) (v:qde.V):q10q tbO (envL e7) 91 qeb (q3q 7 (q4q Tryz.f7) .skip) qde qea g v=qbk g v:=by kernel_rfl
theorem qox (g:qcQ.V->Option (OT qdP)) (v:qcQ.V):q10q tbO (envL e7) 91 qeb (q3q 18 (q4q Tryz.f7) .skip) qcQ qdP g v=qa8 g v:=by kernel_rfl
theorem qpz (a_0:qas) (a_1:List CELL):fnF tbO (envL e7) Tryz.f7 qeb c7.ps c7.rs (T:=(List (Option (List RAT)))×Int) (fun y=>(y.2.1,y.2.2.1)) (a_0,a_1,())=qc2 a_0 a_1:=by kernel_rfl
abbrev e80:List (Nat×Ctr):=[]
def qmO:LH
 | _=>none
theorem qsw (set_0:Int) (feature_1:Int):fnF tb (envL e80) Tryz.f80 qmO c80.ps c80.rs (T:=Bool) (fun y=>(y.2.1)) (set_0,feature_1,())=qiH set_0 feature_1:=by kernel_rfl
abbrev e105:List (Nat×Ctr):=[(128,c128)]
def qoh:LH
 | _=>none
theorem qs5 (a_0:RAT) (b_1:RAT):fnF tb (envL e105) Tryz.f105 qoh c105.ps c105.rs (T:=RAT) (fun y=>(y.2.1)) (a_0,b_1,())=qjZ a_0 b_1:=by kernel_rfl
abbrev e81:List (Nat×Ctr):=[(34,c34),(35,c35),(105,c105)]
def qoi:LH
 | _=>none
theorem qs6 (t_0:List NODE) (n_1:NODE) (a_2:RAT) (b_3:RAT):fnF tb (envL e81) Tryz.f81 qoi c81.ps c81.rs (T:=RAT) (fun y=>(y.2.1)) (t_0,n_1,a_2,b_3,())=qj0 t_0 n_1 a_2 b_3:=by kernel_rfl
abbrev e53 (n:Nat):List (Nat×Ctr):=[(49,c49),(53,(c53 n)),(80,c80),(81,c81),(82,c82)]
def qmN (n:Nat):LH
 | _=>none
theorem qsv (n:Nat) (t_0:List NODE) (at_1:Int) (row_2:List CELL) (set_3:Int):fnF tb (envL (e53 n)) Tryz.f53 (qmN n) (c53 n).ps (c53 n).rs (T:=RAT) (fun y=>(y.2.1)) (t_0,at_1,row_2,set_3,())=qec (n+1) t_0 at_1 row_2 set_3:=by kernel_rfl
abbrev e27:List (Nat×Ctr):=[(26,c26),(29,c29),(34,c34),(53,(c53 R0))]
def qj1:LH
 | 12=>some ⟨qeQ,qfO,lp qcw K0⟩
 | _=>none
theorem qsy (g:qeQ.V->Option (OT qfO)) (v:qeQ.V):q10q tb (envL e27) 35 qj1 (q3q 6 (q4q Tryz.f27) .skip) qeQ qfO g v=qcw g v:=by kernel_rfl
theorem qsA (m_0:qas) (row_1:List CELL) (set_2:Int):fnF tb (envL e27) Tryz.f27 qj1 c27.ps c27.rs (T:=RAT×Int) (fun y=>(y.2.1,y.2.2.1)) (m_0,row_1,set_2,())=qg6 m_0 row_1 set_2:=by kernel_rfl
abbrev e8:List (Nat×Ctr):=[(26,c26),(27,c27)]
def qj2:LH
 | 16=>some ⟨qeR,qfP,lp qcx K0⟩
 | _=>none
theorem qsC (g:qeR.V->Option (OT qfP)) (v:qeR.V):q10q tb (envL e8) 39 qj2 (q3q 8 (q4q Tryz.f8) .skip) qeR qfP g v=qcx g v:=by kernel_rfl
theorem qsD (m_0:qas) (row_1:List CELL):fnF tb (envL e8) Tryz.f8 qj2 c8.ps c8.rs (T:=(List RAT)×Int) (fun y=>(y.2.1,y.2.2.1)) (m_0,row_1,())=qfQ m_0 row_1:=by kernel_rfl
abbrev e28:List (Nat×Ctr):=[]
def qqA:LH
 | _=>none
theorem quT :fnFB tb (envL e28) Tryz.f28 qqA w28 c28.ps c28.rs (T:=Int×Int×Int×(List WH)) (fun y=>(y.2.1,y.2.2.1,y.2.2.2.1,y.2.2.2.2.1)) ()=qmb :=by kernel_rfl
abbrev e30:List (Nat×Ctr):=[]
def qgM:LH
 | 6=>some ⟨qcU,qdV,lp qbb K0⟩
 | _=>none
theorem qoJ (g:qcU.V->Option (OT qdV)) (v:qcU.V):q10q tb (envL e30) 13 qgM (q3q 3 (q4q Tryz.f30) .skip) qcU qdV g v=qbb g v:=by kernel_rfl
theorem qoK (n_0:Int):fnF tb (envL e30) Tryz.f30 qgM c30.ps c30.rs (T:=Int) (fun y=>(y.2.1)) (n_0,())=qbe n_0:=by kernel_rfl
abbrev e31:List (Nat×Ctr):=[]
def qhz:LH
 | 4=>some ⟨qdi,qep,lp qbm K0⟩
 | _=>none
theorem qpJ (g:qdi.V->Option (OT qep)) (v:qdi.V):q10q tb (envL e31) 16 qhz (q3q 2 (q4q Tryz.f31) .skip) qdi qep g v=qbm g v:=by kernel_rfl
theorem qpK (set_0:Int) (feature_1:Int):fnF tb (envL e31) Tryz.f31 qhz c31.ps c31.rs (T:=Bool) (fun y=>(y.2.1)) (set_0,feature_1,())=qdW set_0 feature_1:=by kernel_rfl
abbrev e32:List (Nat×Ctr):=[(31,c31)]
def qgi:LH
 | 6=>some ⟨qcL,qdv,lp qaZ K0⟩
 | _=>none
theorem qn4 (g:qcL.V->Option (OT qdv)) (v:qcL.V):q10q tb (envL e32) 18 qgi (q3q 3 (q4q Tryz.f32) .skip) qcL qdv g v=qaZ g v:=by kernel_rfl
theorem qn5 (set_0:Int) (n_1:Int):fnF tb (envL e32) Tryz.f32 qgi c32.ps c32.rs (T:=Int) (fun y=>(y.2.1)) (set_0,n_1,())=qdM set_0 n_1:=by kernel_rfl
abbrev e109:List (Nat×Ctr):=[(45,c45),(57,c57)]
def qhU:LH
 | 8=>some ⟨qdD,qeA,lp qez K0⟩
 | _=>none
theorem qpV (g:qdD.V->Option (OT qeA)) (v:qdD.V):q10q tb (envL e109) 21 qhU (q3q 4 (q4q Tryz.f109) .skip) qdD qeA g v=qez g v:=by kernel_rfl
theorem qpW :fnF tb (envL e109) Tryz.f109 qhU c109.ps c109.rs (T:=(List WH)) (fun y=>(y.2.1)) ()=qfe :=by kernel_rfl
abbrev e108:List (Nat×Ctr):=[(109,c109)]
def qiY:LH
 | _=>none
theorem qnE (b_0:Int) (b_1:Int) (b_2:Int) (b_3:List WH):fnFB tb (envL e108) Tryz.f108 qiY w108 c108.ps c108.rs (T:=Int×Int×Int×(List WH)) (fun y=>(y.2.1,y.2.2.1,y.2.2.2.1,y.2.2.2.2.1)) (b_0,b_1,b_2,b_3,())=qfW b_0 b_1 b_2 b_3:=by kernel_rfl
abbrev e54:List (Nat×Ctr):=[(48,c48),(57,c57),(83,c83)]
def qg7:LH
 | _=>none
theorem qla (a_0:Int) (b_1:Int) (c_2:Int) (b_3:Int) (b_4:Int) (b_5:Int) (b_6:List WH):fnFB tb (envL e54) Tryz.f54 qg7 w54 c54.ps c54.rs (T:=RAT×Int×Int×Int×(List WH)) (fun y=>(y.2.1,y.2.2.1,y.2.2.2.1,y.2.2.2.2.1,y.2.2.2.2.2.1)) (a_0,b_1,c_2,b_3,b_4,b_5,b_6,())=qcA a_0 b_1 c_2 b_3 b_4 b_5 b_6:=by kernel_rfl
abbrev e33:List (Nat×Ctr):=[(54,c54)]
def qik:LH
 | _=>none
theorem qma (s_0:Int) (n_1:Int) (b_2:Int) (b_3:Int) (b_4:Int) (b_5:List WH):fnFB tb (envL e33) Tryz.f33 qik w33 c33.ps c33.rs (T:=RAT×Int×Int×Int×Int×(List WH)) (fun y=>(y.2.1,y.2.2.1,y.2.2.2.1,y.2.2.2.2.1,y.2.2.2.2.2.1,y.2.2.2.2.2.2.1)) (s_0,n_1,b_2,b_3,b_4,b_5,())=qa2 s_0 n_1 b_2 b_3 b_4 b_5:=by kernel_rfl
abbrev e9:List (Nat×Ctr):=[(11,c11),(28,c28),(29,c29),(30,c30),(31,c31),(32,c32),(33,c33),(34,c34),(35,c35)]
def qdz:LH
 | 22=>some ⟨qbu,qch,lp qav K0⟩
 | 14=>some ⟨qbJ,qcz,lp qaA K0⟩
 | _=>none
theorem qk6 (g:qbu.V->Option (OT qch)) (v:qbu.V):q10q tb (envL e9) 93 qdz (q3q 11 (q4q Tryz.f9) .skip) qbu qch g v=qav g v:=by kernel_rfl
theorem qlK (g:qbJ.V->Option (OT qcz)) (v:qbJ.V):q10q tb (envL e9) 93 qdz (q3q 7 (q4q Tryz.f9) .skip) qbJ qcz g v=qaA g v:=by kernel_rfl
theorem qlL (a_0:List RAT) (a_1:Int) (a_2:Int) (a_3:Bool):fnF tb (envL e9) Tryz.f9 qdz c9.ps c9.rs (T:=(List RAT)) (fun y=>(y.2.1)) (a_0,a_1,a_2,a_3,())=qbM a_0 a_1 a_2 a_3:=by kernel_rfl
abbrev e36:List (Nat×Ctr):=[]
def qgL:LH
 | 6=>some ⟨qcT,qdT,lp qba K0⟩
 | _=>none
theorem qoG (g:qcT.V->Option (OT qdT)) (v:qcT.V):q10q tb (envL e36) 13 qgL (q3q 3 (q4q Tryz.f36) .skip) qcT qdT g v=qba g v:=by kernel_rfl
theorem qoH (n_0:Int):fnF tb (envL e36) Tryz.f36 qgL c36.ps c36.rs (T:=Int) (fun y=>(y.2.1)) (n_0,())=qbW n_0:=by kernel_rfl
abbrev e37:List (Nat×Ctr):=[]
def qhy:LH
 | 4=>some ⟨qdh,qek,lp qbl K0⟩
 | _=>none
theorem qpG (g:qdh.V->Option (OT qek)) (v:qdh.V):q10q tb (envL e37) 16 qhy (q3q 2 (q4q Tryz.f37) .skip) qdh qek g v=qbl g v:=by kernel_rfl
theorem qpH (set_0:Int) (feature_1:Int):fnF tb (envL e37) Tryz.f37 qhy c37.ps c37.rs (T:=Bool) (fun y=>(y.2.1)) (set_0,feature_1,())=qdU set_0 feature_1:=by kernel_rfl
abbrev e38:List (Nat×Ctr):=[(20,c20),(35,c35),(54,c54)]
def qjA:LH
 | _=>none
theorem qok (s_0:Int) (n_1:Int) (b_2:Int) (b_3:Int) (b_4:Int) (b_5:List WH):fnFB tb (envL e38) Tryz.f38 qjA w38 c38.ps c38.rs (T:=RAT×Int×Int×Int×Int×(List WH)) (fun y=>(y.2.1,y.2.2.1,y.2.2.2.1,y.2.2.2.2.1,y.2.2.2.2.2.1,y.2.2.2.2.2.2.1)) (s_0,n_1,b_2,b_3,b_4,b_5,())=qfa s_0 n_1 b_2 b_3 b_4 b_5:=by kernel_rfl
abbrev e10:List (Nat×Ctr):=[(11,c11),(28,c28),(29,c29),(34,c34),(35,c35),(36,c36),(37,c37),(38,c38)]
def qew:LH
 | 18=>some ⟨qcJ,qdt,lp qaY K0⟩
 | 8=>some ⟨qcK,qdu,lp qaL K0⟩
 | _=>none
theorem qn0 (g:qcJ.V->Option (OT qdt)) (v:qcJ.V):q10q tb (envL e10) 89 qew (q3q 9 (q4q Tryz.f10) .skip) qcJ qdt g v=qaY g v:=by kernel_rfl
theorem qn1 (g:qcK.V->Option (OT qdu)) (v:qcK.V):q10q tb (envL e10) 89 qew (q3q 4 (q4q Tryz.f10) .skip) qcK qdu g v=qaL g v:=by kernel_rfl
theorem qn2 (a_0:List RAT) (a_1:Int) (a_2:Int) (a_3:Int):fnF tb (envL e10) Tryz.f10 qew c10.ps c10.rs (T:=RAT) (fun y=>(y.2.1)) (a_0,a_1,a_2,a_3,())=qdL a_0 a_1 a_2 a_3:=by kernel_rfl
abbrev e92:List (Nat×Ctr):=[]
def qfR:LH
 | 4=>some ⟨qcc,qc6,lp qa6 K0⟩
 | _=>none
theorem qm9 (g:qcc.V->Option (OT qc6)) (v:qcc.V):q10q tb (envL e92) 14 qfR (q3q 2 (q4q Tryz.f92) .skip) qcc qc6 g v=qa6 g v:=by kernel_rfl
theorem qna (n_0:Int):fnF tb (envL e92) Tryz.f92 qfR c92.ps c92.rs (T:=(List Int)) (fun y=>(y.2.1)) (n_0,())=qao n_0:=by kernel_rfl
abbrev e121:List (Nat×Ctr):=[]
def qiO:LH
 | _=>none
theorem qm2 (a_0:List Int) (i_1:Int):fnF tb (envL e121) Tryz.f121 qiO c121.ps c121.rs (T:=Int) (fun y=>(y.2.1)) (a_0,i_1,())=qaN a_0 i_1:=by kernel_rfl
abbrev e96:List (Nat×Ctr):=[(121,c121)]
def qgg:LH
 | 8=>some ⟨qcG,qdq,lp qaK K0⟩
 | _=>none
theorem qnQ (g:qcG.V->Option (OT qdq)) (v:qcG.V):q10q tb (envL e96) 41 qgg (q3q 4 (q4q Tryz.f96) .skip) qcG qdq g v=qaK g v:=by kernel_rfl
theorem qnR (a_0:List Int) (b_1:List Int):fnF tb (envL e96) Tryz.f96 qgg c96.ps c96.rs (T:=(List Int)) (fun y=>(y.2.1)) (a_0,b_1,())=qdK a_0 b_1:=by kernel_rfl
abbrev e122:List (Nat×Ctr):=[]
def qgf:LH
 | 4=>some ⟨qcF,qdp,lp qaX K0⟩
 | _=>none
theorem qnN (g:qcF.V->Option (OT qdp)) (v:qcF.V):q10q tb (envL e122) 21 qgf (q3q 2 (q4q Tryz.f122) .skip) qcF qdp g v=qaX g v:=by kernel_rfl
theorem qnO (a_0:List Int):fnF tb (envL e122) Tryz.f122 qgf c122.ps c122.rs (T:=(List Int)) (fun y=>(y.2.1)) (a_0,())=qb9 a_0:=by kernel_rfl
abbrev e97:List (Nat×Ctr):=[(122,c122)]
def qei:LH
 | 14=>some ⟨qca,qc4,lp qaO K0⟩
 | 6=>some ⟨qcb,qc5,lp qa5 K0⟩
 | _=>none
theorem qm5 (g:qca.V->Option (OT qc4)) (v:qca.V):q10q tb (envL e97) 63 qei (q3q 7 (q4q Tryz.f97) .skip) qca qc4 g v=qaO g v:=by kernel_rfl
theorem qm6 (g:qcb.V->Option (OT qc5)) (v:qcb.V):q10q tb (envL e97) 63 qei (q3q 3 (q4q Tryz.f97) .skip) qcb qc5 g v=qa5 g v:=by kernel_rfl
theorem qm7 (a_0:List Int) (b_1:List Int):fnF tb (envL e97) Tryz.f97 qei c97.ps c97.rs (T:=(List Int)) (fun y=>(y.2.1)) (a_0,b_1,())=qbP a_0 b_1:=by kernel_rfl
abbrev e63:List (Nat×Ctr):=[(92,c92),(96,c96),(97,c97)]
def qgh:LH
 | 8=>some ⟨qcI,qds,lp qbh K0⟩
 | _=>none
theorem qnW (g:qcI.V->Option (OT qds)) (v:qcI.V):q10q tb (envL e63) 26 qgh (q3q 4 (q4q Tryz.f63) .skip) qcI qds g v=qbh g v:=by kernel_rfl
theorem qnX (a_0:List Int):fnF tb (envL e63) Tryz.f63 qgh c63.ps c63.rs (T:=(List Int)) (fun y=>(y.2.1)) (a_0,())=qaM a_0:=by kernel_rfl
abbrev e99:List (Nat×Ctr):=[]
def qi5:LH
 | _=>none
theorem qnK (neg_0:Bool) (n_1:List Int):fnF tb (envL e99) Tryz.f99 qi5 c99.ps c99.rs (T:=(Bool×List Int)) (fun y=>(y.2.1)) (neg_0,n_1,())=qb8 neg_0 n_1:=by kernel_rfl
abbrev e98:List (Nat×Ctr):=[(92,c92),(96,c96),(99,c99)]
def qiM:LH
 | _=>none
theorem qm0 (n_0:Int):fnF tb (envL e98) Tryz.f98 qiM c98.ps c98.rs (T:=(Bool×List Int)) (fun y=>(y.2.1)) (n_0,())=qfs n_0:=by kernel_rfl
abbrev e64:List (Nat×Ctr):=[(92,c92),(98,c98)]
def qiI:LH
 | _=>none
theorem qmW (n_0:Int) (d_1:Int):fnF tb (envL e64) Tryz.f64 qiI c64.ps c64.rs (T:=((Bool×List Int)×List Int)) (fun y=>(y.2.1)) (n_0,d_1,())=qfr n_0 d_1:=by kernel_rfl
abbrev e65:List (Nat×Ctr):=[(63,c63),(99,c99)]
def qi6:LH
 | _=>none
theorem qnL (a_0:WH):fnF tb (envL e65) Tryz.f65 qi6 c65.ps c65.rs (T:=(Bool×List Int)) (fun y=>(y.2.1)) (a_0,())=qeS a_0:=by kernel_rfl
abbrev e41:List (Nat×Ctr):=[(63,c63),(64,c64),(65,c65)]
def qi4:LH
 | _=>none
theorem qnJ (a_0:RAT):fnF tb (envL e41) Tryz.f41 qi4 c41.ps c41.rs (T:=((Bool×List Int)×List Int)) (fun y=>(y.2.1)) (a_0,())=qb7 a_0:=by kernel_rfl
abbrev e89:List (Nat×Ctr):=[]
def qfS:LH
 | 4=>some ⟨qcd,qc7,lp qaP K0⟩
 | _=>none
theorem qnc (g:qcd.V->Option (OT qc7)) (v:qcd.V):q10q tb (envL e89) 27 qfS (q3q 2 (q4q Tryz.f89) .skip) qcd qc7 g v=qaP g v:=by kernel_rfl
theorem qnd (a_0:List Int):fnF tb (envL e89) Tryz.f89 qfS c89.ps c89.rs (T:=Bool) (fun y=>(y.2.1)) (a_0,())=qdg a_0:=by kernel_rfl
abbrev e91:List (Nat×Ctr):=[]
def qfT:LH
 | 12=>some ⟨qcf,qc9,lp qaD K0⟩
 | _=>none
theorem qnh (g:qcf.V->Option (OT qc9)) (v:qcf.V):q10q tb (envL e91) 41 qfT (q3q 6 (q4q Tryz.f91) .skip) qcf qc9 g v=qaD g v:=by kernel_rfl
theorem qni (a_0:List Int) (b_1:List Int):fnF tb (envL e91) Tryz.f91 qfT c91.ps c91.rs (T:=Int) (fun y=>(y.2.1)) (a_0,b_1,())=qal a_0 b_1:=by kernel_rfl
abbrev e136:List (Nat×Ctr):=[(121,c121),(122,c122)]
def qfU:LH
 | 8=>some ⟨qcg,qda,lp qaQ K0⟩
 | _=>none
theorem qnk (g:qcg.V->Option (OT qda)) (v:qcg.V):q10q tb (envL e136) 35 qfU (q3q 4 (q4q Tryz.f136) .skip) qcg qda g v=qaQ g v:=by kernel_rfl
theorem qnl (a_0:List Int) (b_1:List Int):fnF tb (envL e136) Tryz.f136 qfU c136.ps c136.rs (T:=(List Int)) (fun y=>(y.2.1)) (a_0,b_1,())=qej a_0 b_1:=by kernel_rfl
abbrev e120:List (Nat×Ctr):=[(91,c91),(92,c92),(97,c97),(122,c122),(136,c136)]
def qev:LH
 | 24=>some ⟨qce,qc8,lp qaC K0⟩
 | 8=>some ⟨qcH,qdr,lp qbg K0⟩
 | _=>none
theorem qnf (g:qce.V->Option (OT qc8)) (v:qce.V):q10q tb (envL e120) 65 qev (q3q 12 (q4q Tryz.f120) .skip) qce qc8 g v=qaC g v:=by kernel_rfl
theorem qnT (g:qcH.V->Option (OT qdr)) (v:qcH.V):q10q tb (envL e120) 65 qev (q3q 4 (q4q Tryz.f120) .skip) qcH qdr g v=qbg g v:=by kernel_rfl
theorem qnU (a_0:List Int) (a_1:List Int):fnF tb (envL e120) Tryz.f120 qev c120.ps c120.rs (T:=(List Int)×(List Int)) (fun y=>(y.2.1,y.2.2.1)) (a_0,a_1,())=qeT a_0 a_1:=by kernel_rfl
abbrev e90:List (Nat×Ctr):=[(120,c120)]
def qgK:LH
 | 2=>some ⟨qcS,qdS,lp qbz K0⟩
 | _=>none
theorem qoD (g:qcS.V->Option (OT qdS)) (v:qcS.V):q10q tb (envL e90) 19 qgK (q3q 1 (q4q Tryz.f90) .skip) qcS qdS g v=qbz g v:=by kernel_rfl
theorem qoE (a_0:List Int) (b_1:List Int):fnF tb (envL e90) Tryz.f90 qgK c90.ps c90.rs (T:=(List Int)) (fun y=>(y.2.1)) (a_0,b_1,())=qdl a_0 b_1:=by kernel_rfl
abbrev e61:List (Nat×Ctr):=[(63,c63),(89,c89),(90,c90),(91,c91),(92,c92)]
def qiJ:LH
 | _=>none
theorem qmX (a_0:RAT):fnF tb (envL e61) Tryz.f61 qiJ c61.ps c61.rs (T:=Bool) (fun y=>(y.2.1)) (a_0,())=qef a_0:=by kernel_rfl
abbrev e93:List (Nat×Ctr):=[(91,c91)]
def qiN:LH
 | _=>none
theorem qm1 (a_0:Bool×List Int) (b_1:Bool×List Int):fnF tb (envL e93) Tryz.f93 qiN c93.ps c93.rs (T:=Int) (fun y=>(y.2.1)) (a_0,b_1,())=qeh a_0 b_1:=by kernel_rfl
abbrev e94:List (Nat×Ctr):=[(97,c97),(99,c99)]
def qiL:LH
 | _=>none
theorem qmZ (a_0:Bool×List Int) (b_1:Bool×List Int):fnF tb (envL e94) Tryz.f94 qiL c94.ps c94.rs (T:=(Bool×List Int)) (fun y=>(y.2.1)) (a_0,b_1,())=qdf a_0 b_1:=by kernel_rfl
abbrev e95:List (Nat×Ctr):=[(99,c99)]
def qj3:LH
 | _=>none
theorem qoB (a_0:(Bool×List Int)×List Int):fnF tb (envL e95) Tryz.f95 qj3 c95.ps c95.rs (T:=(Bool×List Int)) (fun y=>(y.2.1)) (a_0,())=qfb a_0:=by kernel_rfl
abbrev e62:List (Nat×Ctr):=[(93,c93),(94,c94),(95,c95)]
def qiK:LH
 | _=>none
theorem qmY (a_0:(Bool×List Int)×List Int) (b_1:(Bool×List Int)×List Int):fnF tb (envL e62) Tryz.f62 qiK c62.ps c62.rs (T:=Int) (fun y=>(y.2.1)) (a_0,b_1,())=qeg a_0 b_1:=by kernel_rfl
abbrev e40:List (Nat×Ctr):=[(41,c41),(61,c61),(62,c62)]
def qkc:LH
 | _=>none
theorem qpE (a_0:RAT) (x_1:(Bool×List Int)×List Int):fnF tb (envL e40) Tryz.f40 qkc c40.ps c40.rs (T:=Bool) (fun y=>(y.2.1)) (a_0,x_1,())=qhp a_0 x_1:=by kernel_rfl
abbrev e12:List (Nat×Ctr):=[(40,c40),(41,c41)]
def qkb:LH
 | _=>none
theorem qpD (a_0:RAT) (b_1:RAT):fnF tb (envL e12) Tryz.f12 qkb c12.ps c12.rs (T:=Bool) (fun y=>(y.2.1)) (a_0,b_1,())=qc3 a_0 b_1:=by kernel_rfl
abbrev e3:List (Nat×Ctr):=[(4,c4),(5,c5),(6,c6),(7,c7),(8,c8),(9,c9),(10,c10),(11,c11),(12,c12)]
def qbQ:LH
 | 40=>some ⟨qaE,qa0,lp qag K0⟩
 | 28=>some ⟨qaF,qa1,lp qah K0⟩
 | _=>none
theorem qic (g:qaE.V->Option (OT qa0)) (v:qaE.V):q10q tb (envL e3) 128 qbQ (q3q 20 (q4q Tryz.f3) .skip) qaE qa0 g v=qag g v:=by kernel_rfl
theorem qid (g:qaF.V->Option (OT qa1)) (v:qaF.V):q10q tb (envL e3) 128 qbQ (q3q 14 (q4q Tryz.f3) .skip) qaF qa1 g v=qah g v:=by kernel_rfl
theorem qiP (a_0:qas) (a_1:List CELL):fnF tb (envL e3) Tryz.f3 qbQ c3.ps c3.rs (T:=Bool) (fun y=>(y.2.1)) (a_0,a_1,())=qcy a_0 a_1:=by kernel_rfl
end Go.Proofs.YtiefddjokkihdaaGreatDoor.X
