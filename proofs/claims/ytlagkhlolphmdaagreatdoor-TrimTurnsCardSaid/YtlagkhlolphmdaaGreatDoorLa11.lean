/- Own work: part of the proof; the first line of each part says what it tells. -/
import Derived.Test.YtlagkhlolphmdaaGreatDoorLa7


namespace Go.Proofs.YtlagkhlolphmdaaGreatDoor.X
open Go
set_option linter.unusedVariables false
set_option linter.unusedSimpArgs false
set_option maxRecDepth 100000
abbrev e28:List (Nat×Ctr):=[]
def qfO:LH
 | _=>none
theorem qjd (a_0:RAT):fnF tb (envL e28) Tryz.f28 qfO c28.ps c28.rs (T:=RAT) (fun y=>(y.2.1)) (a_0,())=qbC a_0:=by kernel_rfl
abbrev e13:List (Nat×Ctr):=[(28,c28)]
def qdx:LH
 | 14=>some ⟨qch,qcM,lp qaK K0⟩
 | 6=>some ⟨qci,qcN,lp qaL K0⟩
 | _=>none
theorem qk9 (g:qch.V->Option (OT qcM)) (v:qch.V):q10q tb (envL e13) 67 qdx (q3q 7 (q4q Tryz.f13) .skip) qch qcM g v=qaK g v:=by kernel_rfl
theorem qla (g:qci.V->Option (OT qcN)) (v:qci.V):q10q tb (envL e13) 67 qdx (q3q 3 (q4q Tryz.f13) .skip) qci qcN g v=qaL g v:=by kernel_rfl
theorem qlb (a_0:qak):fnF tb (envL e13) Tryz.f13 qdx c13.ps c13.rs (T:=qak) (fun y=>(y.2.1)) (a_0,())=qdC a_0:=by kernel_rfl
abbrev e29:List (Nat×Ctr):=[]
def qfN:LH
 | _=>none
theorem qjc (a_0:RAT):fnF tb (envL e29) Tryz.f29 qfN c29.ps c29.rs (T:=RAT) (fun y=>(y.2.1)) (a_0,())=qcK a_0:=by kernel_rfl
abbrev e14:List (Nat×Ctr):=[(29,c29)]
def qe0:LH
 | 6=>some ⟨qcg,qcL,lp qaV K0⟩
 | _=>none
theorem qk5 (g:qcg.V->Option (OT qcL)) (v:qcg.V):q10q tb (envL e14) 32 qe0 (q3q 3 (q4q Tryz.f14) .skip) qcg qcL g v=qaV g v:=by kernel_rfl
theorem qk6 (l_0:List CELL) (n_1:Int):fnF tb (envL e14) Tryz.f14 qe0 c14.ps c14.rs (T:=(List CELL)) (fun y=>(y.2.1)) (l_0,n_1,())=qcv l_0 n_1:=by kernel_rfl
abbrev e4:List (Nat×Ctr):=[(13,c13),(14,c14)]
def qgo:LH
 | _=>none
theorem qj8 (m_0:qak) (row_1:List CELL):fnF tb (envL e4) Tryz.f4 qgo c4.ps c4.rs (T:=qak×(List CELL)) (fun y=>(y.2.1,y.2.2.1)) (m_0,row_1,())=qb1 m_0 row_1:=by kernel_rfl
abbrev e54:List (Nat×Ctr):=[]
def qkU:LH
 | 4=>some ⟨qfX,qg6,lp qdt K0⟩
 | _=>none
theorem qsP (g:qfX.V->Option (OT qg6)) (v:qfX.V):q10q tb (envL e54) 23 qkU (q3q 2 (q4q Tryz.f54) .skip) qfX qg6 g v=qdt g v:=by kernel_rfl
theorem qsQ (a_0:List Int):fnF tb (envL e54) Tryz.f54 qkU c54.ps c54.rs (T:=(List Int)) (fun y=>(y.2.1)) (a_0,())=qdP a_0:=by kernel_rfl
abbrev e31:List (Nat×Ctr):=[(54,c54)]
def qrE:LH
 | _=>none
theorem qwu (n_0:Int):fnF tb (envL e31) Tryz.f31 qrE c31.ps c31.rs (T:=(List Int)) (fun y=>(y.2.1)) (n_0,())=qjJ n_0:=by kernel_rfl
abbrev e25:List (Nat×Ctr):=[(31,c31)]
def qlr:LH
 | _=>none
theorem qpV :fnF tb (envL e25) Tryz.f25 qlr c25.ps c25.rs (T:=RAT) (fun y=>(y.2.1)) ()=qei :=by kernel_rfl
abbrev e61:List (Nat×Ctr):=[(54,c54)]
def qjL:LH
 | 6=>some ⟨qfi,qgn,lp qcW K0⟩
 | _=>none
theorem qrG (g:qfi.V->Option (OT qgn)) (v:qfi.V):q10q tb (envL e61) 24 qjL (q3q 3 (q4q Tryz.f61) .skip) qfi qgn g v=qcW g v:=by kernel_rfl
theorem qrH (a_0:List Int):fnF tb (envL e61) Tryz.f61 qjL c61.ps c61.rs (T:=(List Int)) (fun y=>(y.2.1)) (a_0,())=qbY a_0:=by kernel_rfl
abbrev e79:List (Nat×Ctr):=[]
def qjF:LH
 | 12=>some ⟨qfe,qgj,lp qcD K0⟩
 | _=>none
theorem qrv (g:qfe.V->Option (OT qgj)) (v:qfe.V):q10q tb (envL e79) 45 qjF (q3q 6 (q4q Tryz.f79) .skip) qfe qgj g v=qcD g v:=by kernel_rfl
theorem qrw (a_0:List Int) (b_1:List Int):fnF tb (envL e79) Tryz.f79 qjF c79.ps c79.rs (T:=Int) (fun y=>(y.2.1)) (a_0,b_1,())=qgk a_0 b_1:=by kernel_rfl
abbrev e95:List (Nat×Ctr):=[(61,c61)]
def qrD:LH
 | _=>none
theorem qwt (a_0:List Int):fnF tb (envL e95) Tryz.f95 qrD c95.ps c95.rs (T:=Int×Bool) (fun y=>(y.2.1,y.2.2.1)) (a_0,())=qpb a_0:=by kernel_rfl
abbrev e80:List (Nat×Ctr):=[(31,c31),(95,c95)]
def qiG:LH
 | 6=>some ⟨qel,qfy,lp qcV K0⟩
 | _=>none
theorem qp6 (g:qel.V->Option (OT qfy)) (v:qel.V):q10q tb (envL e80) 27 qiG (q3q 3 (q4q Tryz.f80) .skip) qel qfy g v=qcV g v:=by kernel_rfl
theorem qp7 (a_0:List Int) (b_1:List Int):fnF tb (envL e80) Tryz.f80 qiG c80.ps c80.rs (T:=(List Int)) (fun y=>(y.2.1)) (a_0,b_1,())=qh8 a_0 b_1:=by kernel_rfl
abbrev e81:List (Nat×Ctr):=[(96,c96)]
def qjC:LH
 | 6=>some ⟨qfc,qgh,lp qdn K0⟩
 | _=>none
theorem qrp (g:qfc.V->Option (OT qgh)) (v:qfc.V):q10q tb (envL e81) 24 qjC (q3q 3 (q4q Tryz.f81) .skip) qfc qgh g v=qdn g v:=by kernel_rfl
theorem qrq (a_0:List Int):fnF tb (envL e81) Tryz.f81 qjC c81.ps c81.rs (T:=Int) (fun y=>(y.2.1)) (a_0,())=qca a_0:=by kernel_rfl
abbrev e88:List (Nat×Ctr):=[]
def qn5:LH
 | _=>none
theorem qsY (a_0:List Int) (i_1:Int):fnF tb (envL e88) Tryz.f88 qn5 c88.ps c88.rs (T:=Int) (fun y=>(y.2.1)) (a_0,i_1,())=qf8 a_0 i_1:=by kernel_rfl
abbrev e82:List (Nat×Ctr):=[(54,c54),(88,c88)]
def ql9:LH
 | 12=>some ⟨qgQ,qh6,lp qej K0⟩
 | _=>none
theorem quR (g:qgQ.V->Option (OT qh6)) (v:qgQ.V):q10q tb (envL e82) 50 ql9 (q3q 6 (q4q Tryz.f82) .skip) qgQ qh6 g v=qej g v:=by kernel_rfl
theorem quS (a_0:List Int) (n_1:Int):fnF tb (envL e82) Tryz.f82 ql9 c82.ps c82.rs (T:=(List Int)) (fun y=>(y.2.1)) (a_0,n_1,())=qdu a_0 n_1:=by kernel_rfl
abbrev e83:List (Nat×Ctr):=[(54,c54)]
def qma:LH
 | 8=>some ⟨qgR,qh7,lp qek K0⟩
 | _=>none
theorem quU (g:qgR.V->Option (OT qh7)) (v:qgR.V):q10q tb (envL e83) 51 qma (q3q 4 (q4q Tryz.f83) .skip) qgR qh7 g v=qek g v:=by kernel_rfl
theorem quV (a_0:List Int) (n_1:Int):fnF tb (envL e83) Tryz.f83 qma c83.ps c83.rs (T:=(List Int)) (fun y=>(y.2.1)) (a_0,n_1,())=qg8 a_0 n_1:=by kernel_rfl
abbrev e86:List (Nat×Ctr):=[(54,c54)]
def qjD:LH
 | 8=>some ⟨qfd,qgi,lp qdo K0⟩
 | _=>none
theorem qrs (g:qfd.V->Option (OT qgi)) (v:qfd.V):q10q tb (envL e86) 38 qjD (q3q 4 (q4q Tryz.f86) .skip) qfd qgi g v=qdo g v:=by kernel_rfl
theorem qrt (a_0:List Int) (d_1:Int):fnF tb (envL e86) Tryz.f86 qjD c86.ps c86.rs (T:=(List Int)×Int) (fun y=>(y.2.1,y.2.2.1)) (a_0,d_1,())=qjE a_0 d_1:=by kernel_rfl
abbrev e97:List (Nat×Ctr):=[(101,c101)]
def qfP:LH
 | _=>none
theorem qje (x_0:Int):fnF tb (envL e97) Tryz.f97 qfP c97.ps c97.rs (T:=Int) (fun y=>(y.2.1)) (x_0,())=qcO x_0:=by kernel_rfl
abbrev e102:List (Nat×Ctr):=[(88,c88)]
def qkV:LH
 | 6=>some ⟨qfY,qg7,lp qeb K0⟩
 | _=>none
theorem qsS (g:qfY.V->Option (OT qg7)) (v:qfY.V):q10q tb (envL e102) 46 qkV (q3q 3 (q4q Tryz.f102) .skip) qfY qg7 g v=qeb g v:=by kernel_rfl
theorem qsT (u_0:List Int) (v_1:List Int) (times_2:Int):fnF tb (envL e102) Tryz.f102 qkV c102.ps c102.rs (T:=(List Int)×Bool) (fun y=>(y.1.1,y.2.1)) (u_0,v_1,times_2,())=qlD u_0 v_1 times_2:=by kernel_rfl
abbrev e103:List (Nat×Ctr):=[(88,c88)]
def qkX:LH
 | 4=>some ⟨qf0,qha,lp qec K0⟩
 | _=>none
theorem qs0 (g:qf0.V->Option (OT qha)) (v:qf0.V):q10q tb (envL e103) 29 qkX (q3q 2 (q4q Tryz.f103) .skip) qf0 qha g v=qec g v:=by kernel_rfl
theorem qs1 (u_0:List Int) (v_1:List Int):fnF tb (envL e103) Tryz.f103 qkX c103.ps c103.rs (T:=(List Int)) (fun y=>(y.1.1)) (u_0,v_1,())=qlH u_0 v_1:=by kernel_rfl
abbrev e98:List (Nat×Ctr):=[(102,c102),(103,c103)]
def qjH:LH
 | 8=>some ⟨qfg,qgm,lp qbJ K0⟩
 | _=>none
theorem qrB (g:qfg.V->Option (OT qgm)) (v:qfg.V):q10q tb (envL e98) 77 qjH (q3q 4 (q4q Tryz.f98) .skip) qfg qgm g v=qbJ g v:=by kernel_rfl
theorem qrC (a_0:List Int) (a_1:List Int):fnF tb (envL e98) Tryz.f98 qjH c98.ps c98.rs (T:=(List Int)×Int) (fun y=>(y.1.1,y.2.1)) (a_0,a_1,())=qh9 a_0 a_1:=by kernel_rfl
abbrev e87:List (Nat×Ctr):=[(54,c54),(82,c82),(83,c83),(97,c97),(98,c98)]
def qkW:LH
 | 14=>some ⟨qfZ,qg9,lp qdv K0⟩
 | _=>none
theorem qsW (g:qfZ.V->Option (OT qg9)) (v:qfZ.V):q10q tb (envL e87) 64 qkW (q3q 7 (q4q Tryz.f87) .skip) qfZ qg9 g v=qdv g v:=by kernel_rfl
theorem qsX (a_0:List Int) (b_1:List Int):fnF tb (envL e87) Tryz.f87 qkW c87.ps c87.rs (T:=(List Int)×(List Int)) (fun y=>(y.2.1,y.2.2.1)) (a_0,b_1,())=qlG a_0 b_1:=by kernel_rfl
abbrev e65:List (Nat×Ctr):=[(31,c31),(61,c61),(79,c79),(86,c86),(87,c87)]
def qlI:LH
 | _=>none
theorem qp8 (a_0:List Int) (b_1:List Int):fnF tb (envL e65) Tryz.f65 qlI c65.ps c65.rs (T:=(List Int)×(List Int)×Int) (fun y=>(y.2.1,y.2.2.1,y.2.2.2.1)) (a_0,b_1,())=qen a_0 b_1:=by kernel_rfl
abbrev e84:List (Nat×Ctr):=[(65,c65)]
def qn4:LH
 | _=>none
theorem qsU (a_0:List Int) (b_1:List Int):fnF tb (envL e84) Tryz.f84 qn4 c84.ps c84.rs (T:=(List Int)×(List Int)) (fun y=>(y.2.1,y.2.2.1)) (a_0,b_1,())=qhq a_0 b_1:=by kernel_rfl
abbrev e85:List (Nat×Ctr):=[(54,c54),(88,c88)]
def qjG:LH
 | 8=>some ⟨qff,qgl,lp qdp K0⟩
 | _=>none
theorem qry (g:qff.V->Option (OT qgl)) (v:qff.V):q10q tb (envL e85) 39 qjG (q3q 4 (q4q Tryz.f85) .skip) qff qgl g v=qdp g v:=by kernel_rfl
theorem qrz (a_0:List Int) (b_1:List Int):fnF tb (envL e85) Tryz.f85 qjG c85.ps c85.rs (T:=(List Int)) (fun y=>(y.2.1)) (a_0,b_1,())=qfx a_0 b_1:=by kernel_rfl
abbrev e64:List (Nat×Ctr):=[(61,c61),(79,c79),(80,c80),(81,c81),(82,c82),(83,c83),(84,c84),(85,c85)]
def qmb:LH
 | 20=>some ⟨qf1,qhb,lp qbX K0⟩
 | _=>none
theorem qs3 (g:qf1.V->Option (OT qhb)) (v:qf1.V):q10q tb (envL e64) 86 qmb (q3q 10 (q4q Tryz.f64) .skip) qf1 qhb g v=qbX g v:=by kernel_rfl
theorem qu2 (a_0:List Int) (a_1:List Int):fnF tb (envL e64) Tryz.f64 qmb c64.ps c64.rs (T:=(List Int)) (fun y=>(y.2.1)) (a_0,a_1,())=qn6 a_0 a_1:=by kernel_rfl
abbrev e50:List (Nat×Ctr):=[(31,c31),(64,c64),(65,c65)]
def qlq:LH
 | _=>none
theorem qpU (num_0:WH) (den_1:List Int):fnF tb (envL e50) Tryz.f50 qlq c50.ps c50.rs (T:=RAT) (fun y=>(y.2.1)) (num_0,den_1,())=qdJ num_0 den_1:=by kernel_rfl
abbrev e53:List (Nat×Ctr):=[]
def qle:LH
 | _=>none
theorem qpx (neg_0:Bool) (abs_1:List Int):fnF tb (envL e53) Tryz.f53 qle c53.ps c53.rs (T:=WH) (fun y=>(y.2.1)) (neg_0,abs_1,())=qc4 neg_0 abs_1:=by kernel_rfl
abbrev e62:List (Nat×Ctr):=[(53,c53),(61,c61)]
def qkv:LH
 | _=>none
theorem qox (a_0:WH):fnF tb (envL e62) Tryz.f62 qkv c62.ps c62.rs (T:=WH) (fun y=>(y.2.1)) (a_0,())=qbA a_0:=by kernel_rfl
abbrev e45:List (Nat×Ctr):=[(25,c25),(50,c50),(61,c61),(62,c62)]
def qkE:LH
 | _=>none
theorem qoK (a_0:RAT):fnF tb (envL e45) Tryz.f45 qkE c45.ps c45.rs (T:=RAT) (fun y=>(y.2.1)) (a_0,())=qa2 a_0:=by kernel_rfl
abbrev e63:List (Nat×Ctr):=[(61,c61),(79,c79)]
def qpd:LH
 | _=>none
theorem qu3 (a_0:List Int) (b_1:List Int):fnF tb (envL e63) Tryz.f63 qpd c63.ps c63.rs (T:=Int) (fun y=>(y.2.1)) (a_0,b_1,())=qgu a_0 b_1:=by kernel_rfl
abbrev e46:List (Nat×Ctr):=[(62,c62),(63,c63)]
def qmx:LH
 | _=>none
theorem qqE (a_0:WH) (b_1:WH):fnF tb (envL e46) Tryz.f46 qmx c46.ps c46.rs (T:=Int) (fun y=>(y.2.1)) (a_0,b_1,())=qjg a_0 b_1:=by kernel_rfl
abbrev e52:List (Nat×Ctr):=[(54,c54),(61,c61)]
def qkh:LH
 | 16=>some ⟨qgS,qia,lp qem K0⟩
 | 8=>some ⟨qgT,qib,lp qfh K0⟩
 | _=>none
theorem quZ (g:qgS.V->Option (OT qia)) (v:qgS.V):q10q tb (envL e52) 67 qkh (q3q 8 (q4q Tryz.f52) .skip) qgS qia g v=qem g v:=by kernel_rfl
theorem qu0 (g:qgT.V->Option (OT qib)) (v:qgT.V):q10q tb (envL e52) 67 qkh (q3q 4 (q4q Tryz.f52) .skip) qgT qib g v=qfh g v:=by kernel_rfl
theorem qu1 (a_0:List Int) (a_1:List Int):fnF tb (envL e52) Tryz.f52 qkh c52.ps c52.rs (T:=(List Int)) (fun y=>(y.2.1)) (a_0,a_1,())=qjK a_0 a_1:=by kernel_rfl
abbrev e47:List (Nat×Ctr):=[(52,c52),(53,c53),(62,c62)]
def qmw:LH
 | _=>none
theorem qqD (a_0:WH) (b_1:WH):fnF tb (envL e47) Tryz.f47 qmw c47.ps c47.rs (T:=WH) (fun y=>(y.2.1)) (a_0,b_1,())=qey a_0 b_1:=by kernel_rfl
abbrev e48:List (Nat×Ctr):=[]
def qmD:LH
 | _=>none
theorem qq1 (a_0:RAT):fnF tb (envL e48) Tryz.f48 qmD c48.ps c48.rs (T:=WH) (fun y=>(y.2.1)) (a_0,())=qeE a_0:=by kernel_rfl
abbrev e24:List (Nat×Ctr):=[(45,c45),(46,c46),(47,c47),(48,c48)]
def qmN:LH
 | _=>none
theorem qre (a_0:RAT) (b_1:RAT):fnF tb (envL e24) Tryz.f24 qmN c24.ps c24.rs (T:=Int) (fun y=>(y.2.1)) (a_0,b_1,())=qfs a_0 b_1:=by kernel_rfl
abbrev e11:List (Nat×Ctr):=[(24,c24)]
def qlv:LH
 | _=>none
theorem qpX (a_0:RAT) (b_1:RAT):fnF tb (envL e11) Tryz.f11 qlv c11.ps c11.rs (T:=Bool) (fun y=>(y.2.1)) (a_0,b_1,())=qct a_0 b_1:=by kernel_rfl
abbrev e30:List (Nat×Ctr):=[(31,c31),(53,c53)]
def qnm:LH
 | _=>none
theorem qsr (n_0:Int):fnF tb (envL e30) Tryz.f30 qnm c30.ps c30.rs (T:=WH) (fun y=>(y.2.1)) (n_0,())=qho n_0:=by kernel_rfl
abbrev e16:List (Nat×Ctr):=[(30,c30),(31,c31)]
def qnP:LH
 | _=>none
theorem qsI (n_0:Int):fnF tb (envL e16) Tryz.f16 qnP c16.ps c16.rs (T:=RAT) (fun y=>(y.2.1)) (n_0,())=qiq n_0:=by kernel_rfl
abbrev e15:List (Nat×Ctr):=[(16,c16)]
def qmF:LH
 | _=>none
theorem qq8 :fnF tb (envL e15) Tryz.f15 qmF c15.ps c15.rs (T:=RAT) (fun y=>(y.2.1)) ()=qfr :=by kernel_rfl
abbrev e34 (n:Nat):List (Nat×Ctr):=[(34,(c34 n))]
def qky (n:Nat):LH
 | _=>none
theorem qoI (n:Nat) (t_0:List NODE) (at_1:Int) (out_2:List NODE):fnF tb (envL (e34 n)) Tryz.f34 (qky n) (c34 n).ps (c34 n).rs (T:=(List NODE)×Int) (fun y=>(y.2.1,y.2.2.1)) (t_0,at_1,out_2,())=qgZ (n+1) t_0 at_1 out_2:=by kernel_rfl
abbrev e35:List (Nat×Ctr):=[(45,c45)]
def qf9:LH
 | 14=>some ⟨qdK,qeO,lp qck K0⟩
 | 6=>some ⟨qdL,qeP,lp qcl K0⟩
 | _=>none
theorem qoN (g:qdK.V->Option (OT qeO)) (v:qdK.V):q10q tbO (envL e35) 67 qf9 (q3q 7 (q4q Tryz.f35) .skip) qdK qeO g v=qck g v:=by kernel_rfl
theorem qoO (g:qdL.V->Option (OT qeP)) (v:qdL.V):q10q tbO (envL e35) 67 qf9 (q3q 3 (q4q Tryz.f35) .skip) qdL qeP g v=qcl g v:=by kernel_rfl
theorem qoP (a_0:qak):fnFB tbO (envL e35) Tryz.f35 qf9 w35 c35.ps c35.rs (T:=Int×(List (Option (List NODE)))) (fun y=>(y.2.1,y.2.2.1)) (a_0,())=qf2 a_0:=by kernel_rfl
abbrev e36:List (Nat×Ctr):=[]
def qgA:LH
 | 18=>some ⟨qeo,qfz,lp qbZ K0⟩
 | 8=>some ⟨qep,qfA,lp qbi K0⟩
 | _=>none
theorem qqc (g:qeo.V->Option (OT qfz)) (v:qeo.V):q10q tb (envL e36) 72 qgA (q3q 9 (q4q Tryz.f36) .skip) qeo qfz g v=qbZ g v:=by kernel_rfl
theorem qqd (g:qep.V->Option (OT qfA)) (v:qep.V):q10q tb (envL e36) 72 qgA (q3q 4 (q4q Tryz.f36) .skip) qep qfA g v=qbi g v:=by kernel_rfl
theorem qqe (a_0:qak):fnF tb (envL e36) Tryz.f36 qgA c36.ps c36.rs (T:=Bool) (fun y=>(y.2.1)) (a_0,())=qid a_0:=by kernel_rfl
abbrev e37:List (Nat×Ctr):=[]
def qgX:LH
 | 4=>some ⟨qc8,qd2,lp qba K0⟩
 | _=>none
theorem qnv (g:qc8.V->Option (OT qd2)) (v:qc8.V):q10q tb (envL e37) 52 qgX (q3q 2 (q4q Tryz.f37) .skip) qc8 qd2 g v=qba g v:=by kernel_rfl
theorem qnw (t_0:List NODE) (features_1:Int):fnF tb (envL e37) Tryz.f37 qgX c37.ps c37.rs (T:=Int×Int) (fun y=>(y.2.1,y.2.2.1)) (t_0,features_1,())=qe1 t_0 features_1:=by kernel_rfl
abbrev e38:List (Nat×Ctr):=[]
def qdF:LH
 | 6=>some ⟨qdG,qez,lp qbN K0⟩
 | 20=>some ⟨qc7,qd1,lp qaW K0⟩
 | 34=>some ⟨qc6,qd0,lp qbO K0⟩
 | 50=>some ⟨qc5,qdZ,lp qa9 K0⟩
 | _=>none
theorem qoz (g:qdG.V->Option (OT qez)) (v:qdG.V):q10q tb (envL e38) 103 qdF (q3q 3 (q4q Tryz.f38) .skip) qdG qez g v=qbN g v:=by kernel_rfl
theorem qnt (g:qc7.V->Option (OT qd1)) (v:qc7.V):q10q tb (envL e38) 103 qdF (q3q 10 (q4q Tryz.f38) .skip) qc7 qd1 g v=qaW g v:=by kernel_rfl
theorem qns (g:qc6.V->Option (OT qd0)) (v:qc6.V):q10q tb (envL e38) 103 qdF (q3q 17 (q4q Tryz.f38) .skip) qc6 qd0 g v=qbO g v:=by kernel_rfl
theorem qnr (g:qc5.V->Option (OT qdZ)) (v:qc5.V):q10q tb (envL e38) 103 qdF (q3q 25 (q4q Tryz.f38) .skip) qc5 qdZ g v=qa9 g v:=by kernel_rfl
theorem qoA (a_0:List NODE):fnF tb (envL e38) Tryz.f38 qdF c38.ps c38.rs (T:=Int×Int) (fun y=>(y.2.1,y.2.2.1)) (a_0,())=qgW a_0:=by kernel_rfl
abbrev e68:List (Nat×Ctr):=[(62,c62)]
def qlf:LH
 | _=>none
theorem qpy (a_0:WH):fnF tb (envL e68) Tryz.f68 qlf c68.ps c68.rs (T:=Int) (fun y=>(y.2.1)) (a_0,())=qgJ a_0:=by kernel_rfl
abbrev e56:List (Nat×Ctr):=[(45,c45),(68,c68)]
def qlt:LH
 | _=>none
theorem qpW (a_0:RAT):fnF tb (envL e56) Tryz.f56 qlt c56.ps c56.rs (T:=Int) (fun y=>(y.2.1)) (a_0,())=qgN a_0:=by kernel_rfl
abbrev e39:List (Nat×Ctr):=[(56,c56)]
def qgY:LH
 | 4=>some ⟨qc9,qd3,lp qbb K0⟩
 | _=>none
theorem qny (g:qc9.V->Option (OT qd3)) (v:qc9.V):q10q tb (envL e39) 19 qgY (q3q 2 (q4q Tryz.f39) .skip) qc9 qd3 g v=qbb g v:=by kernel_rfl
theorem qnz (t_0:List NODE):fnF tb (envL e39) Tryz.f39 qgY c39.ps c39.rs (T:=Int×Int) (fun y=>(y.2.1,y.2.2.1)) (t_0,())=qe2 t_0:=by kernel_rfl
abbrev e66:List (Nat×Ctr):=[(54,c54),(61,c61),(88,c88)]
def qmc:LH
 | 10=>some ⟨qgU,qic,lp qfj K0⟩
 | _=>none
theorem qu5 (g:qgU.V->Option (OT qic)) (v:qgU.V):q10q tb (envL e66) 43 qmc (q3q 5 (q4q Tryz.f66) .skip) qgU qic g v=qfj g v:=by kernel_rfl
theorem qu6 (a_0:List Int) (b_1:List Int):fnF tb (envL e66) Tryz.f66 qmc c66.ps c66.rs (T:=(List Int)) (fun y=>(y.2.1)) (a_0,b_1,())=qmd a_0 b_1:=by kernel_rfl
abbrev e67:List (Nat×Ctr):=[(61,c61),(79,c79),(85,c85)]
def qpc:LH
 | _=>none
theorem quW (a_0:List Int) (b_1:List Int):fnF tb (envL e67) Tryz.f67 qpc c67.ps c67.rs (T:=(List Int)×Int) (fun y=>(y.2.1,y.2.2.1)) (a_0,b_1,())=qjI a_0 b_1:=by kernel_rfl
abbrev e51:List (Nat×Ctr):=[(53,c53),(62,c62),(63,c63),(66,c66),(67,c67)]
def qmy:LH
 | _=>none
theorem qqF (a_0:WH) (b_1:WH):fnF tb (envL e51) Tryz.f51 qmy c51.ps c51.rs (T:=WH) (fun y=>(y.2.1)) (a_0,b_1,())=qjh a_0 b_1:=by kernel_rfl
abbrev e27:List (Nat×Ctr):=[(45,c45),(47,c47),(48,c48),(50,c50),(51,c51),(52,c52)]
def qmO:LH
 | _=>none
theorem qrf (a_0:RAT) (b_1:RAT):fnF tb (envL e27) Tryz.f27 qmO c27.ps c27.rs (T:=RAT) (fun y=>(y.2.1)) (a_0,b_1,())=qcT a_0 b_1:=by kernel_rfl
abbrev e40:List (Nat×Ctr):=[(11,c11),(27,c27)]
def qik:LH
 | 4=>some ⟨qeg,qfm,lp qbx K0⟩
 | _=>none
theorem qpB (g:qeg.V->Option (OT qfm)) (v:qeg.V):q10q tb (envL e40) 37 qik (q3q 2 (q4q Tryz.f40) .skip) qeg qfm g v=qbx g v:=by kernel_rfl
theorem qpC (t_0:List NODE):fnF tb (envL e40) Tryz.f40 qik c40.ps c40.rs (T:=Int×Int) (fun y=>(y.2.1,y.2.2.1)) (t_0,())=qgK t_0:=by kernel_rfl
abbrev e41:List (Nat×Ctr):=[]
def qkw:LH
 | _=>none
theorem qoB (e_0:Int) (tree_1:Int) (node_2:Int):fnF tb (envL e41) Tryz.f41 qkw c41.ps c41.rs (T:=(Int×Int×Int×Int)) (fun y=>(y.2.1)) (e_0,tree_1,node_2,())=qeU e_0 tree_1 node_2:=by kernel_rfl
abbrev e20:List (Nat×Ctr):=[(36,c36),(37,c37),(38,c38),(39,c39),(40,c40),(41,c41)]
def qf7:LH
 | 14=>some ⟨qdH,qeA,lp qaG K0⟩
 | 8=>some ⟨qdI,qeB,lp qbu K0⟩
 | _=>none
theorem qoE (g:qdH.V->Option (OT qeA)) (v:qdH.V):q10q tb (envL e20) 63 qf7 (q3q 7 (q4q Tryz.f20) .skip) qdH qeA g v=qaG g v:=by kernel_rfl
theorem qoF (g:qdI.V->Option (OT qeB)) (v:qdI.V):q10q tb (envL e20) 63 qf7 (q3q 4 (q4q Tryz.f20) .skip) qdI qeB g v=qbu g v:=by kernel_rfl
theorem qoG (m_0:qak):fnF tb (envL e20) Tryz.f20 qf7 c20.ps c20.rs (T:=(Int×Int×Int×Int)) (fun y=>(y.2.1)) (m_0,())=qfR m_0:=by kernel_rfl
abbrev e7:List (Nat×Ctr):=[(20,c20)]
def qnA:LH
 | _=>none
theorem qss (m_0:qak):fnF tb (envL e7) Tryz.f7 qnA c7.ps c7.rs (T:=Bool) (fun y=>(y.2.1)) (m_0,())=qcA m_0:=by kernel_rfl
abbrev e55:List (Nat×Ctr):=[(7,c7)]
def qlg:LH
 | _=>none
theorem qpD (t_0:List NODE) (features_1:Int):fnF tb (envL e55) Tryz.f55 qlg c55.ps c55.rs (T:=Bool) (fun y=>(y.2.1)) (t_0,features_1,())=qlZ t_0 features_1:=by kernel_rfl
abbrev e32:List (Nat×Ctr):=[(34,(c34 R0)),(35,c35),(55,c55)]
def qlj:LH
 | _=>none
theorem qpI (t_0:List NODE) (features_1:Int):fnF tb (envL e32) Tryz.f32 qlj c32.ps c32.rs (T:=(List NODE)×Int) (fun y=>(y.2.1,y.2.2.1)) (t_0,features_1,())=ql1 t_0 features_1:=by kernel_rfl
abbrev e33 (n:Nat):List (Nat×Ctr):=[(11,c11),(33,(c33 n))]
def qkx (n:Nat):LH
 | _=>none
theorem qoH (n:Nat) (t_0:List NODE) (at_1:Int):fnF tb (envL (e33 n)) Tryz.f33 (qkx n) (c33 n).ps (c33 n).rs (T:=(List NODE)) (fun y=>(y.1.1)) (t_0,at_1,())=qil (n+1) t_0 at_1:=by kernel_rfl
abbrev e17:List (Nat×Ctr):=[(32,c32),(33,(c33 R0)),(34,(c34 R0))]
def qkB:LH
 | _=>none
theorem qoJ (t_0:List NODE) (features_1:Int):fnF tb (envL e17) Tryz.f17 qkB c17.ps c17.rs (T:=(List NODE)×Int) (fun y=>(y.2.1,y.2.2.1)) (t_0,features_1,())=qkQ t_0 features_1:=by kernel_rfl
abbrev e5:List (Nat×Ctr):=[(11,c11),(15,c15),(16,c16),(17,c17)]
def qef:LH
 | _=>none
theorem qj6 :fnF tb (envL e5) Tryz.f5 qef c5.ps c5.rs (T:=Bool) (fun y=>(y.2.1)) ()=qah :=by kernel_rfl
abbrev e19:List (Nat×Ctr):=[]
def qg0:LH
 | 4=>some ⟨qda,qd4,lp qbP K0⟩
 | _=>none
theorem qnE (g:qda.V->Option (OT qd4)) (v:qda.V):q10q tb (envL e19) 30 qg0 (q3q 2 (q4q Tryz.f19) .skip) qda qd4 g v=qbP g v:=by kernel_rfl
theorem qnF (t_0:List NODE) (b_1:List Int):fnFB tb (envL e19) Tryz.f19 qg0 w19 c19.ps c19.rs (T:=(List NODE)×(List Int)) (fun y=>(y.2.1,y.2.2.1)) (t_0,b_1,())=qgc t_0 b_1:=by kernel_rfl
abbrev qud:List (Nat×Ctr):=[(7,c7),(19,c19),(35,c35)]
def qdM:LH
 | 10=>some ⟨qbs,qb8,lp qaD K0⟩
 | _=>none
theorem qi6 (g:qbs.V->Option (OT qb8)) (v:qbs.V):q10q tb (envL qud) 34 qdM (q3q 5 (q4q Tryz.f18) .skip) qbs qb8 g v=qaD g v:=by kernel_rfl
theorem qi7 (m_0:qak) (b_1:List Int):fnFB tb (envL qud) Tryz.f18 qdM qvJ qsi.ps qsi.rs (T:=qak×Int×(List Int)) (fun y=>(y.2.1,y.2.2.1,y.2.2.2.1)) (m_0,b_1,())=qcc m_0 b_1:=by kernel_rfl
abbrev e6:List (Nat×Ctr):=[(7,c7),(18,qsi)]
def qji:LH
 | 16=>some ⟨qe5,qgb,lp qcn K0⟩
 | _=>none
theorem qqI (g:qe5.V->Option (OT qgb)) (v:qe5.V):q10q tb (envL e6) 61 qji (q3q 8 (q4q Tryz.f6) .skip) qe5 qgb g v=qcn g v:=by kernel_rfl
theorem qqJ (m_0:qak) (order_1:List Int):fnF tb (envL e6) Tryz.f6 qji c6.ps c6.rs (T:=qak×Int) (fun y=>(y.2.1,y.2.2.1)) (m_0,order_1,())=qdz m_0 order_1:=by kernel_rfl
abbrev e8:List (Nat×Ctr):=[]
def qee:LH
 | 4=>some ⟨qbM,qcr,lp qaH K0⟩
 | _=>none
theorem qj3 (g:qbM.V->Option (OT qcr)) (v:qbM.V):q10q tb (envL e8) 19 qee (q3q 2 (q4q Tryz.f8) .skip) qbM qcr g v=qaH g v:=by kernel_rfl
theorem qj4 (l_0:List Int) (n_1:Int):fnF tb (envL e8) Tryz.f8 qee c8.ps c8.rs (T:=Int) (fun y=>(y.2.1)) (l_0,n_1,())=qcZ l_0 n_1:=by kernel_rfl
abbrev e21:List (Nat×Ctr):=[]
def qcY:LH
 | 8=>some ⟨qbL,qcq,lp qaw K0⟩
 | 18=>some ⟨qbK,qcp,lp qav K0⟩
 | _=>none
theorem qj0 (g:qbL.V->Option (OT qcq)) (v:qbL.V):q10q tb (envL e21) 73 qcY (q3q 4 (q4q Tryz.f21) .skip) qbL qcq g v=qaw g v:=by kernel_rfl
theorem qjZ (g:qbK.V->Option (OT qcp)) (v:qbK.V):q10q tb (envL e21) 73 qcY (q3q 9 (q4q Tryz.f21) .skip) qbK qcp g v=qav g v:=by kernel_rfl
theorem qj1 (a_0:RAT) (a_1:RAT):fnF tb (envL e21) Tryz.f21 qcY c21.ps c21.rs (T:=Bool) (fun y=>(y.2.1)) (a_0,a_1,())=qb0 a_0 a_1:=by kernel_rfl
abbrev e9:List (Nat×Ctr):=[(21,c21)]
def qc3:LH
 | 18=>some ⟨qb6,qcx,lp qaP K0⟩
 | 8=>some ⟨qb7,qcy,lp qaQ K0⟩
 | _=>none
theorem qkr (g:qb6.V->Option (OT qcx)) (v:qb6.V):q10q tb (envL e9) 126 qc3 (q3q 9 (q4q Tryz.f9) .skip) qb6 qcx g v=qaP g v:=by kernel_rfl
theorem qks (g:qb7.V->Option (OT qcy)) (v:qb7.V):q10q tb (envL e9) 126 qc3 (q3q 4 (q4q Tryz.f9) .skip) qb7 qcy g v=qaQ g v:=by kernel_rfl
theorem qkt (a_0:qak) (a_1:qak):fnF tb (envL e9) Tryz.f9 qc3 c9.ps c9.rs (T:=Bool) (fun y=>(y.2.1)) (a_0,a_1,())=qbj a_0 a_1:=by kernel_rfl
abbrev e42:List (Nat×Ctr):=[(7,c7)]
def qln:LH
 | _=>none
theorem qpR (m_0:qak) (row_1:List CELL):fnF tb (envL e42) Tryz.f42 qln c42.ps c42.rs (T:=Int) (fun y=>(y.2.1)) (m_0,row_1,())=qe6 m_0 row_1:=by kernel_rfl
abbrev e22:List (Nat×Ctr):=[(42,c42)]
def qlp:LH
 | _=>none
theorem qpT (m_0:qak) (row_1:List CELL):fnF tb (envL e22) Tryz.f22 qlp c22.ps c22.rs (T:=Int) (fun y=>(y.2.1)) (m_0,row_1,())=qhR m_0 row_1:=by kernel_rfl
abbrev e43:List (Nat×Ctr):=[(25,c25)]
def qfV:LH
 | 6=>some ⟨qcF,qdd,lp qbd K0⟩
 | _=>none
theorem ql6 (g:qcF.V->Option (OT qdd)) (v:qcF.V):q10q tb (envL e43) 13 qfV (q3q 3 (q4q Tryz.f43) .skip) qcF qdd g v=qbd g v:=by kernel_rfl
theorem ql7 (n_0:Int):fnF tb (envL e43) Tryz.f43 qfV c43.ps c43.rs (T:=(List RAT)) (fun y=>(y.2.1)) (n_0,())=qeF n_0:=by kernel_rfl
abbrev e57:List (Nat×Ctr):=[(15,c15)]
def qju:LH
 | _=>none
theorem qnY :fnFB tb (envL e57) Tryz.f57 qju w57 c57.ps c57.rs (T:=(List (Int×RAT×CELL))) (fun y=>(y.2.1)) ()=qgg :=by kernel_rfl
abbrev e69:List (Nat×Ctr):=[]
def qd7:LH
 | 8=>some ⟨qbH,qco,lp qaj K0⟩
 | _=>none
theorem qjr (g:qbH.V->Option (OT qco)) (v:qbH.V):q10q tb (envL e69) 29 qd7 (q3q 4 (q4q Tryz.f69) .skip) qbH qco g v=qaj g v:=by kernel_rfl
theorem qjs (feature_0:Int) (b_1:List (Int×RAT×CELL)):fnFB tb (envL e69) Tryz.f69 qd7 w69 c69.ps c69.rs (T:=Int×(List (Int×RAT×CELL))) (fun y=>(y.2.1,y.2.2.1)) (feature_0,b_1,())=qbq feature_0 b_1:=by kernel_rfl
abbrev e70:List (Nat×Ctr):=[]
def qdN:LH
 | 10=>some ⟨qbt,qb9,lp qaE K0⟩
 | _=>none
theorem qja (g:qbt.V->Option (OT qb9)) (v:qbt.V):q10q tb (envL e70) 32 qdN (q3q 5 (q4q Tryz.f70) .skip) qbt qb9 g v=qaE g v:=by kernel_rfl
theorem qjb (b_0:List (Int×RAT×CELL)):fnFB tb (envL e70) Tryz.f70 qdN w70 c70.ps c70.rs (T:=(List PART)×(List (Int×RAT×CELL))) (fun y=>(y.2.1,y.2.2.1)) (b_0,())=qce b_0:=by kernel_rfl
abbrev e71:List (Nat×Ctr):=[(45,c45),(47,c47),(50,c50),(52,c52)]
def qmI:LH
 | _=>none
theorem qra (a_0:RAT) (b_1:RAT):fnF tb (envL e71) Tryz.f71 qmI c71.ps c71.rs (T:=RAT) (fun y=>(y.2.1)) (a_0,b_1,())=qay a_0 b_1:=by kernel_rfl
abbrev e92:List (Nat×Ctr):=[(53,c53),(62,c62)]
def qmv:LH
 | _=>none
theorem qqC (a_0:WH):fnF tb (envL e92) Tryz.f92 qmv c92.ps c92.rs (T:=WH) (fun y=>(y.2.1)) (a_0,())=qhC a_0:=by kernel_rfl
abbrev e100:List (Nat×Ctr):=[(50,c50),(62,c62),(68,c68),(92,c92)]
def qlx:LH
 | _=>none
theorem qpY (num_0:WH) (den_1:WH):fnF tb (envL e100) Tryz.f100 qlx c100.ps c100.rs (T:=RAT×Int) (fun y=>(y.2.1,y.2.2.1)) (num_0,den_1,())=qgO num_0 den_1:=by kernel_rfl
abbrev e90:List (Nat×Ctr):=[(30,c30),(45,c45),(100,c100)]
def qly:LH
 | _=>none
theorem qp0 (n_0:Int) (d_1:Int):fnF tb (envL e90) Tryz.f90 qly c90.ps c90.rs (T:=RAT) (fun y=>(y.2.1)) (n_0,d_1,())=qdc n_0 d_1:=by kernel_rfl
abbrev e93:List (Nat×Ctr):=[(45,c45),(48,c48),(100,c100)]
def qmK:LH
 | _=>none
theorem qrb (a_0:RAT):fnF tb (envL e93) Tryz.f93 qmK c93.ps c93.rs (T:=RAT×Int) (fun y=>(y.2.1,y.2.2.1)) (a_0,())=qhT a_0:=by kernel_rfl
abbrev e75:List (Nat×Ctr):=[(45,c45),(92,c92)]
def qmH:LH
 | _=>none
theorem qq9 (a_0:RAT):fnF tb (envL e75) Tryz.f75 qmH c75.ps c75.rs (T:=RAT) (fun y=>(y.2.1)) (a_0,())=qg2 a_0:=by kernel_rfl
abbrev e99:List (Nat×Ctr):=[(27,c27),(75,c75)]
def qmE:LH
 | _=>none
theorem qq7 (a_0:RAT) (b_1:RAT):fnF tb (envL e99) Tryz.f99 qmE c99.ps c99.rs (T:=RAT) (fun y=>(y.2.1)) (a_0,b_1,())=qjo a_0 b_1:=by kernel_rfl
abbrev e89:List (Nat×Ctr):=[(71,c71),(90,c90),(93,c93),(99,c99)]
def qdf:LH
 | 14=>some ⟨qa6,qbF,lp qap K0⟩
 | _=>none
theorem qhZ (g:qa6.V->Option (OT qbF)) (v:qa6.V):q10q tb (envL e89) 104 qdf (q3q 7 (q4q Tryz.f89) .skip) qa6 qbF g v=qap g v:=by kernel_rfl
theorem qh0 (a_0:Int) (b_1:List (Int×RAT×CELL)):fnFB tb (envL e89) Tryz.f89 qdf w89 c89.ps c89.rs (T:=(List RAT)×(List (Int×RAT×CELL))) (fun y=>(y.2.1,y.2.2.1)) (a_0,b_1,())=qbG a_0 b_1:=by kernel_rfl
abbrev e72:List (Nat×Ctr):=[(89,c89)]
def qdr:LH
 | 16=>some ⟨qbh,qbV,lp qaz K0⟩
 | _=>none
theorem qiA (g:qbh.V->Option (OT qbV)) (v:qbh.V):q10q tb (envL e72) 66 qdr (q3q 8 (q4q Tryz.f72) .skip) qbh qbV g v=qaz g v:=by kernel_rfl
theorem qiB (a_0:Int) (b_1:List (Int×RAT×CELL)):fnFB tb (envL e72) Tryz.f72 qdr w72 c72.ps c72.rs (T:=Int×(List (Int×RAT×CELL))) (fun y=>(y.2.1,y.2.2.1)) (a_0,b_1,())=qb5 a_0 b_1:=by kernel_rfl
abbrev e73:List (Nat×Ctr):=[(25,c25),(27,c27),(45,c45),(56,c56),(69,c69),(71,c71),(90,c90)]
def qds:LH
 | 20=>some ⟨qa7,qbI,lp qaq K0⟩
 | _=>none
theorem qh2 (g:qa7.V->Option (OT qbI)) (v:qa7.V):q10q tb (envL e73) 113 qds (q3q 10 (q4q Tryz.f73) .skip) qa7 qbI g v=qaq g v:=by kernel_rfl
theorem qiC (a_0:Int) (a_1:RAT) (a_2:Bool) (b_3:List (Int×RAT×CELL)):fnFB tb (envL e73) Tryz.f73 qds w73 c73.ps c73.rs (T:=Int×(List (Int×RAT×CELL))) (fun y=>(y.2.1,y.2.2.1)) (a_0,a_1,a_2,b_3,())=qaO a_0 a_1 a_2 b_3:=by kernel_rfl
abbrev e58:List (Nat×Ctr):=[(69,c69),(70,c70),(71,c71),(72,c72),(73,c73)]
def qfI:LH
 | _=>none
theorem qi8 (b_0:Int) (b_1:Bool) (b_2:List Int) (b_3:List Int) (b_4:Int) (b_5:Bool) (b_6:List Int) (b_7:List Int) (b_8:Bool) (b_9:List (Int×RAT×CELL)):fnFB tb (envL e58) Tryz.f58 qfI w58 c58.ps c58.rs (T:=Int×Bool×(List Int)×(List Int)×Int×Bool×(List Int)×(List Int)×Bool×(List (Int×RAT×CELL))) (fun y=>(y.2.1,y.2.2.1,y.2.2.2.1,y.2.2.2.2.1,y.2.2.2.2.2.1,y.2.2.2.2.2.2.1,y.2.2.2.2.2.2.2.1,y.2.2.2.2.2.2.2.2.1,y.2.2.2.2.2.2.2.2.2.1,y.2.2.2.2.2.2.2.2.2.2.1)) (b_0,b_1,b_2,b_3,b_4,b_5,b_6,b_7,b_8,b_9,())=qaU b_0 b_1 b_2 b_3 b_4 b_5 b_6 b_7 b_8 b_9:=by kernel_rfl
abbrev e91:List (Nat×Ctr):=[(25,c25),(27,c27)]
def qjn:LH
 | 6=>some ⟨qe7,qgd,lp qcS K0⟩
 | _=>none
theorem qq4 (g:qe7.V->Option (OT qgd)) (v:qe7.V):q10q tb (envL e91) 18 qjn (q3q 3 (q4q Tryz.f91) .skip) qe7 qgd g v=qcS g v:=by kernel_rfl
theorem qq5 (l_0:List RAT):fnF tb (envL e91) Tryz.f91 qjn c91.ps c91.rs (T:=RAT) (fun y=>(y.2.1)) (l_0,())=qhS l_0:=by kernel_rfl
abbrev e74:List (Nat×Ctr):=[(89,c89),(91,c91)]
def qgw:LH
 | _=>none
theorem qko (at_0:Int) (b_1:List (Int×RAT×CELL)):fnFB tb (envL e74) Tryz.f74 qgw w74 c74.ps c74.rs (T:=RAT×Int×(List (Int×RAT×CELL))) (fun y=>(y.2.1,y.2.2.1,y.2.2.2.1)) (at_0,b_1,())=qdg at_0 b_1:=by kernel_rfl
abbrev e59:List (Nat×Ctr):=[(15,c15),(27,c27),(70,c70),(71,c71),(74,c74),(75,c75)]
def qdq:LH
 | 6=>some ⟨qbg,qbT,lp qau K0⟩
 | _=>none
theorem qix (g:qbg.V->Option (OT qbT)) (v:qbg.V):q10q tb (envL e59) 69 qdq (q3q 3 (q4q Tryz.f59) .skip) qbg qbT g v=qau g v:=by kernel_rfl
theorem qiy (a_0:Int) (a_1:Bool) (a_2:List Int) (a_3:List Int) (a_4:Int) (a_5:Bool) (a_6:List Int) (a_7:List Int) (a_8:Bool) (b_9:List NODE) (b_10:List CELL) (b_11:Int) (b_12:Bool) (b_13:List RAT) (b_14:List (Int×RAT×CELL)):fnFB tb (envL e59) Tryz.f59 qdq w59 c59.ps c59.rs (T:=(List RAT)×(List NODE)×(List CELL)×Int×Bool×(List (Int×RAT×CELL))) (fun y=>(y.1.1,y.2.1,y.2.2.1,y.2.2.2.1,y.2.2.2.2.1,y.2.2.2.2.2.1)) (a_0,a_1,a_2,a_3,a_4,a_5,a_6,a_7,a_8,b_9,b_10,b_11,b_12,b_13,b_14,())=qbo a_0 a_1 a_2 a_3 a_4 a_5 a_6 a_7 a_8 b_9 b_10 b_11 b_12 b_13 b_14:=by kernel_rfl
abbrev e76:List (Nat×Ctr):=[(71,c71),(93,c93)]
def qmL:LH
 | _=>none
theorem qrd (a_0:RAT) (b_1:RAT):fnF tb (envL e76) Tryz.f76 qmL c76.ps c76.rs (T:=RAT×Int) (fun y=>(y.2.1,y.2.2.1)) (a_0,b_1,())=qhU a_0 b_1:=by kernel_rfl
abbrev e94:List (Nat×Ctr):=[(24,c24)]
def qlm:LH
 | _=>none
theorem qpQ (n_0:NODE) (c_1:CELL):fnF tb (envL e94) Tryz.f94 qlm c94.ps c94.rs (T:=Bool) (fun y=>(y.2.1)) (n_0,c_1,())=qgM n_0 c_1:=by kernel_rfl
abbrev e77:List (Nat×Ctr):=[(94,c94)]
def qlo:LH
 | _=>none
theorem qpS (n_0:NODE) (c_1:CELL):fnF tb (envL e77) Tryz.f77 qlo c77.ps c77.rs (T:=Bool) (fun y=>(y.2.1)) (n_0,c_1,())=qhQ n_0 c_1:=by kernel_rfl
abbrev e78:List (Nat×Ctr):=[]
def qgf:LH
 | _=>none
theorem qjt (b_0:List (Int×RAT×CELL)):fnFB tb (envL e78) Tryz.f78 qgf w78 c78.ps c78.rs (T:=(List (Int×RAT×CELL))×(List (Int×RAT×CELL))) (fun y=>(y.2.1,y.2.2.1)) (b_0,())=qcU b_0:=by kernel_rfl
abbrev e60:List (Nat×Ctr):=[(71,c71),(76,c76),(77,c77),(78,c78)]
def qe8:LH
 | _=>none
theorem qhV (a_0:Int) (a_1:Bool) (a_2:List Int) (a_3:List Int) (a_4:Int) (a_5:Bool) (a_6:List Int) (a_7:List Int) (a_8:Bool) (a_9:Int) (a_10:Bool) (b_11:List NODE) (b_12:List CELL) (b_13:Int) (b_14:Bool) (b_15:List RAT) (b_16:List (Int×RAT×CELL)):fnFB tb (envL e60) Tryz.f60 qe8 w60 c60.ps c60.rs (T:=(List RAT)×Int×Bool×(List Int)×(List Int)×Int×Bool×(List Int)×(List Int)×Bool×Bool×(List NODE)×(List CELL)×Int×Bool×(List (Int×RAT×CELL))×(List (Int×RAT×CELL))) (fun y=>(y.1.1,y.2.1,y.2.2.1,y.2.2.2.1,y.2.2.2.2.1,y.2.2.2.2.2.1,y.2.2.2.2.2.2.1,y.2.2.2.2.2.2.2.1,y.2.2.2.2.2.2.2.2.1,y.2.2.2.2.2.2.2.2.2.1,y.2.2.2.2.2.2.2.2.2.2.1,y.2.2.2.2.2.2.2.2.2.2.2.1,y.2.2.2.2.2.2.2.2.2.2.2.2.1,y.2.2.2.2.2.2.2.2.2.2.2.2.2.1,y.2.2.2.2.2.2.2.2.2.2.2.2.2.2.1,y.2.2.2.2.2.2.2.2.2.2.2.2.2.2.2.1,y.2.2.2.2.2.2.2.2.2.2.2.2.2.2.2.2.1)) (a_0,a_1,a_2,a_3,a_4,a_5,a_6,a_7,a_8,a_9,a_10,b_11,b_12,b_13,b_14,b_15,b_16,())=qbE a_0 a_1 a_2 a_3 a_4 a_5 a_6 a_7 a_8 a_9 a_10 b_11 b_12 b_13 b_14 b_15 b_16:=by kernel_rfl
abbrev e44:List (Nat×Ctr):=[(15,c15),(57,c57),(58,c58),(59,c59),(60,c60)]
def qcB:LH
 | 18=>some ⟨qbe,qbR,lp qam K0⟩
 | 2=>some ⟨qbf,qbS,lp qat K0⟩
 | _=>none
theorem qit (g:qbe.V->Option (OT qbR)) (v:qbe.V):q10q tb (envL e44) 91 qcB (q3q 9 (q4q Tryz.f44) .skip) qbe qbR g v=qam g v:=by kernel_rfl
theorem qiu (g:qbf.V->Option (OT qbS)) (v:qbf.V):q10q tb (envL e44) 91 qcB (q3q 1 (q4q Tryz.f44) .skip) qbf qbS g v=qat g v:=by kernel_rfl
theorem qiv (b_0:List NODE) (b_1:List CELL) (b_2:Int) (b_3:Bool) (b_4:List RAT) (b_5:List (Int×(Option ((Option (List (Int×RAT×CELL)))×Unit))×RAT×PART)):fnFB tb (envL e44) Tryz.f44 qcB w44 c44.ps c44.rs (T:=(List RAT)×(List NODE)×(List CELL)×Int×Bool×(List (Int×(Option ((Option (List (Int×RAT×CELL)))×Unit))×RAT×PART))) (fun y=>(y.1.1,y.2.1,y.2.2.1,y.2.2.2.1,y.2.2.2.2.1,y.2.2.2.2.2.1)) (b_0,b_1,b_2,b_3,b_4,b_5,())=qb4 b_0 b_1 b_2 b_3 b_4 b_5:=by kernel_rfl
abbrev e23:List (Nat×Ctr):=[(43,c43),(44,c44)]
def qg3:LH
 | 6=>some ⟨qde,qd6,lp qbU K0⟩
 | _=>none
theorem qnW (g:qde.V->Option (OT qd6)) (v:qde.V):q10q tb (envL e23) 34 qg3 (q3q 3 (q4q Tryz.f23) .skip) qde qd6 g v=qbU g v:=by kernel_rfl
theorem qnX (m_0:qak) (row_1:List CELL) (fixed_2:Int) (on_3:Bool):fnF tb (envL e23) Tryz.f23 qg3 c23.ps c23.rs (T:=(List RAT)) (fun y=>(y.2.1)) (m_0,row_1,fixed_2,on_3,())=qge m_0 row_1 fixed_2 on_3:=by kernel_rfl
abbrev e10:List (Nat×Ctr):=[(22,c22),(23,c23)]
def qhp:LH
 | _=>none
theorem qlz (m_0:qak) (row_1:List CELL):fnF tb (envL e10) Tryz.f10 qhp c10.ps c10.rs (T:=(List RAT)×Int) (fun y=>(y.2.1,y.2.2.1)) (m_0,row_1,())=qaX m_0 row_1:=by kernel_rfl
abbrev e49:List (Nat×Ctr):=[(24,c24)]
def qgy:LH
 | _=>none
theorem qku (n_0:NODE) (c_1:CELL):fnF tb (envL e49) Tryz.f49 qgy c49.ps c49.rs (T:=Bool) (fun y=>(y.2.1)) (n_0,c_1,())=qdi n_0 c_1:=by kernel_rfl
abbrev e26 (n:Nat):List (Nat×Ctr):=[(26,(c26 n)),(49,c49)]
def qhe (n:Nat):LH
 | _=>none
theorem qk3 (n:Nat) (t_0:List NODE) (at_1:Int) (row_2:List CELL):fnF tb (envL (e26 n)) Tryz.f26 (qhe n) (c26 n).ps (c26 n).rs (T:=(List Int)) (fun y=>(y.2.1)) (t_0,at_1,row_2,())=qbz (n+1) t_0 at_1 row_2:=by kernel_rfl
abbrev e12:List (Nat×Ctr):=[(25,c25),(26,(c26 R0)),(27,c27)]
def qdw:LH
 | 6=>some ⟨qbk,qb2,lp qaA K0⟩
 | _=>none
theorem qiO (g:qbk.V->Option (OT qb2)) (v:qbk.V):q10q tb (envL e12) 40 qdw (q3q 3 (q4q Tryz.f12) .skip) qbk qb2 g v=qaA g v:=by kernel_rfl
theorem qiP (m_0:qak) (row_1:List CELL):fnF tb (envL e12) Tryz.f12 qdw c12.ps c12.rs (T:=RAT) (fun y=>(y.2.1)) (m_0,row_1,())=qan m_0 row_1:=by kernel_rfl
abbrev e3:List (Nat×Ctr):=[(4,c4),(5,c5),(6,c6),(7,c7),(8,c8),(9,c9),(10,c10),(11,c11),(12,c12)]
def qbw:LH
 | 22=>some ⟨qaT,qbn,lp qae K0⟩
 | 46=>some ⟨qaS,qbm,lp qag K0⟩
 | 62=>some ⟨qaR,qbl,lp qaf K0⟩
 | _=>none
theorem qhn (g:qaT.V->Option (OT qbn)) (v:qaT.V):q10q tb (envL e3) 165 qbw (q3q 11 (q4q Tryz.f3) .skip) qaT qbn g v=qae g v:=by kernel_rfl
theorem qhm (g:qaS.V->Option (OT qbm)) (v:qaS.V):q10q tb (envL e3) 165 qbw (q3q 23 (q4q Tryz.f3) .skip) qaS qbm g v=qag g v:=by kernel_rfl
theorem qhl (g:qaR.V->Option (OT qbl)) (v:qaR.V):q10q tb (envL e3) 165 qbw (q3q 31 (q4q Tryz.f3) .skip) qaR qbl g v=qaf g v:=by kernel_rfl
theorem qhy (a_0:qak) (a_1:List CELL) (a_2:List Int):fnF tb (envL e3) Tryz.f3 qbw c3.ps c3.rs (T:=Bool) (fun y=>(y.2.1)) (a_0,a_1,a_2,())=qcb a_0 a_1 a_2:=by kernel_rfl
end Go.Proofs.YtlagkhlolphmdaaGreatDoor.X
