/- Own work: part of the proof; the first line of each part says what it tells. -/
import Derived.Test.YtmabkjhobhbfdaaDoorLa7


namespace Go.Proofs.YtmabkjhobhbfdaaDoor.X
open Go
set_option linter.unusedVariables false
set_option linter.unusedSimpArgs false
set_option maxRecDepth 100000
abbrev e42:List (Nat×Ctr):=[]
def qg5:LH
 | 4=>some ⟨qdz,qer,lp qeq K0⟩
 | _=>none
theorem qmJ (g:qdz.V->Option (OT qer)) (v:qdz.V):q10q tb (envL e42) 23 qg5 (q3q 2 (q4q Tryd.f42) .skip) qdz qer g v=qeq g v:=by kernel_rfl
theorem qmK (a_0:List Int):fnF tb (envL e42) Tryd.f42 qg5 c42.ps c42.rs (T:=(List Int)) (fun y=>(y.2.1)) (a_0,())=qcO a_0:=by kernel_rfl
abbrev e31:List (Nat×Ctr):=[(42,c42)]
def ql7:LH
 | _=>none
theorem qoA (n_0:Int):fnF tb (envL e31) Tryd.f31 ql7 c31.ps c31.rs (T:=(List Int)) (fun y=>(y.2.1)) (n_0,())=qhE n_0:=by kernel_rfl
abbrev e17:List (Nat×Ctr):=[(31,c31)]
def qhp:LH
 | _=>none
theorem qkR :fnF tb (envL e17) Tryd.f17 qhp c17.ps c17.rs (T:=RAT) (fun y=>(y.2.1)) ()=qd8 :=by kernel_rfl
abbrev e28:List (Nat×Ctr):=[(42,c42)]
def qgo:LH
 | 6=>some ⟨qc5,qdV,lp qdU K0⟩
 | _=>none
theorem ql9 (g:qc5.V->Option (OT qdV)) (v:qc5.V):q10q tb (envL e28) 24 qgo (q3q 3 (q4q Tryd.f28) .skip) qc5 qdV g v=qdU g v:=by kernel_rfl
theorem qma (a_0:List Int):fnF tb (envL e28) Tryd.f28 qgo c28.ps c28.rs (T:=(List Int)) (fun y=>(y.2.1)) (a_0,())=qa3 a_0:=by kernel_rfl
abbrev e69:List (Nat×Ctr):=[(28,c28)]
def ql6:LH
 | _=>none
theorem qoz (a_0:List Int):fnF tb (envL e69) Tryd.f69 ql6 c69.ps c69.rs (T:=Int×Bool) (fun y=>(y.2.1,y.2.2.1)) (a_0,())=qno a_0:=by kernel_rfl
abbrev e54:List (Nat×Ctr):=[(31,c31),(69,c69)]
def qfH:LH
 | 6=>some ⟨qcj,qdj,lp qdi K0⟩
 | _=>none
theorem qk2 (g:qcj.V->Option (OT qdj)) (v:qcj.V):q10q tb (envL e54) 27 qfH (q3q 3 (q4q Tryd.f54) .skip) qcj qdj g v=qdi g v:=by kernel_rfl
theorem qk3 (a_0:List Int) (b_1:List Int):fnF tb (envL e54) Tryd.f54 qfH c54.ps c54.rs (T:=(List Int)) (fun y=>(y.2.1)) (a_0,b_1,())=qh5 a_0 b_1:=by kernel_rfl
abbrev e55:List (Nat×Ctr):=[(70,c70)]
def qgi:LH
 | 6=>some ⟨qc0,qdL,lp qdK K0⟩
 | _=>none
theorem qlS (g:qc0.V->Option (OT qdL)) (v:qc0.V):q10q tb (envL e55) 24 qgi (q3q 3 (q4q Tryd.f55) .skip) qc0 qdL g v=qdK g v:=by kernel_rfl
theorem qlT (a_0:List Int):fnF tb (envL e55) Tryd.f55 qgi c55.ps c55.rs (T:=Int) (fun y=>(y.2.1)) (a_0,())=qcM a_0:=by kernel_rfl
abbrev e63:List (Nat×Ctr):=[]
def qjD:LH
 | _=>none
theorem qmS (a_0:List Int) (i_1:Int):fnF tb (envL e63) Tryd.f63 qjD c63.ps c63.rs (T:=Int) (fun y=>(y.2.1)) (a_0,i_1,())=qeF a_0 i_1:=by kernel_rfl
abbrev e56:List (Nat×Ctr):=[(42,c42),(63,c63)]
def qh3:LH
 | 12=>some ⟨qea,qfb,lp qfa K0⟩
 | _=>none
theorem qnP (g:qea.V->Option (OT qfb)) (v:qea.V):q10q tb (envL e56) 50 qh3 (q3q 6 (q4q Tryd.f56) .skip) qea qfb g v=qfa g v:=by kernel_rfl
theorem qnQ (a_0:List Int) (n_1:Int):fnF tb (envL e56) Tryd.f56 qh3 c56.ps c56.rs (T:=(List Int)) (fun y=>(y.2.1)) (a_0,n_1,())=qeu a_0 n_1:=by kernel_rfl
abbrev e57:List (Nat×Ctr):=[]
def qgk:LH
 | 12=>some ⟨qc2,qdP,lp qdO K0⟩
 | _=>none
theorem qlY (g:qc2.V->Option (OT qdP)) (v:qc2.V):q10q tb (envL e57) 45 qgk (q3q 6 (q4q Tryd.f57) .skip) qc2 qdP g v=qdO g v:=by kernel_rfl
theorem qlZ (a_0:List Int) (b_1:List Int):fnF tb (envL e57) Tryd.f57 qgk c57.ps c57.rs (T:=Int) (fun y=>(y.2.1)) (a_0,b_1,())=qfe a_0 b_1:=by kernel_rfl
abbrev e58:List (Nat×Ctr):=[(42,c42)]
def qh4:LH
 | 8=>some ⟨qeb,qfd,lp qfc K0⟩
 | _=>none
theorem qnS (g:qeb.V->Option (OT qfd)) (v:qeb.V):q10q tb (envL e58) 51 qh4 (q3q 4 (q4q Tryd.f58) .skip) qeb qfd g v=qfc g v:=by kernel_rfl
theorem qnT (a_0:List Int) (n_1:Int):fnF tb (envL e58) Tryd.f58 qh4 c58.ps c58.rs (T:=(List Int)) (fun y=>(y.2.1)) (a_0,n_1,())=qg7 a_0 n_1:=by kernel_rfl
abbrev e61:List (Nat×Ctr):=[(42,c42)]
def qgj:LH
 | 8=>some ⟨qc1,qdN,lp qdM K0⟩
 | _=>none
theorem qlV (g:qc1.V->Option (OT qdN)) (v:qc1.V):q10q tb (envL e61) 38 qgj (q3q 4 (q4q Tryd.f61) .skip) qc1 qdN g v=qdM g v:=by kernel_rfl
theorem qlW (a_0:List Int) (d_1:Int):fnF tb (envL e61) Tryd.f61 qgj c61.ps c61.rs (T:=(List Int)×Int) (fun y=>(y.2.1,y.2.2.1)) (a_0,d_1,())=qjB a_0 d_1:=by kernel_rfl
abbrev e71:List (Nat×Ctr):=[(76,c76)]
def qds:LH
 | _=>none
theorem qf1 (x_0:Int):fnF tb (envL e71) Tryd.f71 qds c71.ps c71.rs (T:=Int) (fun y=>(y.2.1)) (x_0,())=qcT x_0:=by kernel_rfl
abbrev e77:List (Nat×Ctr):=[(63,c63)]
def qg6:LH
 | 6=>some ⟨qdA,qet,lp qes K0⟩
 | _=>none
theorem qmM (g:qdA.V->Option (OT qet)) (v:qdA.V):q10q tb (envL e77) 46 qg6 (q3q 3 (q4q Tryd.f77) .skip) qdA qet g v=qes g v:=by kernel_rfl
theorem qmN (u_0:List Int) (v_1:List Int) (times_2:Int):fnF tb (envL e77) Tryd.f77 qg6 c77.ps c77.rs (T:=(List Int)×Bool) (fun y=>(y.1.1,y.2.1)) (u_0,v_1,times_2,())=qkY u_0 v_1 times_2:=by kernel_rfl
abbrev e78:List (Nat×Ctr):=[(63,c63)]
def qg9:LH
 | 4=>some ⟨qdC,qey,lp qex K0⟩
 | _=>none
theorem qmU (g:qdC.V->Option (OT qey)) (v:qdC.V):q10q tb (envL e78) 29 qg9 (q3q 2 (q4q Tryd.f78) .skip) qdC qey g v=qex g v:=by kernel_rfl
theorem qmV (u_0:List Int) (v_1:List Int):fnF tb (envL e78) Tryd.f78 qg9 c78.ps c78.rs (T:=(List Int)) (fun y=>(y.1.1)) (u_0,v_1,())=qk0 u_0 v_1:=by kernel_rfl
abbrev e72:List (Nat×Ctr):=[(77,c77),(78,c78)]
def qgn:LH
 | 8=>some ⟨qc4,qdT,lp qdS K0⟩
 | _=>none
theorem ql4 (g:qc4.V->Option (OT qdT)) (v:qc4.V):q10q tb (envL e72) 77 qgn (q3q 4 (q4q Tryd.f72) .skip) qc4 qdT g v=qdS g v:=by kernel_rfl
theorem ql5 (a_0:List Int) (a_1:List Int):fnF tb (envL e72) Tryd.f72 qgn c72.ps c72.rs (T:=(List Int)×Int) (fun y=>(y.1.1,y.2.1)) (a_0,a_1,())=qjE a_0 a_1:=by kernel_rfl
abbrev e62:List (Nat×Ctr):=[(42,c42),(56,c56),(58,c58),(71,c71),(72,c72)]
def qg8:LH
 | 14=>some ⟨qdB,qew,lp qev K0⟩
 | _=>none
theorem qmQ (g:qdB.V->Option (OT qew)) (v:qdB.V):q10q tb (envL e62) 64 qg8 (q3q 7 (q4q Tryd.f62) .skip) qdB qew g v=qev g v:=by kernel_rfl
theorem qmR (a_0:List Int) (b_1:List Int):fnF tb (envL e62) Tryd.f62 qg8 c62.ps c62.rs (T:=(List Int)×(List Int)) (fun y=>(y.2.1,y.2.2.1)) (a_0,b_1,())=qkZ a_0 b_1:=by kernel_rfl
abbrev e44:List (Nat×Ctr):=[(28,c28),(31,c31),(57,c57),(61,c61),(62,c62)]
def qhF:LH
 | _=>none
theorem qk5 (a_0:List Int) (b_1:List Int):fnF tb (envL e44) Tryd.f44 qhF c44.ps c44.rs (T:=(List Int)×(List Int)×Int) (fun y=>(y.2.1,y.2.2.1,y.2.2.2.1)) (a_0,b_1,())=qdF a_0 b_1:=by kernel_rfl
abbrev e59:List (Nat×Ctr):=[(44,c44)]
def qjC:LH
 | _=>none
theorem qmO (a_0:List Int) (b_1:List Int):fnF tb (envL e59) Tryd.f59 qjC c59.ps c59.rs (T:=(List Int)×(List Int)) (fun y=>(y.2.1,y.2.2.1)) (a_0,b_1,())=qiU a_0 b_1:=by kernel_rfl
abbrev e60:List (Nat×Ctr):=[(42,c42),(63,c63)]
def qgl:LH
 | 8=>some ⟨qc3,qdR,lp qdQ K0⟩
 | _=>none
theorem ql1 (g:qc3.V->Option (OT qdR)) (v:qc3.V):q10q tb (envL e60) 39 qgl (q3q 4 (q4q Tryd.f60) .skip) qc3 qdR g v=qdQ g v:=by kernel_rfl
theorem ql2 (a_0:List Int) (b_1:List Int):fnF tb (envL e60) Tryd.f60 qgl c60.ps c60.rs (T:=(List Int)) (fun y=>(y.2.1)) (a_0,b_1,())=qgm a_0 b_1:=by kernel_rfl
abbrev e43:List (Nat×Ctr):=[(28,c28),(54,c54),(55,c55),(56,c56),(57,c57),(58,c58),(59,c59),(60,c60)]
def qh6:LH
 | 20=>some ⟨qdE,qez,lp qdD K0⟩
 | _=>none
theorem qmX (g:qdE.V->Option (OT qez)) (v:qdE.V):q10q tb (envL e43) 86 qh6 (q3q 10 (q4q Tryd.f43) .skip) qdE qez g v=qdD g v:=by kernel_rfl
theorem qn0 (a_0:List Int) (a_1:List Int):fnF tb (envL e43) Tryd.f43 qh6 c43.ps c43.rs (T:=(List Int)) (fun y=>(y.2.1)) (a_0,a_1,())=qmY a_0 a_1:=by kernel_rfl
abbrev e29:List (Nat×Ctr):=[(31,c31),(43,c43),(44,c44)]
def qho:LH
 | _=>none
theorem qkQ (num_0:WH) (den_1:List Int):fnF tb (envL e29) Tryd.f29 qho c29.ps c29.rs (T:=RAT) (fun y=>(y.2.1)) (num_0,den_1,())=qdv num_0 den_1:=by kernel_rfl
abbrev e45:List (Nat×Ctr):=[]
def qhf:LH
 | _=>none
theorem qkA (neg_0:Bool) (abs_1:List Int):fnF tb (envL e45) Tryd.f45 qhf c45.ps c45.rs (T:=WH) (fun y=>(y.2.1)) (neg_0,abs_1,())=qbN neg_0 abs_1:=by kernel_rfl
abbrev e30:List (Nat×Ctr):=[(28,c28),(45,c45)]
def qgT:LH
 | _=>none
theorem qjT (a_0:WH):fnF tb (envL e30) Tryd.f30 qgT c30.ps c30.rs (T:=WH) (fun y=>(y.2.1)) (a_0,())=qaZ a_0:=by kernel_rfl
abbrev e16:List (Nat×Ctr):=[(17,c17),(28,c28),(29,c29),(30,c30)]
def qgX:LH
 | _=>none
theorem qj3 (a_0:RAT):fnF tb (envL e16) Tryd.f16 qgX c16.ps c16.rs (T:=RAT) (fun y=>(y.2.1)) (a_0,())=qa0 a_0:=by kernel_rfl
abbrev e46:List (Nat×Ctr):=[(28,c28),(42,c42),(63,c63)]
def qh7:LH
 | 10=>some ⟨qee,qfk,lp qfj K0⟩
 | _=>none
theorem qn3 (g:qee.V->Option (OT qfk)) (v:qee.V):q10q tb (envL e46) 43 qh7 (q3q 5 (q4q Tryd.f46) .skip) qee qfk g v=qfj g v:=by kernel_rfl
theorem qn4 (a_0:List Int) (b_1:List Int):fnF tb (envL e46) Tryd.f46 qh7 c46.ps c46.rs (T:=(List Int)) (fun y=>(y.2.1)) (a_0,b_1,())=qmZ a_0 b_1:=by kernel_rfl
abbrev e47:List (Nat×Ctr):=[(28,c28),(57,c57)]
def qkm:LH
 | _=>none
theorem qn1 (a_0:List Int) (b_1:List Int):fnF tb (envL e47) Tryd.f47 qkm c47.ps c47.rs (T:=Int) (fun y=>(y.2.1)) (a_0,b_1,())=qha a_0 b_1:=by kernel_rfl
abbrev e48:List (Nat×Ctr):=[(28,c28),(57,c57),(60,c60)]
def qkl:LH
 | _=>none
theorem qnU (a_0:List Int) (b_1:List Int):fnF tb (envL e48) Tryd.f48 qkl c48.ps c48.rs (T:=(List Int)×Int) (fun y=>(y.2.1,y.2.2.1)) (a_0,b_1,())=qk4 a_0 b_1:=by kernel_rfl
abbrev e32:List (Nat×Ctr):=[(30,c30),(45,c45),(46,c46),(47,c47),(48,c48)]
def qin:LH
 | _=>none
theorem qlp (a_0:WH) (b_1:WH):fnF tb (envL e32) Tryd.f32 qin c32.ps c32.rs (T:=WH) (fun y=>(y.2.1)) (a_0,b_1,())=qi1 a_0 b_1:=by kernel_rfl
abbrev e35:List (Nat×Ctr):=[(28,c28),(42,c42)]
def qgL:LH
 | 16=>some ⟨qec,qfh,lp qff K0⟩
 | 8=>some ⟨qed,qfi,lp qfg K0⟩
 | _=>none
theorem qnX (g:qec.V->Option (OT qfh)) (v:qec.V):q10q tb (envL e35) 67 qgL (q3q 8 (q4q Tryd.f35) .skip) qec qfh g v=qff g v:=by kernel_rfl
theorem qnY (g:qed.V->Option (OT qfi)) (v:qed.V):q10q tb (envL e35) 67 qgL (q3q 4 (q4q Tryd.f35) .skip) qed qfi g v=qfg g v:=by kernel_rfl
theorem qnZ (a_0:List Int) (a_1:List Int):fnF tb (envL e35) Tryd.f35 qgL c35.ps c35.rs (T:=(List Int)) (fun y=>(y.2.1)) (a_0,a_1,())=qjF a_0 a_1:=by kernel_rfl
abbrev e33:List (Nat×Ctr):=[(30,c30),(35,c35),(45,c45)]
def qil:LH
 | _=>none
theorem qln (a_0:WH) (b_1:WH):fnF tb (envL e33) Tryd.f33 qil c33.ps c33.rs (T:=WH) (fun y=>(y.2.1)) (a_0,b_1,())=qeg a_0 b_1:=by kernel_rfl
abbrev e34:List (Nat×Ctr):=[]
def qit:LH
 | _=>none
theorem qlz (a_0:RAT):fnF tb (envL e34) Tryd.f34 qit c34.ps c34.rs (T:=WH) (fun y=>(y.2.1)) (a_0,())=qek a_0:=by kernel_rfl
abbrev e18:List (Nat×Ctr):=[(16,c16),(29,c29),(32,c32),(33,c33),(34,c34),(35,c35)]
def qiB:LH
 | _=>none
theorem qlK (a_0:RAT) (b_1:RAT):fnF tb (envL e18) Tryd.f18 qiB c18.ps c18.rs (T:=RAT) (fun y=>(y.2.1)) (a_0,b_1,())=qdc a_0 b_1:=by kernel_rfl
abbrev e13:List (Nat×Ctr):=[(17,c17),(18,c18)]
def qf6:LH
 | 6=>some ⟨qcU,qdI,lp qdH K0⟩
 | _=>none
theorem qlB (g:qcU.V->Option (OT qdI)) (v:qcU.V):q10q tb (envL e13) 18 qf6 (q3q 3 (q4q Tryd.f13) .skip) qcU qdI g v=qdH g v:=by kernel_rfl
theorem qlC (l_0:List RAT):fnF tb (envL e13) Tryd.f13 qf6 c13.ps c13.rs (T:=RAT) (fun y=>(y.2.1)) (l_0,())=qjn l_0:=by kernel_rfl
abbrev e19:List (Nat×Ctr):=[(16,c16),(29,c29),(33,c33),(35,c35)]
def qix:LH
 | _=>none
theorem qlG (a_0:RAT) (b_1:RAT):fnF tb (envL e19) Tryd.f19 qix c19.ps c19.rs (T:=RAT) (fun y=>(y.2.1)) (a_0,b_1,())=qaE a_0 b_1:=by kernel_rfl
abbrev e27:List (Nat×Ctr):=[(30,c30)]
def qhg:LH
 | _=>none
theorem qkB (a_0:WH):fnF tb (envL e27) Tryd.f27 qhg c27.ps c27.rs (T:=Int) (fun y=>(y.2.1)) (a_0,())=qgF a_0:=by kernel_rfl
abbrev e49:List (Nat×Ctr):=[(30,c30),(45,c45)]
def qik:LH
 | _=>none
theorem qlm (a_0:WH):fnF tb (envL e49) Tryd.f49 qik c49.ps c49.rs (T:=WH) (fun y=>(y.2.1)) (a_0,())=qhi a_0:=by kernel_rfl
abbrev e36:List (Nat×Ctr):=[(27,c27),(29,c29),(30,c30),(49,c49)]
def qhu:LH
 | _=>none
theorem qkU (num_0:WH) (den_1:WH):fnF tb (envL e36) Tryd.f36 qhu c36.ps c36.rs (T:=RAT×Int) (fun y=>(y.2.1,y.2.2.1)) (num_0,den_1,())=qgK num_0 den_1:=by kernel_rfl
abbrev e37:List (Nat×Ctr):=[(31,c31),(45,c45)]
def qiZ:LH
 | _=>none
theorem qmy (n_0:Int):fnF tb (envL e37) Tryd.f37 qiZ c37.ps c37.rs (T:=WH) (fun y=>(y.2.1)) (n_0,())=qhh n_0:=by kernel_rfl
abbrev e20:List (Nat×Ctr):=[(16,c16),(36,c36),(37,c37)]
def qhw:LH
 | _=>none
theorem qkV (n_0:Int) (d_1:Int):fnF tb (envL e20) Tryd.f20 qhw c20.ps c20.rs (T:=RAT) (fun y=>(y.2.1)) (n_0,d_1,())=qch n_0 d_1:=by kernel_rfl
abbrev e25:List (Nat×Ctr):=[(16,c16),(34,c34),(36,c36)]
def qiy:LH
 | _=>none
theorem qlH (a_0:RAT):fnF tb (envL e25) Tryd.f25 qiy c25.ps c25.rs (T:=RAT×Int) (fun y=>(y.2.1,y.2.2.1)) (a_0,())=qhv a_0:=by kernel_rfl
abbrev e41:List (Nat×Ctr):=[(16,c16),(49,c49)]
def qiw:LH
 | _=>none
theorem qlF (a_0:RAT):fnF tb (envL e41) Tryd.f41 qiw c41.ps c41.rs (T:=RAT) (fun y=>(y.2.1)) (a_0,())=qht a_0:=by kernel_rfl
abbrev e26:List (Nat×Ctr):=[(18,c18),(41,c41)]
def qiu:LH
 | _=>none
theorem qlD (a_0:RAT) (b_1:RAT):fnF tb (envL e26) Tryd.f26 qiu c26.ps c26.rs (T:=RAT) (fun y=>(y.2.1)) (a_0,b_1,())=qjo a_0 b_1:=by kernel_rfl
abbrev e14:List (Nat×Ctr):=[(19,c19),(20,c20),(25,c25),(26,c26)]
def qbB:LH
 | 14=>some ⟨qaq,qaG,lp qaF K0⟩
 | _=>none
theorem qe0 (g:qaq.V->Option (OT qaG)) (v:qaq.V):q10q tb (envL e14) 104 qbB (q3q 7 (q4q Tryd.f14) .skip) qaq qaG g v=qaF g v:=by kernel_rfl
theorem qe1 (a_0:Int) (b_1:List (Int×RAT×CELL)):fnFB tb (envL e14) Tryd.f14 qbB w14 c14.ps c14.rs (T:=(List RAT)×(List (Int×RAT×CELL))) (fun y=>(y.2.1,y.2.2.1)) (a_0,b_1,())=qbk a_0 b_1:=by kernel_rfl
abbrev e4:List (Nat×Ctr):=[(13,c13),(14,c14)]
def qdZ:LH
 | _=>none
theorem qgQ (at_0:Int) (b_1:List (Int×RAT×CELL)):fnFB tb (envL e4) Tryd.f4 qdZ w4 c4.ps c4.rs (T:=RAT×Int×(List (Int×RAT×CELL))) (fun y=>(y.2.1,y.2.2.1,y.2.2.2.1)) (at_0,b_1,())=qbD at_0 b_1:=by kernel_rfl
abbrev e4vN:List (Nat×Ctr):=[]
def qdd:LH
 | _=>none
theorem qfD (at_0:Int):fnFB tb (envL e4vN) Tryd.f4 qdd w4vN c4vN.ps c4vN.rs (T:=RAT×Int) (fun y=>(y.2.1,y.2.2.1)) (at_0,())=qbq at_0:=by kernel_rfl
abbrev e5:List (Nat×Ctr):=[]
def qd0:LH
 | _=>none
theorem qgR (b_0:List (Int×RAT×CELL)):fnFB tb (envL e5) Tryd.f5 qd0 w5 c5.ps c5.rs (T:=Int×(List (Int×RAT×CELL))) (fun y=>(y.2.1,y.2.2.1)) (b_0,())=qci b_0:=by kernel_rfl
abbrev e5vN:List (Nat×Ctr):=[]
def qde:LH
 | _=>none
theorem qfE :fnFB tb (envL e5vN) Tryd.f5 qde w5vN c5vN.ps c5vN.rs (T:=Int) (fun y=>(y.2.1)) ()=qbr :=by kernel_rfl
abbrev e6:List (Nat×Ctr):=[]
def qb8:LH
 | 8=>some ⟨qaI,qa2,lp qam K0⟩
 | _=>none
theorem qf9 (g:qaI.V->Option (OT qa2)) (v:qaI.V):q10q tb (envL e6) 29 qb8 (q3q 4 (q4q Tryd.f6) .skip) qaI qa2 g v=qam g v:=by kernel_rfl
theorem qga (feature_0:Int) (b_1:List (Int×RAT×CELL)):fnFB tb (envL e6) Tryd.f6 qb8 w6 c6.ps c6.rs (T:=Int×(List (Int×RAT×CELL))) (fun y=>(y.2.1,y.2.2.1)) (feature_0,b_1,())=qaU feature_0 b_1:=by kernel_rfl
abbrev e6vN:List (Nat×Ctr):=[]
def qcY:LH
 | _=>none
theorem qe5 (feature_0:Int):fnFB tb (envL e6vN) Tryd.f6 qcY w6vN c6vN.ps c6vN.rs (T:=Int) (fun y=>(y.2.1)) (feature_0,())=qbl feature_0:=by kernel_rfl
abbrev e7vN:List (Nat×Ctr):=[]
def qcZ:LH
 | _=>none
theorem qe8 :fnFB tb (envL e7vN) Tryd.f7 qcZ w7vN c7vN.ps c7vN.rs (T:=Unit) (fun y=>()) ()=qbm :=by kernel_rfl
abbrev e15:List (Nat×Ctr):=[(16,c16),(27,c27)]
def qhq:LH
 | _=>none
theorem qkS (a_0:RAT):fnF tb (envL e15) Tryd.f15 qhq c15.ps c15.rs (T:=Int) (fun y=>(y.2.1)) (a_0,())=qgI a_0:=by kernel_rfl
abbrev e8:List (Nat×Ctr):=[(6,c6),(15,c15),(16,c16),(17,c17),(18,c18),(19,c19),(20,c20)]
def qbJ:LH
 | 20=>some ⟨qas,qaK,lp qaJ K0⟩
 | _=>none
theorem qe7 (g:qas.V->Option (OT qaK)) (v:qas.V):q10q tb (envL e8) 113 qbJ (q3q 10 (q4q Tryd.f8) .skip) qas qaK g v=qaJ g v:=by kernel_rfl
theorem qfF (a_0:Int) (a_1:RAT) (a_2:Bool) (b_3:List (Int×RAT×CELL)):fnFB tb (envL e8) Tryd.f8 qbJ w8 c8.ps c8.rs (T:=Int×(List (Int×RAT×CELL))) (fun y=>(y.2.1,y.2.2.1)) (a_0,a_1,a_2,b_3,())=qay a_0 a_1 a_2 b_3:=by kernel_rfl
abbrev e8vN:List (Nat×Ctr):=[]
def qcs:LH
 | _=>none
theorem qeD (a_0:Int) (a_1:RAT) (a_2:Bool):fnFB tb (envL e8vN) Tryd.f8 qcs w8vN c8vN.ps c8vN.rs (T:=Int) (fun y=>(y.2.1)) (a_0,a_1,a_2,())=qbb a_0 a_1 a_2:=by kernel_rfl
abbrev e9:List (Nat×Ctr):=[(14,c14)]
def qbI:LH
 | 16=>some ⟨qaw,qaT,lp qaS K0⟩
 | _=>none
theorem qfB (g:qaw.V->Option (OT qaT)) (v:qaw.V):q10q tb (envL e9) 66 qbI (q3q 8 (q4q Tryd.f9) .skip) qaw qaT g v=qaS g v:=by kernel_rfl
theorem qfC (a_0:Int) (b_1:List (Int×RAT×CELL)):fnFB tb (envL e9) Tryd.f9 qbI w9 c9.ps c9.rs (T:=Int×(List (Int×RAT×CELL))) (fun y=>(y.2.1,y.2.2.1)) (a_0,b_1,())=qaX a_0 b_1:=by kernel_rfl
abbrev e9vN:List (Nat×Ctr):=[]
def qcr:LH
 | _=>none
theorem qeC (a_0:Int):fnFB tb (envL e9vN) Tryd.f9 qcr w9vN c9vN.ps c9vN.rs (T:=Int) (fun y=>(y.2.1)) (a_0,())=qba a_0:=by kernel_rfl
abbrev e10:List (Nat×Ctr):=[]
def qbC:LH
 | 10=>some ⟨qar,qaH,lp qah K0⟩
 | _=>none
theorem qe3 (g:qar.V->Option (OT qaH)) (v:qar.V):q10q tb (envL e10) 24 qbC (q3q 5 (q4q Tryd.f10) .skip) qar qaH g v=qah g v:=by kernel_rfl
theorem qe4 (b_0:List (Int×RAT×CELL)):fnFB tb (envL e10) Tryd.f10 qbC w10 c10.ps c10.rs (T:=(List RAT)×(List (Int×RAT×CELL))) (fun y=>(y.2.1,y.2.2.1)) (b_0,())=qa1 b_0:=by kernel_rfl
abbrev qqu:List (Nat×Ctr):=[]
def qb7:LH
 | _=>none
theorem qen :fnFB tb (envL qqu) Tryd.f10 qb7 qp6 qoZ.ps qoZ.rs (T:=(List RAT)) (fun y=>(y.2.1)) ()=qa4 :=by kernel_rfl
abbrev e11:List (Nat×Ctr):=[]
def qbS:LH
 | 10=>some ⟨qaA,qaY,lp qak K0⟩
 | _=>none
theorem qfZ (g:qaA.V->Option (OT qaY)) (v:qaA.V):q10q tb (envL e11) 32 qbS (q3q 5 (q4q Tryd.f11) .skip) qaA qaY g v=qak g v:=by kernel_rfl
theorem qf0 (b_0:List (Int×RAT×CELL)):fnFB tb (envL e11) Tryd.f11 qbS w11 c11.ps c11.rs (T:=(List PART)×(List (Int×RAT×CELL))) (fun y=>(y.2.1,y.2.2.1)) (b_0,())=qaC b_0:=by kernel_rfl
abbrev qqt:List (Nat×Ctr):=[]
def qcL:LH
 | _=>none
theorem qeI :fnFB tb (envL qqt) Tryd.f11 qcL qp5 qoY.ps qoY.rs (T:=(List PART)) (fun y=>(y.2.1)) ()=qbf :=by kernel_rfl
abbrev e21:List (Nat×Ctr):=[(31,c31),(37,c37)]
def qjp:LH
 | _=>none
theorem qmF (n_0:Int):fnF tb (envL e21) Tryd.f21 qjp c21.ps c21.rs (T:=RAT) (fun y=>(y.2.1)) (n_0,())=qhs n_0:=by kernel_rfl
abbrev e22:List (Nat×Ctr):=[(21,c21)]
def qiv:LH
 | _=>none
theorem qlE :fnF tb (envL e22) Tryd.f22 qiv c22.ps c22.rs (T:=RAT) (fun y=>(y.2.1)) ()=qdb :=by kernel_rfl
abbrev e79:List (Nat×Ctr):=[]
def qd2:LH
 | 18=>some ⟨qck,qdm,lp qdk K0⟩
 | 8=>some ⟨qcl,qdn,lp qdl K0⟩
 | _=>none
theorem qk8 (g:qck.V->Option (OT qdm)) (v:qck.V):q10q tb (envL e79) 72 qd2 (q3q 9 (q4q Tryd.f79) .skip) qck qdm g v=qdk g v:=by kernel_rfl
theorem qk9 (g:qcl.V->Option (OT qdn)) (v:qcl.V):q10q tb (envL e79) 72 qd2 (q3q 4 (q4q Tryd.f79) .skip) qcl qdn g v=qdl g v:=by kernel_rfl
theorem qla (a_0:qhP):fnF tb (envL e79) Tryd.f79 qd2 c79.ps c79.rs (T:=Bool) (fun y=>(y.2.1)) (a_0,())=qh8 a_0:=by kernel_rfl
abbrev e80:List (Nat×Ctr):=[]
def qeh:LH
 | 4=>some ⟨qbv,qb1,lp qb0 K0⟩
 | _=>none
theorem qi9 (g:qbv.V->Option (OT qb1)) (v:qbv.V):q10q tb (envL e80) 52 qeh (q3q 2 (q4q Tryd.f80) .skip) qbv qb1 g v=qb0 g v:=by kernel_rfl
theorem qja (t_0:List NODE) (features_1:Int):fnF tb (envL e80) Tryd.f80 qeh c80.ps c80.rs (T:=Int×Int) (fun y=>(y.2.1,y.2.2.1)) (t_0,features_1,())=qf3 t_0 features_1:=by kernel_rfl
abbrev e81:List (Nat×Ctr):=[]
def qbO:LH
 | 6=>some ⟨qbP,qcy,lp qcx K0⟩
 | 20=>some ⟨qbu,qbZ,lp qbW K0⟩
 | 34=>some ⟨qbt,qbY,lp qbV K0⟩
 | 50=>some ⟨qbs,qbX,lp qbU K0⟩
 | _=>none
theorem qjV (g:qbP.V->Option (OT qcy)) (v:qbP.V):q10q tb (envL e81) 103 qbO (q3q 3 (q4q Tryd.f81) .skip) qbP qcy g v=qcx g v:=by kernel_rfl
theorem qi7 (g:qbu.V->Option (OT qbZ)) (v:qbu.V):q10q tb (envL e81) 103 qbO (q3q 10 (q4q Tryd.f81) .skip) qbu qbZ g v=qbW g v:=by kernel_rfl
theorem qi6 (g:qbt.V->Option (OT qbY)) (v:qbt.V):q10q tb (envL e81) 103 qbO (q3q 17 (q4q Tryd.f81) .skip) qbt qbY g v=qbV g v:=by kernel_rfl
theorem qi5 (g:qbs.V->Option (OT qbX)) (v:qbs.V):q10q tb (envL e81) 103 qbO (q3q 25 (q4q Tryd.f81) .skip) qbs qbX g v=qbU g v:=by kernel_rfl
theorem qjW (a_0:List NODE):fnF tb (envL e81) Tryd.f81 qbO c81.ps c81.rs (T:=Int×Int) (fun y=>(y.2.1,y.2.2.1)) (a_0,())=qg3 a_0:=by kernel_rfl
abbrev e82:List (Nat×Ctr):=[(15,c15)]
def qei:LH
 | 4=>some ⟨qbw,qb3,lp qb2 K0⟩
 | _=>none
theorem qjc (g:qbw.V->Option (OT qb3)) (v:qbw.V):q10q tb (envL e82) 19 qei (q3q 2 (q4q Tryd.f82) .skip) qbw qb3 g v=qb2 g v:=by kernel_rfl
theorem qjd (t_0:List NODE):fnF tb (envL e82) Tryd.f82 qei c82.ps c82.rs (T:=Int×Int) (fun y=>(y.2.1,y.2.2.1)) (t_0,())=qf4 t_0:=by kernel_rfl
abbrev e53:List (Nat×Ctr):=[(30,c30),(47,c47)]
def qim:LH
 | _=>none
theorem qlo (a_0:WH) (b_1:WH):fnF tb (envL e53) Tryd.f53 qim c53.ps c53.rs (T:=Int) (fun y=>(y.2.1)) (a_0,b_1,())=qi0 a_0 b_1:=by kernel_rfl
abbrev e40:List (Nat×Ctr):=[(16,c16),(33,c33),(34,c34),(53,c53)]
def qiA:LH
 | _=>none
theorem qlJ (a_0:RAT) (b_1:RAT):fnF tb (envL e40) Tryd.f40 qiA c40.ps c40.rs (T:=Int) (fun y=>(y.2.1)) (a_0,b_1,())=qhx a_0 b_1:=by kernel_rfl
abbrev e24:List (Nat×Ctr):=[(40,c40)]
def qhr:LH
 | _=>none
theorem qkT (a_0:RAT) (b_1:RAT):fnF tb (envL e24) Tryd.f24 qhr c24.ps c24.rs (T:=Bool) (fun y=>(y.2.1)) (a_0,b_1,())=qgJ a_0 b_1:=by kernel_rfl
abbrev e83:List (Nat×Ctr):=[(18,c18),(24,c24)]
def qfp:LH
 | 4=>some ⟨qcf,qc7,lp qc6 K0⟩
 | _=>none
theorem qkD (g:qcf.V->Option (OT qc7)) (v:qcf.V):q10q tb (envL e83) 37 qfp (q3q 2 (q4q Tryd.f83) .skip) qcf qc7 g v=qc6 g v:=by kernel_rfl
theorem qkE (t_0:List NODE):fnF tb (envL e83) Tryd.f83 qfp c83.ps c83.rs (T:=Int×Int) (fun y=>(y.2.1,y.2.2.1)) (t_0,())=qhT t_0:=by kernel_rfl
abbrev e84:List (Nat×Ctr):=[]
def qgU:LH
 | _=>none
theorem qjX (e_0:Int) (tree_1:Int) (node_2:Int):fnF tb (envL e84) Tryd.f84 qgU c84.ps c84.rs (T:=(Int×Int×Int×Int)) (fun y=>(y.2.1)) (e_0,tree_1,node_2,())=qcQ e_0 tree_1 node_2:=by kernel_rfl
abbrev e73:List (Nat×Ctr):=[(79,c79),(80,c80),(81,c81),(82,c82),(83,c83),(84,c84)]
def qdG:LH
 | 14=>some ⟨qbQ,qcB,lp qcz K0⟩
 | 8=>some ⟨qbR,qcC,lp qcA K0⟩
 | _=>none
theorem qj0 (g:qbQ.V->Option (OT qcB)) (v:qbQ.V):q10q tb (envL e73) 63 qdG (q3q 7 (q4q Tryd.f73) .skip) qbQ qcB g v=qcz g v:=by kernel_rfl
theorem qj1 (g:qbR.V->Option (OT qcC)) (v:qbR.V):q10q tb (envL e73) 63 qdG (q3q 4 (q4q Tryd.f73) .skip) qbR qcC g v=qcA g v:=by kernel_rfl
theorem qj2 (m_0:qhP):fnF tb (envL e73) Tryd.f73 qdG c73.ps c73.rs (T:=(Int×Int×Int×Int)) (fun y=>(y.2.1)) (m_0,())=qg4 m_0:=by kernel_rfl
abbrev e64:List (Nat×Ctr):=[(73,c73)]
def qje:LH
 | _=>none
theorem qmz (m_0:qhP):fnF tb (envL e64) Tryd.f64 qje c64.ps c64.rs (T:=Bool) (fun y=>(y.2.1)) (m_0,())=qkF m_0:=by kernel_rfl
abbrev e50:List (Nat×Ctr):=[(64,c64)]
def qhl:LH
 | _=>none
theorem qkN (m_0:qhP) (row_1:List CELL):fnF tb (envL e50) Tryd.f50 qhl c50.ps c50.rs (T:=Int) (fun y=>(y.2.1)) (m_0,row_1,())=qhW m_0 row_1:=by kernel_rfl
abbrev e38:List (Nat×Ctr):=[(50,c50)]
def qhn:LH
 | _=>none
theorem qkP (m_0:qhP) (row_1:List CELL):fnF tb (envL e38) Tryd.f38 qhn c38.ps c38.rs (T:=Int) (fun y=>(y.2.1)) (m_0,row_1,())=qhY m_0 row_1:=by kernel_rfl
abbrev e51:List (Nat×Ctr):=[(17,c17)]
def qdx:LH
 | 6=>some ⟨qbc,qbz,lp qby K0⟩
 | _=>none
theorem qh1 (g:qbc.V->Option (OT qbz)) (v:qbc.V):q10q tb (envL e51) 13 qdx (q3q 3 (q4q Tryd.f51) .skip) qbc qbz g v=qby g v:=by kernel_rfl
theorem qh2 (n_0:Int):fnF tb (envL e51) Tryd.f51 qdx c51.ps c51.rs (T:=(List RAT)) (fun y=>(y.2.1)) (n_0,())=qeH n_0:=by kernel_rfl
abbrev e65:List (Nat×Ctr):=[(22,c22)]
def qgc:LH
 | _=>none
theorem qjy :fnFB tb (envL e65) Tryd.f65 qgc w65 c65.ps c65.rs (T:=(List (Int×RAT×CELL))) (fun y=>(y.2.1)) ()=qgd :=by kernel_rfl
abbrev e66:List (Nat×Ctr):=[(6,c6),(8,c8),(9,c9),(11,c11),(19,c19)]
def qdr:LH
 | _=>none
theorem qfX (b_0:Int) (b_1:Bool) (b_2:List Int) (b_3:List Int) (b_4:Int) (b_5:Bool) (b_6:List Int) (b_7:List Int) (b_8:Bool) (b_9:List (Int×RAT×CELL)):fnFB tb (envL e66) Tryd.f66 qdr w66 c66.ps c66.rs (T:=Int×Bool×(List Int)×(List Int)×Int×Bool×(List Int)×(List Int)×Bool×(List (Int×RAT×CELL))) (fun y=>(y.2.1,y.2.2.1,y.2.2.2.1,y.2.2.2.2.1,y.2.2.2.2.2.1,y.2.2.2.2.2.2.1,y.2.2.2.2.2.2.2.1,y.2.2.2.2.2.2.2.2.1,y.2.2.2.2.2.2.2.2.2.1,y.2.2.2.2.2.2.2.2.2.2.1)) (b_0,b_1,b_2,b_3,b_4,b_5,b_6,b_7,b_8,b_9,())=qcS b_0 b_1 b_2 b_3 b_4 b_5 b_6 b_7 b_8 b_9:=by kernel_rfl
abbrev e67:List (Nat×Ctr):=[(4,c4),(11,c11),(18,c18),(19,c19),(22,c22),(41,c41)]
def qbH:LH
 | 6=>some ⟨qav,qaR,lp qaQ K0⟩
 | _=>none
theorem qfy (g:qav.V->Option (OT qaR)) (v:qav.V):q10q tb (envL e67) 69 qbH (q3q 3 (q4q Tryd.f67) .skip) qav qaR g v=qaQ g v:=by kernel_rfl
theorem qfz (a_0:Int) (a_1:Bool) (a_2:List Int) (a_3:List Int) (a_4:Int) (a_5:Bool) (a_6:List Int) (a_7:List Int) (a_8:Bool) (b_9:List NODE) (b_10:List CELL) (b_11:Int) (b_12:Bool) (b_13:List RAT) (b_14:List (Int×RAT×CELL)):fnFB tb (envL e67) Tryd.f67 qbH w67 c67.ps c67.rs (T:=(List RAT)×(List NODE)×(List CELL)×Int×Bool×(List (Int×RAT×CELL))) (fun y=>(y.1.1,y.2.1,y.2.2.1,y.2.2.2.1,y.2.2.2.2.1,y.2.2.2.2.2.1)) (a_0,a_1,a_2,a_3,a_4,a_5,a_6,a_7,a_8,b_9,b_10,b_11,b_12,b_13,b_14,())=qcw a_0 a_1 a_2 a_3 a_4 a_5 a_6 a_7 a_8 b_9 b_10 b_11 b_12 b_13 b_14:=by kernel_rfl
abbrev e7:List (Nat×Ctr):=[]
def qdJ:LH
 | _=>none
theorem qgb (b_0:List (Int×RAT×CELL)):fnFB tb (envL e7) Tryd.f7 qdJ w7 c7.ps c7.rs (T:=(List (Int×RAT×CELL))×(List (Int×RAT×CELL))) (fun y=>(y.2.1,y.2.2.1)) (b_0,())=qdh b_0:=by kernel_rfl
abbrev e74:List (Nat×Ctr):=[(19,c19),(25,c25)]
def qiz:LH
 | _=>none
theorem qlI (a_0:RAT) (b_1:RAT):fnF tb (envL e74) Tryd.f74 qiz c74.ps c74.rs (T:=RAT×Int) (fun y=>(y.2.1,y.2.2.1)) (a_0,b_1,())=qjq a_0 b_1:=by kernel_rfl
abbrev e85:List (Nat×Ctr):=[(40,c40)]
def qhk:LH
 | _=>none
theorem qkM (n_0:NODE) (c_1:CELL):fnF tb (envL e85) Tryd.f85 qhk c85.ps c85.rs (T:=Bool) (fun y=>(y.2.1)) (n_0,c_1,())=qhV n_0 c_1:=by kernel_rfl
abbrev e75:List (Nat×Ctr):=[(85,c85)]
def qhm:LH
 | _=>none
theorem qkO (n_0:NODE) (c_1:CELL):fnF tb (envL e75) Tryd.f75 qhm c75.ps c75.rs (T:=Bool) (fun y=>(y.2.1)) (n_0,c_1,())=qhX n_0 c_1:=by kernel_rfl
abbrev e68:List (Nat×Ctr):=[(7,c7),(19,c19),(74,c74),(75,c75)]
def qcV:LH
 | _=>none
theorem qeW (a_0:Int) (a_1:Bool) (a_2:List Int) (a_3:List Int) (a_4:Int) (a_5:Bool) (a_6:List Int) (a_7:List Int) (a_8:Bool) (a_9:Int) (a_10:Bool) (b_11:List NODE) (b_12:List CELL) (b_13:Int) (b_14:Bool) (b_15:List RAT) (b_16:List (Int×RAT×CELL)):fnFB tb (envL e68) Tryd.f68 qcV w68 c68.ps c68.rs (T:=(List RAT)×Int×Bool×(List Int)×(List Int)×Int×Bool×(List Int)×(List Int)×Bool×Bool×(List NODE)×(List CELL)×Int×Bool×(List (Int×RAT×CELL))×(List (Int×RAT×CELL))) (fun y=>(y.1.1,y.2.1,y.2.2.1,y.2.2.2.1,y.2.2.2.2.1,y.2.2.2.2.2.1,y.2.2.2.2.2.2.1,y.2.2.2.2.2.2.2.1,y.2.2.2.2.2.2.2.2.1,y.2.2.2.2.2.2.2.2.2.1,y.2.2.2.2.2.2.2.2.2.2.1,y.2.2.2.2.2.2.2.2.2.2.2.1,y.2.2.2.2.2.2.2.2.2.2.2.2.1,y.2.2.2.2.2.2.2.2.2.2.2.2.2.1,y.2.2.2.2.2.2.2.2.2.2.2.2.2.2.1,y.2.2.2.2.2.2.2.2.2.2.2.2.2.2.2.1,y.2.2.2.2.2.2.2.2.2.2.2.2.2.2.2.2.1)) (a_0,a_1,a_2,a_3,a_4,a_5,a_6,a_7,a_8,a_9,a_10,b_11,b_12,b_13,b_14,b_15,b_16,())=qbj a_0 a_1 a_2 a_3 a_4 a_5 a_6 a_7 a_8 a_9 a_10 b_11 b_12 b_13 b_14 b_15 b_16:=by kernel_rfl
abbrev e52:List (Nat×Ctr):=[(22,c22),(65,c65),(66,c66),(67,c67),(68,c68)]
def qa9:LH
 | 18=>some ⟨qat,qaO,lp qaM K0⟩
 | 2=>some ⟨qau,qaP,lp qaN K0⟩
 | _=>none
theorem qfu (g:qat.V->Option (OT qaO)) (v:qat.V):q10q tb (envL e52) 91 qa9 (q3q 9 (q4q Tryd.f52) .skip) qat qaO g v=qaM g v:=by kernel_rfl
theorem qfv (g:qau.V->Option (OT qaP)) (v:qau.V):q10q tb (envL e52) 91 qa9 (q3q 1 (q4q Tryd.f52) .skip) qau qaP g v=qaN g v:=by kernel_rfl
theorem qfw (b_0:List NODE) (b_1:List CELL) (b_2:Int) (b_3:Bool) (b_4:List RAT) (b_5:List (Int×(Option ((Option (List (Int×RAT×CELL)))×Unit))×RAT×PART)):fnFB tb (envL e52) Tryd.f52 qa9 w52 c52.ps c52.rs (T:=(List RAT)×(List NODE)×(List CELL)×Int×Bool×(List (Int×(Option ((Option (List (Int×RAT×CELL)))×Unit))×RAT×PART))) (fun y=>(y.1.1,y.2.1,y.2.2.1,y.2.2.2.1,y.2.2.2.2.1,y.2.2.2.2.2.1)) (b_0,b_1,b_2,b_3,b_4,b_5,())=qcv b_0 b_1 b_2 b_3 b_4 b_5:=by kernel_rfl
abbrev e39:List (Nat×Ctr):=[(51,c51),(52,c52)]
def qel:LH
 | 6=>some ⟨qbA,qb6,lp qb5 K0⟩
 | _=>none
theorem qjw (g:qbA.V->Option (OT qb6)) (v:qbA.V):q10q tb (envL e39) 34 qel (q3q 3 (q4q Tryd.f39) .skip) qbA qb6 g v=qb5 g v:=by kernel_rfl
theorem qjx (m_0:qhP) (row_1:List CELL) (fixed_2:Int) (on_3:Bool):fnF tb (envL e39) Tryd.f39 qel c39.ps c39.rs (T:=(List RAT)) (fun y=>(y.2.1)) (m_0,row_1,fixed_2,on_3,())=qf7 m_0 row_1 fixed_2 on_3:=by kernel_rfl
abbrev e23:List (Nat×Ctr):=[(38,c38),(39,c39)]
def qeE:LH
 | _=>none
theorem qhy (m_0:qhP) (row_1:List CELL):fnF tb (envL e23) Tryd.f23 qeE c23.ps c23.rs (T:=(List RAT)×Int) (fun y=>(y.2.1,y.2.2.1)) (m_0,row_1,())=qem m_0 row_1:=by kernel_rfl
abbrev e12:List (Nat×Ctr):=[(20,c20),(21,c21),(22,c22),(23,c23),(24,c24)]
def qce:LH
 | _=>none
theorem qgA :fnF tb (envL e12) Tryd.f12 qce c12.ps c12.rs (T:=Bool) (fun y=>(y.2.1)) ()=qa5 :=by kernel_rfl
abbrev e3:List (Nat×Ctr):=[(4,c4),(1048580,c4vN),(5,c5),(1048581,c5vN),(6,c6),(1048582,c6vN),(1048583,c7vN),(8,c8),(1048584,c8vN),(9,c9),(1048585,c9vN),(10,c10),(1048586,qoZ),(11,c11),(1048587,qoY),(12,c12)]
def qbG:LH
 | _=>none
theorem qdW (a_0:Int) (a_1:RAT):fnF tb (envL e3) Tryd.f3 qbG c3.ps c3.rs (T:=Bool) (fun y=>(y.2.1)) (a_0,a_1,())=qaV a_0 a_1:=by kernel_rfl
end Go.Proofs.YtmabkjhobhbfdaaDoor.X
