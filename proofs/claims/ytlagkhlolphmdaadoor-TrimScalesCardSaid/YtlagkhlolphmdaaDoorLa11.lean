/- Own work: part of the proof; the first line of each part says what it tells. -/
import Derived.Test.YtlagkhlolphmdaaDoorLa10


namespace Go.Proofs.YtlagkhlolphmdaaDoor.X
open Go
set_option linter.unusedVariables false
set_option linter.unusedSimpArgs false
set_option maxRecDepth 100000
theorem F_in {ps:List (Ty×PM)} {rs:List (Ty×Bool)} {T:Type} {F:HL (fsts ps)->Option T} {enc:T->HL (qfJ ps)×HL (fsts rs)} {wi:Option Wir} (x:HL (fsts ps)) {r:Option T} (h:F x=r):(Ctr.mk ps rs T F enc wi).F x=r:=h
theorem hm:Tryd.prog.follows .mixedOrders=true:=by kernel_rfl
structure qaf (T:Told):Prop where
 ty:TbOk Tryd.prog tb
 h77:qap T Tryd.prog 77 c77
 h81:qap T Tryd.prog 81 c81
theorem tyO:TbOk Tryd.prog tbO:=qrF (by kernel_rfl)
theorem n16 {T:Told} (H:qaf T):qaw T Tryd.prog (envL e16):=q5q (l:=e16) trivial
theorem ok16 {T:Told} (H:qaf T):qap T Tryd.prog 16 c16 :=
 qaH H.ty (n16 H) hm (lh:=qeh) (ct:=c16) (dcd:=fun y=>(y.2.1)) Tryd.func16 (by kernel_rfl) (by rfl) (q1q (l:=[]) (by kernel_rfl) trivial) (by decide) (fun _=>rfl) (fun x r h=>(qgO x.1).trans h)
theorem n5 {T:Told} (H:qaf T):qaw T Tryd.prog (envL e5):=q5q (l:=e5) ⟨ok16 H,trivial⟩
theorem qif {T:Told} (H:qaf T):q12q T Tryd.prog 32 (.loop (q3q 3 (q4q Tryd.f5) .skip)) ⟨qbx,qbW,lp qaE K0⟩ :=
 q7q H.ty (n5 H) hm (q1q (l:=[]) (by kernel_rfl) trivial) qig K0
theorem ok5 {T:Told} (H:qaf T):qap T Tryd.prog 5 c5 :=
 qaH H.ty (n5 H) hm (lh:=qdA) (ct:=c5) (dcd:=fun y=>(y.2.1)) Tryd.func5 (by kernel_rfl) (by rfl) (q1q (l:=[(.loop (q3q 3 (q4q Tryd.f5) .skip),⟨qbx,qbW,lp qaE K0⟩)]) (by kernel_rfl) ⟨qif H,trivial⟩) (by decide) (fun _=>rfl) (fun x r h=>(qih x.1 x.2.1).trans h)
theorem n34 {T:Told} (H:qaf T):qaw T Tryd.prog (envL e34):=q5q (l:=e34) trivial
theorem ok34 {T:Told} (H:qaf T):qap T Tryd.prog 34 c34 :=
 qaH H.ty (n34 H) hm (lh:=qei) (ct:=c34) (dcd:=fun y=>(y.2.1)) Tryd.func34 (by kernel_rfl) (by rfl) (q1q (l:=[]) (by kernel_rfl) trivial) (by decide) (fun _=>rfl) (fun x r h=>(qgP x.1).trans h)
theorem n15 {T:Told} (H:qaf T):qaw T Tryd.prog (envL e15):=q5q (l:=e15) ⟨ok34 H,trivial⟩
theorem qii {T:Told} (H:qaf T):q12q T Tryd.prog 67 (.loop (q3q 7 (q4q Tryd.f15) .skip)) ⟨qby,qbX,lp qaz K0⟩ :=
 q7q H.ty (n15 H) hm (q1q (l:=[]) (by kernel_rfl) trivial) qik K0
theorem qij {T:Told} (H:qaf T):q12q T Tryd.prog 67 (.loop (q3q 3 (q4q Tryd.f15) .skip)) ⟨qbz,qbY,lp qaA K0⟩ :=
 q7q H.ty (n15 H) hm (q1q (l:=[(.loop (q3q 7 (q4q Tryd.f15) .skip),⟨qby,qbX,lp qaz K0⟩)]) (by kernel_rfl) ⟨qii H,trivial⟩) qil K0
theorem ok15 {T:Told} (H:qaf T):qap T Tryd.prog 15 c15 :=
 qaH H.ty (n15 H) hm (lh:=qcx) (ct:=c15) (dcd:=fun y=>(y.2.1)) Tryd.func15 (by kernel_rfl) (by rfl) (q1q (l:=[(.loop (q3q 3 (q4q Tryd.f15) .skip),⟨qbz,qbY,lp qaA K0⟩)]) (by kernel_rfl) ⟨qij H,trivial⟩) (by decide) (fun _=>rfl) (fun x r h=>(qim x.1).trans h)
theorem n4 {T:Told} (H:qaf T):qaw T Tryd.prog (envL e4):=q5q (l:=e4) ⟨ok5 H,ok15 H,trivial⟩
theorem ok4 {T:Told} (H:qaf T):qap T Tryd.prog 4 c4 :=
 qaH H.ty (n4 H) hm (lh:=qeL) (ct:=c4) (dcd:=fun y=>(y.2.1,y.2.2.1)) Tryd.func4 (by kernel_rfl) (by rfl) (q1q (l:=[]) (by kernel_rfl) trivial) (by decide) (fun _=>rfl) (fun x r h=>(qhC x.1 x.2.1).trans h)
theorem n38 {T:Told} (H:qaf T):qaw T Tryd.prog (envL e38):=q5q (l:=e38) trivial
theorem qmU {T:Told} (H:qaf T):q12q T Tryd.prog 72 (.loop (q3q 9 (q4q Tryd.f38) .skip)) ⟨qdc,qd1,lp qbn K0⟩ :=
 q7q H.ty (n38 H) hm (q1q (l:=[]) (by kernel_rfl) trivial) qmW K0
theorem qmV {T:Told} (H:qaf T):q12q T Tryd.prog 72 (.loop (q3q 4 (q4q Tryd.f38) .skip)) ⟨qdd,qd2,lp qaW K0⟩ :=
 q7q H.ty (n38 H) hm (q1q (l:=[(.loop (q3q 9 (q4q Tryd.f38) .skip),⟨qdc,qd1,lp qbn K0⟩)]) (by kernel_rfl) ⟨qmU H,trivial⟩) qmX K0
theorem ok38 {T:Told} (H:qaf T):qap T Tryd.prog 38 c38 :=
 qaH H.ty (n38 H) hm (lh:=qeX) (ct:=c38) (dcd:=fun y=>(y.2.1)) Tryd.func38 (by kernel_rfl) (by rfl) (q1q (l:=[(.loop (q3q 4 (q4q Tryd.f38) .skip),⟨qdd,qd2,lp qaW K0⟩)]) (by kernel_rfl) ⟨qmV H,trivial⟩) (by decide) (fun _=>rfl) (fun x r h=>(qmY x.1).trans h)
theorem n39 {T:Told} (H:qaf T):qaw T Tryd.prog (envL e39):=q5q (l:=e39) trivial
theorem qkv {T:Told} (H:qaf T):q12q T Tryd.prog 52 (.loop (q3q 2 (q4q Tryd.f39) .skip)) ⟨qci,qcT,lp qaQ K0⟩ :=
 q7q H.ty (n39 H) hm (q1q (l:=[]) (by kernel_rfl) trivial) qkw K0
theorem ok39 {T:Told} (H:qaf T):qap T Tryd.prog 39 c39 :=
 qaH H.ty (n39 H) hm (lh:=qff) (ct:=c39) (dcd:=fun y=>(y.2.1,y.2.2.1)) Tryd.func39 (by kernel_rfl) (by rfl) (q1q (l:=[(.loop (q3q 2 (q4q Tryd.f39) .skip),⟨qci,qcT,lp qaQ K0⟩)]) (by kernel_rfl) ⟨qkv H,trivial⟩) (by decide) (fun _=>rfl) (fun x r h=>(qkx x.1 x.2.1).trans h)
theorem n40 {T:Told} (H:qaf T):qaw T Tryd.prog (envL e40):=q5q (l:=e40) trivial
theorem qlo {T:Told} (H:qaf T):q12q T Tryd.prog 103 (.loop (q3q 3 (q4q Tryd.f40) .skip)) ⟨qcH,qdi,lp qbf K0⟩ :=
 q7q H.ty (n40 H) hm (q1q (l:=[]) (by kernel_rfl) trivial) qlp K0
theorem qkr {T:Told} (H:qaf T):q12q T Tryd.prog 103 (.loop (q3q 10 (q4q Tryd.f40) .skip)) ⟨qch,qcS,lp qaF K0⟩ :=
 q7q H.ty (n40 H) hm (q1q (l:=[]) (by kernel_rfl) trivial) qku K0
theorem qkq {T:Told} (H:qaf T):q12q T Tryd.prog 103 (.loop (q3q 17 (q4q Tryd.f40) .skip)) ⟨qcg,qcR,lp qbg K0⟩ :=
 q7q H.ty (n40 H) hm (q1q (l:=[]) (by kernel_rfl) trivial) qkt K0
theorem qkp {T:Told} (H:qaf T):q12q T Tryd.prog 103 (.loop (q3q 25 (q4q Tryd.f40) .skip)) ⟨qcf,qcQ,lp qaP K0⟩ :=
 q7q H.ty (n40 H) hm (q1q (l:=[]) (by kernel_rfl) trivial) qks K0
theorem ok40 {T:Told} (H:qaf T):qap T Tryd.prog 40 c40 :=
 qaH H.ty (n40 H) hm (lh:=qcG) (ct:=c40) (dcd:=fun y=>(y.2.1,y.2.2.1)) Tryd.func40 (by kernel_rfl) (by rfl) (q1q (l:=[(.loop (q3q 3 (q4q Tryd.f40) .skip),⟨qcH,qdi,lp qbf K0⟩),(.loop (q3q 10 (q4q Tryd.f40) .skip),⟨qch,qcS,lp qaF K0⟩),(.loop (q3q 17 (q4q Tryd.f40) .skip),⟨qcg,qcR,lp qbg K0⟩),(.loop (q3q 25 (q4q Tryd.f40) .skip),⟨qcf,qcQ,lp qaP K0⟩)]) (by kernel_rfl) ⟨qlo H,qkr H,qkq H,qkp H,trivial⟩) (by decide) (fun _=>rfl) (fun x r h=>(qlq x.1).trans h)
theorem n58 {T:Told} (H:qaf T):qaw T Tryd.prog (envL e58):=q5q (l:=e58) trivial
theorem qo3 {T:Told} (H:qaf T):q12q T Tryd.prog 23 (.loop (q3q 2 (q4q Tryd.f58) .skip)) ⟨qep,qfn,lp qcu K0⟩ :=
 q7q H.ty (n58 H) hm (q1q (l:=[]) (by kernel_rfl) trivial) qo4 K0
theorem ok58 {T:Told} (H:qaf T):qap T Tryd.prog 58 c58 :=
 qaH H.ty (n58 H) hm (lh:=qh7) (ct:=c58) (dcd:=fun y=>(y.2.1)) Tryd.func58 (by kernel_rfl) (by rfl) (q1q (l:=[(.loop (q3q 2 (q4q Tryd.f58) .skip),⟨qep,qfn,lp qcu K0⟩)]) (by kernel_rfl) ⟨qo3 H,trivial⟩) (by decide) (fun _=>rfl) (fun x r h=>(qo5 x.1).trans h)
theorem n37 {T:Told} (H:qaf T):qaw T Tryd.prog (envL e37):=q5q (l:=e37) ⟨ok58 H,trivial⟩
theorem qob {T:Told} (H:qaf T):q12q T Tryd.prog 24 (.loop (q3q 3 (q4q Tryd.f37) .skip)) ⟨qdN,qeJ,lp qb6 K0⟩ :=
 q7q H.ty (n37 H) hm (q1q (l:=[]) (by kernel_rfl) trivial) qoc K0
theorem ok37 {T:Told} (H:qaf T):qap T Tryd.prog 37 c37 :=
 qaH H.ty (n37 H) hm (lh:=qhd) (ct:=c37) (dcd:=fun y=>(y.2.1)) Tryd.func37 (by kernel_rfl) (by rfl) (q1q (l:=[(.loop (q3q 3 (q4q Tryd.f37) .skip),⟨qdN,qeJ,lp qb6 K0⟩)]) (by kernel_rfl) ⟨qob H,trivial⟩) (by decide) (fun _=>rfl) (fun x r h=>(qod x.1).trans h)
theorem n57 {T:Told} (H:qaf T):qaw T Tryd.prog (envL e57):=q5q (l:=e57) trivial
theorem ok57 {T:Told} (H:qaf T):qap T Tryd.prog 57 c57 :=
 qaH H.ty (n57 H) hm (lh:=qip) (ct:=c57) (dcd:=fun y=>(y.2.1)) Tryd.func57 (by kernel_rfl) (by rfl) (q1q (l:=[]) (by kernel_rfl) trivial) (by decide) (fun _=>rfl) (fun x r h=>(qmk x.1 x.2.1).trans h)
theorem n36 {T:Told} (H:qaf T):qaw T Tryd.prog (envL e36):=q5q (l:=e36) ⟨ok37 H,ok57 H,trivial⟩
theorem ok36 {T:Told} (H:qaf T):qap T Tryd.prog 36 c36 :=
 qaH H.ty (n36 H) hm (lh:=qhR) (ct:=c36) (dcd:=fun y=>(y.2.1)) Tryd.func36 (by kernel_rfl) (by rfl) (q1q (l:=[]) (by kernel_rfl) trivial) (by decide) (fun _=>rfl) (fun x r h=>(qln x.1).trans h)
theorem n20 {T:Told} (H:qaf T):qaw T Tryd.prog (envL e20):=q5q (l:=e20) ⟨ok36 H,trivial⟩
theorem ok20 {T:Told} (H:qaf T):qap T Tryd.prog 20 c20 :=
 qaH H.ty (n20 H) hm (lh:=qiq) (ct:=c20) (dcd:=fun y=>(y.2.1)) Tryd.func20 (by kernel_rfl) (by rfl) (q1q (l:=[]) (by kernel_rfl) trivial) (by decide) (fun _=>rfl) (fun x r h=>(qml x.1).trans h)
theorem n45 {T:Told} (H:qaf T):qaw T Tryd.prog (envL e45):=q5q (l:=e45) ⟨ok58 H,trivial⟩
theorem ok45 {T:Told} (H:qaf T):qap T Tryd.prog 45 c45 :=
 qaH H.ty (n45 H) hm (lh:=qoa) (ct:=c45) (dcd:=fun y=>(y.2.1)) Tryd.func45 (by kernel_rfl) (by rfl) (q1q (l:=[]) (by kernel_rfl) trivial) (by decide) (fun _=>rfl) (fun x r h=>(qr1 x.1).trans h)
theorem n27 {T:Told} (H:qaf T):qaw T Tryd.prog (envL e27):=q5q (l:=e27) ⟨ok45 H,trivial⟩
theorem ok27 {T:Told} (H:qaf T):qap T Tryd.prog 27 c27 :=
 qaH H.ty (n27 H) hm (lh:=qiz) (ct:=c27) (dcd:=fun y=>(y.2.1)) Tryd.func27 (by kernel_rfl) (by rfl) (q1q (l:=[]) (by kernel_rfl) trivial) (by decide) (fun _=>rfl) (fun x r h=>(qmH ).trans h)
theorem n76 {T:Told} (H:qaf T):qaw T Tryd.prog (envL e76):=q5q (l:=e76) ⟨ok37 H,trivial⟩
theorem ok76 {T:Told} (H:qaf T):qap T Tryd.prog 76 c76 :=
 qaH H.ty (n76 H) hm (lh:=qn9) (ct:=c76) (dcd:=fun y=>(y.2.1,y.2.2.1)) Tryd.func76 (by kernel_rfl) (by rfl) (q1q (l:=[]) (by kernel_rfl) trivial) (by decide) (fun _=>rfl) (fun x r h=>(qr0 x.1).trans h)
theorem n65 {T:Told} (H:qaf T):qaw T Tryd.prog (envL e65):=q5q (l:=e65) ⟨ok45 H,ok76 H,trivial⟩
theorem qmP {T:Told} (H:qaf T):q12q T Tryd.prog 27 (.loop (q3q 3 (q4q Tryd.f65) .skip)) ⟨qc9,qd0,lp qb5 K0⟩ :=
 q7q H.ty (n65 H) hm (q1q (l:=[]) (by kernel_rfl) trivial) qmQ K0
theorem ok65 {T:Told} (H:qaf T):qap T Tryd.prog 65 c65 :=
 qaH H.ty (n65 H) hm (lh:=qgs) (ct:=c65) (dcd:=fun y=>(y.2.1)) Tryd.func65 (by kernel_rfl) (by rfl) (q1q (l:=[(.loop (q3q 3 (q4q Tryd.f65) .skip),⟨qc9,qd0,lp qb5 K0⟩)]) (by kernel_rfl) ⟨qmP H,trivial⟩) (by decide) (fun _=>rfl) (fun x r h=>(qmR x.1 x.2.1).trans h)
theorem n66 {T:Told} (H:qaf T):qaw T Tryd.prog (envL e66):=q5q (l:=e66) ⟨H.h77,trivial⟩
theorem qnU {T:Told} (H:qaf T):q12q T Tryd.prog 24 (.loop (q3q 3 (q4q Tryd.f66) .skip)) ⟨qdH,qeD,lp qcp K0⟩ :=
 q7q H.ty (n66 H) hm (q1q (l:=[]) (by kernel_rfl) trivial) qnV K0
theorem ok66 {T:Told} (H:qaf T):qap T Tryd.prog 66 c66 :=
 qaH H.ty (n66 H) hm (lh:=qg4) (ct:=c66) (dcd:=fun y=>(y.2.1)) Tryd.func66 (by kernel_rfl) (by rfl) (q1q (l:=[(.loop (q3q 3 (q4q Tryd.f66) .skip),⟨qdH,qeD,lp qcp K0⟩)]) (by kernel_rfl) ⟨qnU H,trivial⟩) (by decide) (fun _=>rfl) (fun x r h=>(qnW x.1).trans h)
theorem n74 {T:Told} (H:qaf T):qaw T Tryd.prog (envL e74):=q5q (l:=e74) trivial
theorem ok74 {T:Told} (H:qaf T):qap T Tryd.prog 74 c74 :=
 qaH H.ty (n74 H) hm (lh:=qkW) (ct:=c74) (dcd:=fun y=>(y.2.1)) Tryd.func74 (by kernel_rfl) (by rfl) (q1q (l:=[]) (by kernel_rfl) trivial) (by decide) (fun _=>rfl) (fun x r h=>(qpd x.1 x.2.1).trans h)
theorem n67 {T:Told} (H:qaf T):qaw T Tryd.prog (envL e67):=q5q (l:=e67) ⟨ok58 H,ok74 H,trivial⟩
theorem qqO {T:Told} (H:qaf T):q12q T Tryd.prog 50 (.loop (q3q 6 (q4q Tryd.f67) .skip)) ⟨qe8,qf3,lp qc7 K0⟩ :=
 q7q H.ty (n67 H) hm (q1q (l:=[]) (by kernel_rfl) trivial) qqP K0
theorem ok67 {T:Told} (H:qaf T):qap T Tryd.prog 67 c67 :=
 qaH H.ty (n67 H) hm (lh:=qjd) (ct:=c67) (dcd:=fun y=>(y.2.1)) Tryd.func67 (by kernel_rfl) (by rfl) (q1q (l:=[(.loop (q3q 6 (q4q Tryd.f67) .skip),⟨qe8,qf3,lp qc7 K0⟩)]) (by kernel_rfl) ⟨qqO H,trivial⟩) (by decide) (fun _=>rfl) (fun x r h=>(qqQ x.1 x.2.1).trans h)
theorem n68 {T:Told} (H:qaf T):qaw T Tryd.prog (envL e68):=q5q (l:=e68) trivial
theorem qn0 {T:Told} (H:qaf T):q12q T Tryd.prog 45 (.loop (q3q 6 (q4q Tryd.f68) .skip)) ⟨qdJ,qeF,lp qbQ K0⟩ :=
 q7q H.ty (n68 H) hm (q1q (l:=[]) (by kernel_rfl) trivial) qn1 K0
theorem ok68 {T:Told} (H:qaf T):qap T Tryd.prog 68 c68 :=
 qaH H.ty (n68 H) hm (lh:=qg7) (ct:=c68) (dcd:=fun y=>(y.2.1)) Tryd.func68 (by kernel_rfl) (by rfl) (q1q (l:=[(.loop (q3q 6 (q4q Tryd.f68) .skip),⟨qdJ,qeF,lp qbQ K0⟩)]) (by kernel_rfl) ⟨qn0 H,trivial⟩) (by decide) (fun _=>rfl) (fun x r h=>(qn2 x.1 x.2.1).trans h)
theorem n69 {T:Told} (H:qaf T):qaw T Tryd.prog (envL e69):=q5q (l:=e69) ⟨ok58 H,trivial⟩
theorem qqR {T:Told} (H:qaf T):q12q T Tryd.prog 51 (.loop (q3q 4 (q4q Tryd.f69) .skip)) ⟨qe9,qf4,lp qc8 K0⟩ :=
 q7q H.ty (n69 H) hm (q1q (l:=[]) (by kernel_rfl) trivial) qqS K0
theorem ok69 {T:Told} (H:qaf T):qap T Tryd.prog 69 c69 :=
 qaH H.ty (n69 H) hm (lh:=qje) (ct:=c69) (dcd:=fun y=>(y.2.1)) Tryd.func69 (by kernel_rfl) (by rfl) (q1q (l:=[(.loop (q3q 4 (q4q Tryd.f69) .skip),⟨qe9,qf4,lp qc8 K0⟩)]) (by kernel_rfl) ⟨qqR H,trivial⟩) (by decide) (fun _=>rfl) (fun x r h=>(qqT x.1 x.2.1).trans h)
theorem n72 {T:Told} (H:qaf T):qaw T Tryd.prog (envL e72):=q5q (l:=e72) ⟨ok58 H,trivial⟩
theorem qnX {T:Told} (H:qaf T):q12q T Tryd.prog 38 (.loop (q3q 4 (q4q Tryd.f72) .skip)) ⟨qdI,qeE,lp qcq K0⟩ :=
 q7q H.ty (n72 H) hm (q1q (l:=[]) (by kernel_rfl) trivial) qnY K0
theorem ok72 {T:Told} (H:qaf T):qap T Tryd.prog 72 c72 :=
 qaH H.ty (n72 H) hm (lh:=qg5) (ct:=c72) (dcd:=fun y=>(y.2.1,y.2.2.1)) Tryd.func72 (by kernel_rfl) (by rfl) (q1q (l:=[(.loop (q3q 4 (q4q Tryd.f72) .skip),⟨qdI,qeE,lp qcq K0⟩)]) (by kernel_rfl) ⟨qnX H,trivial⟩) (by decide) (fun _=>rfl) (fun x r h=>(qnZ x.1 x.2.1).trans h)
theorem n78 {T:Told} (H:qaf T):qaw T Tryd.prog (envL e78):=q5q (l:=e78) ⟨H.h81,trivial⟩
theorem ok78 {T:Told} (H:qaf T):qap T Tryd.prog 78 c78 :=
 qaH H.ty (n78 H) hm (lh:=qej) (ct:=c78) (dcd:=fun y=>(y.2.1)) Tryd.func78 (by kernel_rfl) (by rfl) (q1q (l:=[]) (by kernel_rfl) trivial) (by decide) (fun _=>rfl) (fun x r h=>(qgQ x.1).trans h)
theorem n82 {T:Told} (H:qaf T):qaw T Tryd.prog (envL e82):=q5q (l:=e82) ⟨ok74 H,trivial⟩
theorem qo6 {T:Told} (H:qaf T):q12q T Tryd.prog 46 (.loop (q3q 3 (q4q Tryd.f82) .skip)) ⟨qeq,qfo,lp qcZ K0⟩ :=
 q7q H.ty (n82 H) hm (q1q (l:=[]) (by kernel_rfl) trivial) qo7 K0
theorem ok82 {T:Told} (H:qaf T):qap T Tryd.prog 82 c82 :=
 qaH H.ty (n82 H) hm (lh:=qh8) (ct:=c82) (dcd:=fun y=>(y.1.1,y.2.1)) Tryd.func82 (by kernel_rfl) (by rfl) (q1q (l:=[(.loop (q3q 3 (q4q Tryd.f82) .skip),⟨qeq,qfo,lp qcZ K0⟩)]) (by kernel_rfl) ⟨qo6 H,trivial⟩) (by decide) (fun _=>rfl) (fun x r h=>(qo8 x.1 x.2.1 x.2.2.1).trans h)
theorem n83 {T:Told} (H:qaf T):qaw T Tryd.prog (envL e83):=q5q (l:=e83) ⟨ok74 H,trivial⟩
theorem qpe {T:Told} (H:qaf T):q12q T Tryd.prog 29 (.loop (q3q 2 (q4q Tryd.f83) .skip)) ⟨qes,qfr,lp qc0 K0⟩ :=
 q7q H.ty (n83 H) hm (q1q (l:=[]) (by kernel_rfl) trivial) qpf K0
theorem ok83 {T:Told} (H:qaf T):qap T Tryd.prog 83 c83 :=
 qaH H.ty (n83 H) hm (lh:=qia) (ct:=c83) (dcd:=fun y=>(y.1.1)) Tryd.func83 (by kernel_rfl) (by rfl) (q1q (l:=[(.loop (q3q 2 (q4q Tryd.f83) .skip),⟨qes,qfr,lp qc0 K0⟩)]) (by kernel_rfl) ⟨qpe H,trivial⟩) (by decide) (fun _=>rfl) (fun x r h=>(qpg x.1 x.2.1).trans h)
theorem n79 {T:Told} (H:qaf T):qaw T Tryd.prog (envL e79):=q5q (l:=e79) ⟨ok82 H,ok83 H,trivial⟩
theorem qn6 {T:Told} (H:qaf T):q12q T Tryd.prog 77 (.loop (q3q 4 (q4q Tryd.f79) .skip)) ⟨qdL,qeI,lp qbb K0⟩ :=
 q7q H.ty (n79 H) hm (q1q (l:=[]) (by kernel_rfl) trivial) qn7 K0
theorem ok79 {T:Told} (H:qaf T):qap T Tryd.prog 79 c79 :=
 qaH H.ty (n79 H) hm (lh:=qg9) (ct:=c79) (dcd:=fun y=>(y.1.1,y.2.1)) Tryd.func79 (by kernel_rfl) (by rfl) (q1q (l:=[(.loop (q3q 4 (q4q Tryd.f79) .skip),⟨qdL,qeI,lp qbb K0⟩)]) (by kernel_rfl) ⟨qn6 H,trivial⟩) (by decide) (fun _=>rfl) (fun x r h=>(qn8 x.1 x.2.1).trans h)
theorem n73 {T:Told} (H:qaf T):qaw T Tryd.prog (envL e73):=q5q (l:=e73) ⟨ok58 H,ok67 H,ok69 H,ok78 H,ok79 H,trivial⟩
theorem qpa {T:Told} (H:qaf T):q12q T Tryd.prog 64 (.loop (q3q 7 (q4q Tryd.f73) .skip)) ⟨qer,qfq,lp qcw K0⟩ :=
 q7q H.ty (n73 H) hm (q1q (l:=[]) (by kernel_rfl) trivial) qpb K0
theorem ok73 {T:Told} (H:qaf T):qap T Tryd.prog 73 c73 :=
 qaH H.ty (n73 H) hm (lh:=qh9) (ct:=c73) (dcd:=fun y=>(y.2.1,y.2.2.1)) Tryd.func73 (by kernel_rfl) (by rfl) (q1q (l:=[(.loop (q3q 7 (q4q Tryd.f73) .skip),⟨qer,qfq,lp qcw K0⟩)]) (by kernel_rfl) ⟨qpa H,trivial⟩) (by decide) (fun _=>rfl) (fun x r h=>(qpc x.1 x.2.1).trans h)
theorem n56 {T:Told} (H:qaf T):qaw T Tryd.prog (envL e56):=q5q (l:=e56) ⟨ok37 H,ok45 H,ok68 H,ok72 H,ok73 H,trivial⟩
theorem ok56 {T:Told} (H:qaf T):qap T Tryd.prog 56 c56 :=
 qaH H.ty (n56 H) hm (lh:=qiO) (ct:=c56) (dcd:=fun y=>(y.2.1,y.2.2.1,y.2.2.2.1)) Tryd.func56 (by kernel_rfl) (by rfl) (q1q (l:=[]) (by kernel_rfl) trivial) (by decide) (fun _=>rfl) (fun x r h=>(qmS x.1 x.2.1).trans h)
theorem n70 {T:Told} (H:qaf T):qaw T Tryd.prog (envL e70):=q5q (l:=e70) ⟨ok56 H,trivial⟩
theorem ok70 {T:Told} (H:qaf T):qap T Tryd.prog 70 c70 :=
 qaH H.ty (n70 H) hm (lh:=qkV) (ct:=c70) (dcd:=fun y=>(y.2.1,y.2.2.1)) Tryd.func70 (by kernel_rfl) (by rfl) (q1q (l:=[]) (by kernel_rfl) trivial) (by decide) (fun _=>rfl) (fun x r h=>(qo9 x.1 x.2.1).trans h)
theorem n71 {T:Told} (H:qaf T):qaw T Tryd.prog (envL e71):=q5q (l:=e71) ⟨ok58 H,ok74 H,trivial⟩
theorem qn3 {T:Told} (H:qaf T):q12q T Tryd.prog 39 (.loop (q3q 4 (q4q Tryd.f71) .skip)) ⟨qdK,qeH,lp qcr K0⟩ :=
 q7q H.ty (n71 H) hm (q1q (l:=[]) (by kernel_rfl) trivial) qn4 K0
theorem ok71 {T:Told} (H:qaf T):qap T Tryd.prog 71 c71 :=
 qaH H.ty (n71 H) hm (lh:=qg8) (ct:=c71) (dcd:=fun y=>(y.2.1)) Tryd.func71 (by kernel_rfl) (by rfl) (q1q (l:=[(.loop (q3q 4 (q4q Tryd.f71) .skip),⟨qdK,qeH,lp qcr K0⟩)]) (by kernel_rfl) ⟨qn3 H,trivial⟩) (by decide) (fun _=>rfl) (fun x r h=>(qn5 x.1 x.2.1).trans h)
theorem n55 {T:Told} (H:qaf T):qaw T Tryd.prog (envL e55):=q5q (l:=e55) ⟨ok37 H,ok65 H,ok66 H,ok67 H,ok68 H,ok69 H,ok70 H,ok71 H,trivial⟩
theorem qph {T:Told} (H:qaf T):q12q T Tryd.prog 86 (.loop (q3q 10 (q4q Tryd.f55) .skip)) ⟨qet,qfs,lp qbl K0⟩ :=
 q7q H.ty (n55 H) hm (q1q (l:=[]) (by kernel_rfl) trivial) qpi K0
theorem ok55 {T:Told} (H:qaf T):qap T Tryd.prog 55 c55 :=
 qaH H.ty (n55 H) hm (lh:=qjf) (ct:=c55) (dcd:=fun y=>(y.2.1)) Tryd.func55 (by kernel_rfl) (by rfl) (q1q (l:=[(.loop (q3q 10 (q4q Tryd.f55) .skip),⟨qet,qfs,lp qbl K0⟩)]) (by kernel_rfl) ⟨qph H,trivial⟩) (by decide) (fun _=>rfl) (fun x r h=>(qq0 x.1 x.2.1).trans h)
theorem n31 {T:Told} (H:qaf T):qaw T Tryd.prog (envL e31):=q5q (l:=e31) ⟨ok45 H,ok55 H,ok56 H,trivial⟩
theorem ok31 {T:Told} (H:qaf T):qap T Tryd.prog 31 c31 :=
 qaH H.ty (n31 H) hm (lh:=qiy) (ct:=c31) (dcd:=fun y=>(y.2.1)) Tryd.func31 (by kernel_rfl) (by rfl) (q1q (l:=[]) (by kernel_rfl) trivial) (by decide) (fun _=>rfl) (fun x r h=>(qmG x.1 x.2.1).trans h)
theorem n21 {T:Told} (H:qaf T):qaw T Tryd.prog (envL e21):=q5q (l:=e21) ⟨ok27 H,ok31 H,ok36 H,ok37 H,trivial⟩
theorem ok21 {T:Told} (H:qaf T):qap T Tryd.prog 21 c21 :=
 qaH H.ty (n21 H) hm (lh:=qhW) (ct:=c21) (dcd:=fun y=>(y.2.1)) Tryd.func21 (by kernel_rfl) (by rfl) (q1q (l:=[]) (by kernel_rfl) trivial) (by decide) (fun _=>rfl) (fun x r h=>(qlA x.1).trans h)
theorem n8 {T:Told} (H:qaf T):qaw T Tryd.prog (envL e8):=q5q (l:=e8) ⟨ok20 H,ok21 H,trivial⟩
theorem ok8 {T:Told} (H:qaf T):qap T Tryd.prog 8 c8 :=
 qaH H.ty (n8 H) hm (lh:=qiB) (ct:=c8) (dcd:=fun y=>(y.2.1)) Tryd.func8 (by kernel_rfl) (by rfl) (q1q (l:=[]) (by kernel_rfl) trivial) (by decide) (fun _=>rfl) (fun x r h=>(qmI x.1).trans h)
theorem n41 {T:Told} (H:qaf T):qaw T Tryd.prog (envL e41):=q5q (l:=e41) ⟨ok8 H,trivial⟩
theorem qky {T:Told} (H:qaf T):q12q T Tryd.prog 19 (.loop (q3q 2 (q4q Tryd.f41) .skip)) ⟨qcj,qcU,lp qaR K0⟩ :=
 q7q H.ty (n41 H) hm (q1q (l:=[]) (by kernel_rfl) trivial) qkz K0
theorem ok41 {T:Told} (H:qaf T):qap T Tryd.prog 41 c41 :=
 qaH H.ty (n41 H) hm (lh:=qfg) (ct:=c41) (dcd:=fun y=>(y.2.1,y.2.2.1)) Tryd.func41 (by kernel_rfl) (by rfl) (q1q (l:=[(.loop (q3q 2 (q4q Tryd.f41) .skip),⟨qcj,qcU,lp qaR K0⟩)]) (by kernel_rfl) ⟨qky H,trivial⟩) (by decide) (fun _=>rfl) (fun x r h=>(qkA x.1).trans h)
theorem n33 {T:Told} (H:qaf T):qaw T Tryd.prog (envL e33):=q5q (l:=e33) ⟨ok37 H,ok58 H,trivial⟩
theorem qqV {T:Told} (H:qaf T):q12q T Tryd.prog 67 (.loop (q3q 8 (q4q Tryd.f33) .skip)) ⟨qfa,qf7,lp qda K0⟩ :=
 q7q H.ty (n33 H) hm (q1q (l:=[]) (by kernel_rfl) trivial) qqX K0
theorem qqW {T:Told} (H:qaf T):q12q T Tryd.prog 67 (.loop (q3q 4 (q4q Tryd.f33) .skip)) ⟨qfb,qf8,lp qdM K0⟩ :=
 q7q H.ty (n33 H) hm (q1q (l:=[(.loop (q3q 8 (q4q Tryd.f33) .skip),⟨qfa,qf7,lp qda K0⟩)]) (by kernel_rfl) ⟨qqV H,trivial⟩) qqY K0
theorem ok33 {T:Told} (H:qaf T):qap T Tryd.prog 33 c33 :=
 qaH H.ty (n33 H) hm (lh:=qhH) (ct:=c33) (dcd:=fun y=>(y.2.1)) Tryd.func33 (by kernel_rfl) (by rfl) (q1q (l:=[(.loop (q3q 4 (q4q Tryd.f33) .skip),⟨qfb,qf8,lp qdM K0⟩)]) (by kernel_rfl) ⟨qqW H,trivial⟩) (by decide) (fun _=>rfl) (fun x r h=>(qqZ x.1 x.2.1).trans h)
theorem n32 {T:Told} (H:qaf T):qaw T Tryd.prog (envL e32):=q5q (l:=e32) ⟨ok33 H,ok36 H,ok57 H,trivial⟩
theorem ok32 {T:Told} (H:qaf T):qap T Tryd.prog 32 c32 :=
 qaH H.ty (n32 H) hm (lh:=qjA) (ct:=c32) (dcd:=fun y=>(y.2.1)) Tryd.func32 (by kernel_rfl) (by rfl) (q1q (l:=[]) (by kernel_rfl) trivial) (by decide) (fun _=>rfl) (fun x r h=>(qnn x.1 x.2.1).trans h)
theorem n50 {T:Told} (H:qaf T):qaw T Tryd.prog (envL e50):=q5q (l:=e50) trivial
theorem ok50 {T:Told} (H:qaf T):qap T Tryd.prog 50 c50 :=
 qaH H.ty (n50 H) hm (lh:=qjH) (ct:=c50) (dcd:=fun y=>(y.2.1)) Tryd.func50 (by kernel_rfl) (by rfl) (q1q (l:=[]) (by kernel_rfl) trivial) (by decide) (fun _=>rfl) (fun x r h=>(qnF x.1).trans h)
theorem n61 {T:Told} (H:qaf T):qaw T Tryd.prog (envL e61):=q5q (l:=e61) ⟨ok37 H,ok68 H,trivial⟩
theorem ok61 {T:Told} (H:qaf T):qap T Tryd.prog 61 c61 :=
 qaH H.ty (n61 H) hm (lh:=ql2) (ct:=c61) (dcd:=fun y=>(y.2.1)) Tryd.func61 (by kernel_rfl) (by rfl) (q1q (l:=[]) (by kernel_rfl) trivial) (by decide) (fun _=>rfl) (fun x r h=>(qq1 x.1 x.2.1).trans h)
theorem n54 {T:Told} (H:qaf T):qaw T Tryd.prog (envL e54):=q5q (l:=e54) ⟨ok36 H,ok61 H,trivial⟩
theorem ok54 {T:Told} (H:qaf T):qap T Tryd.prog 54 c54 :=
 qaH H.ty (n54 H) hm (lh:=qjB) (ct:=c54) (dcd:=fun y=>(y.2.1)) Tryd.func54 (by kernel_rfl) (by rfl) (q1q (l:=[]) (by kernel_rfl) trivial) (by decide) (fun _=>rfl) (fun x r h=>(qno x.1 x.2.1).trans h)
theorem n30 {T:Told} (H:qaf T):qaw T Tryd.prog (envL e30):=q5q (l:=e30) ⟨ok21 H,ok32 H,ok50 H,ok54 H,trivial⟩
theorem ok30 {T:Told} (H:qaf T):qap T Tryd.prog 30 c30 :=
 qaH H.ty (n30 H) hm (lh:=qjO) (ct:=c30) (dcd:=fun y=>(y.2.1)) Tryd.func30 (by kernel_rfl) (by rfl) (q1q (l:=[]) (by kernel_rfl) trivial) (by decide) (fun _=>rfl) (fun x r h=>(qnL x.1 x.2.1).trans h)
theorem n13 {T:Told} (H:qaf T):qaw T Tryd.prog (envL e13):=q5q (l:=e13) ⟨ok30 H,trivial⟩
theorem ok13 {T:Told} (H:qaf T):qap T Tryd.prog 13 c13 :=
 qaH H.ty (n13 H) hm (lh:=qiD) (ct:=c13) (dcd:=fun y=>(y.2.1)) Tryd.func13 (by kernel_rfl) (by rfl) (q1q (l:=[]) (by kernel_rfl) trivial) (by decide) (fun _=>rfl) (fun x r h=>(qmJ x.1 x.2.1).trans h)
theorem n60 {T:Told} (H:qaf T):qaw T Tryd.prog (envL e60):=q5q (l:=e60) ⟨ok37 H,ok58 H,ok74 H,trivial⟩
theorem qq2 {T:Told} (H:qaf T):q12q T Tryd.prog 43 (.loop (q3q 5 (q4q Tryd.f60) .skip)) ⟨qfc,qf9,lp qdO K0⟩ :=
 q7q H.ty (n60 H) hm (q1q (l:=[]) (by kernel_rfl) trivial) qq3 K0
theorem ok60 {T:Told} (H:qaf T):qap T Tryd.prog 60 c60 :=
 qaH H.ty (n60 H) hm (lh:=qjg) (ct:=c60) (dcd:=fun y=>(y.2.1)) Tryd.func60 (by kernel_rfl) (by rfl) (q1q (l:=[(.loop (q3q 5 (q4q Tryd.f60) .skip),⟨qfc,qf9,lp qdO K0⟩)]) (by kernel_rfl) ⟨qq2 H,trivial⟩) (by decide) (fun _=>rfl) (fun x r h=>(qq4 x.1 x.2.1).trans h)
theorem n62 {T:Told} (H:qaf T):qaw T Tryd.prog (envL e62):=q5q (l:=e62) ⟨ok37 H,ok68 H,ok71 H,trivial⟩
theorem ok62 {T:Told} (H:qaf T):qap T Tryd.prog 62 c62 :=
 qaH H.ty (n62 H) hm (lh:=ql1) (ct:=c62) (dcd:=fun y=>(y.2.1,y.2.2.1)) Tryd.func62 (by kernel_rfl) (by rfl) (q1q (l:=[]) (by kernel_rfl) trivial) (by decide) (fun _=>rfl) (fun x r h=>(qqU x.1 x.2.1).trans h)
theorem n49 {T:Told} (H:qaf T):qaw T Tryd.prog (envL e49):=q5q (l:=e49) ⟨ok36 H,ok57 H,ok60 H,ok61 H,ok62 H,trivial⟩
theorem ok49 {T:Told} (H:qaf T):qap T Tryd.prog 49 c49 :=
 qaH H.ty (n49 H) hm (lh:=qjC) (ct:=c49) (dcd:=fun y=>(y.2.1)) Tryd.func49 (by kernel_rfl) (by rfl) (q1q (l:=[]) (by kernel_rfl) trivial) (by decide) (fun _=>rfl) (fun x r h=>(qnp x.1 x.2.1).trans h)
theorem n28 {T:Told} (H:qaf T):qaw T Tryd.prog (envL e28):=q5q (l:=e28) ⟨ok21 H,ok31 H,ok32 H,ok33 H,ok49 H,ok50 H,trivial⟩
theorem ok28 {T:Told} (H:qaf T):qap T Tryd.prog 28 c28 :=
 qaH H.ty (n28 H) hm (lh:=qjP) (ct:=c28) (dcd:=fun y=>(y.2.1)) Tryd.func28 (by kernel_rfl) (by rfl) (q1q (l:=[]) (by kernel_rfl) trivial) (by decide) (fun _=>rfl) (fun x r h=>(qnM x.1 x.2.1).trans h)
theorem n42 {T:Told} (H:qaf T):qaw T Tryd.prog (envL e42):=q5q (l:=e42) ⟨ok13 H,ok28 H,trivial⟩
theorem qmo {T:Told} (H:qaf T):q12q T Tryd.prog 37 (.loop (q3q 2 (q4q Tryd.f42) .skip)) ⟨qc5,qdR,lp qa3 K0⟩ :=
 q7q H.ty (n42 H) hm (q1q (l:=[]) (by kernel_rfl) trivial) qmp K0
theorem ok42 {T:Told} (H:qaf T):qap T Tryd.prog 42 c42 :=
 qaH H.ty (n42 H) hm (lh:=qgf) (ct:=c42) (dcd:=fun y=>(y.2.1,y.2.2.1)) Tryd.func42 (by kernel_rfl) (by rfl) (q1q (l:=[(.loop (q3q 2 (q4q Tryd.f42) .skip),⟨qc5,qdR,lp qa3 K0⟩)]) (by kernel_rfl) ⟨qmo H,trivial⟩) (by decide) (fun _=>rfl) (fun x r h=>(qmq x.1).trans h)
theorem n43 {T:Told} (H:qaf T):qaw T Tryd.prog (envL e43):=q5q (l:=e43) trivial
theorem ok43 {T:Told} (H:qaf T):qap T Tryd.prog 43 c43 :=
 qaH H.ty (n43 H) hm (lh:=qhS) (ct:=c43) (dcd:=fun y=>(y.2.1)) Tryd.func43 (by kernel_rfl) (by rfl) (q1q (l:=[]) (by kernel_rfl) trivial) (by decide) (fun _=>rfl) (fun x r h=>(qlr x.1 x.2.1 x.2.2.1).trans h)
theorem n22 {T:Told} (H:qaf T):qaw T Tryd.prog (envL e22):=q5q (l:=e22) ⟨ok38 H,ok39 H,ok40 H,ok41 H,ok42 H,ok43 H,trivial⟩
theorem qls {T:Told} (H:qaf T):q12q T Tryd.prog 63 (.loop (q3q 7 (q4q Tryd.f22) .skip)) ⟨qcI,qdj,lp qax K0⟩ :=
 q7q H.ty (n22 H) hm (q1q (l:=[]) (by kernel_rfl) trivial) qlu K0
theorem qlt {T:Told} (H:qaf T):q12q T Tryd.prog 63 (.loop (q3q 4 (q4q Tryd.f22) .skip)) ⟨qcJ,qdk,lp qa0 K0⟩ :=
 q7q H.ty (n22 H) hm (q1q (l:=[(.loop (q3q 7 (q4q Tryd.f22) .skip),⟨qcI,qdj,lp qax K0⟩)]) (by kernel_rfl) ⟨qls H,trivial⟩) qlv K0
theorem ok22 {T:Told} (H:qaf T):qap T Tryd.prog 22 c22 :=
 qaH H.ty (n22 H) hm (lh:=qev) (ct:=c22) (dcd:=fun y=>(y.2.1)) Tryd.func22 (by kernel_rfl) (by rfl) (q1q (l:=[(.loop (q3q 4 (q4q Tryd.f22) .skip),⟨qcJ,qdk,lp qa0 K0⟩)]) (by kernel_rfl) ⟨qlt H,trivial⟩) (by decide) (fun _=>rfl) (fun x r h=>(qlw x.1).trans h)
theorem n9 {T:Told} (H:qaf T):qaw T Tryd.prog (envL e9):=q5q (l:=e9) ⟨ok22 H,trivial⟩
theorem ok9 {T:Told} (H:qaf T):qap T Tryd.prog 9 c9 :=
 qaH H.ty (n9 H) hm (lh:=qkB) (ct:=c9) (dcd:=fun y=>(y.2.1)) Tryd.func9 (by kernel_rfl) (by rfl) (q1q (l:=[]) (by kernel_rfl) trivial) (by decide) (fun _=>rfl) (fun x r h=>(qoO x.1).trans h)
theorem n14 {T:Told} (H:qaf T):qaw T Tryd.prog (envL e14):=q5q (l:=e14) ⟨ok21 H,ok31 H,ok32 H,ok33 H,trivial⟩
theorem ok14 {T:Told} (H:qaf T):qap T Tryd.prog 14 c14 :=
 qaH H.ty (n14 H) hm (lh:=qjJ) (ct:=c14) (dcd:=fun y=>(y.2.1)) Tryd.func14 (by kernel_rfl) (by rfl) (q1q (l:=[]) (by kernel_rfl) trivial) (by decide) (fun _=>rfl) (fun x r h=>(qnH x.1 x.2.1).trans h)
theorem n18 {T:Told} (H:qaf T):qaw T Tryd.prog (envL e18):=q5q (l:=e18) ⟨ok14 H,trivial⟩
theorem qj6 {T:Told} (H:qaf T):q12q T Tryd.prog 28 (.loop (q3q 2 (q4q Tryd.f18) .skip)) ⟨qb2,qcB,lp qa5 K0⟩ :=
 q7q H.ty (n18 H) hm (q1q (l:=[]) (by kernel_rfl) trivial) qj7 K0
theorem ok18 {T:Told} (H:qaf T):qap T Tryd.prog 18 c18 :=
 qmb H.ty (n18 H) hm (lh:=qeS) (ct:=c18) (wi:=w18) (dcd:=fun y=>(y.2.1,y.2.2.1,y.2.2.2.1,y.2.2.2.2.1)) Tryd.func18 (by kernel_rfl) (by rfl) (q1q (l:=[(.loop (q3q 2 (q4q Tryd.f18) .skip),⟨qb2,qcB,lp qa5 K0⟩)]) (by kernel_rfl) ⟨qj6 H,trivial⟩) (fun _=>rfl) rfl (fun x r h=>(qj8 x.1 x.2.1 x.2.2.1 x.2.2.2.1).trans h)
theorem n35 {T:Told} (H:qaf T):qaw T Tryd.prog (envL e35):=q5q (l:=e35) ⟨ok21 H,trivial⟩
theorem qlB {T:Told} (H:qaf T):q12q T Tryd.prog 67 (.loop (q3q 7 (q4q Tryd.f35) .skip)) ⟨qcL,qds,lp qbA K0⟩ :=
 q7q tyO (n35 H) hm (q1q (l:=[]) (by kernel_rfl) trivial) qlD K0
theorem qlC {T:Told} (H:qaf T):q12q T Tryd.prog 67 (.loop (q3q 3 (q4q Tryd.f35) .skip)) ⟨qcM,qdt,lp qbB K0⟩ :=
 q7q tyO (n35 H) hm (q1q (l:=[(.loop (q3q 7 (q4q Tryd.f35) .skip),⟨qcL,qds,lp qbA K0⟩)]) (by kernel_rfl) ⟨qlB H,trivial⟩) qlE K0
theorem ok35 {T:Told} (H:qaf T):qap T Tryd.prog 35 c35 :=
 qmb tyO (n35 H) hm (lh:=qex) (ct:=c35) (wi:=w35) (dcd:=fun y=>(y.2.1,y.2.2.1)) Tryd.func35 (by kernel_rfl) (by rfl) (q1q (l:=[(.loop (q3q 3 (q4q Tryd.f35) .skip),⟨qcM,qdt,lp qbB K0⟩)]) (by kernel_rfl) ⟨qlC H,trivial⟩) (fun _=>rfl) rfl (fun x r h=>(qlF x.1).trans h)
theorem qt6 {T:Told} (H:qaf T):qaw T Tryd.prog (envL qql):=q5q (l:=qql) ⟨ok9 H,ok18 H,ok35 H,trivial⟩
theorem qgk {T:Told} (H:qaf T):q12q T Tryd.prog 34 (.loop (q3q 5 (q4q Tryd.f17) .skip)) ⟨qaV,qbi,lp qar K0⟩ :=
 q7q H.ty (qt6 H) hm (q1q (l:=[]) (by kernel_rfl) trivial) qgl K0
theorem quK {T:Told} (H:qaf T):qap T Tryd.prog 17 qoJ :=
 qmb H.ty (qt6 H) hm (lh:=qct) (ct:=qoJ) (wi:=qrw) (dcd:=fun y=>(y.2.1,y.2.2.1,y.2.2.2.1,y.2.2.2.2.1,y.2.2.2.2.2.1)) Tryd.func17 (by kernel_rfl) (by rfl) (q1q (l:=[(.loop (q3q 5 (q4q Tryd.f17) .skip),⟨qaV,qbi,lp qar K0⟩)]) (by kernel_rfl) ⟨qgk H,trivial⟩) (fun _=>rfl) rfl (fun x r h=>(qgm x.1 x.2.1 x.2.2.1 x.2.2.2.1).trans h)
theorem n6 {T:Told} (H:qaf T):qaw T Tryd.prog (envL e6):=q5q (l:=e6) ⟨quK H,trivial⟩
theorem ok6 {T:Told} (H:qaf T):qap T Tryd.prog 6 c6 :=
 qaH H.ty (n6 H) hm (lh:=qit) (ct:=c6) (dcd:=fun y=>(y.2.1,y.2.2.1)) Tryd.func6 (by kernel_rfl) (by rfl) (q1q (l:=[]) (by kernel_rfl) trivial) (by decide) (fun _=>rfl) (fun x r h=>(qmw x.1 x.2.1).trans h)
theorem n19 {T:Told} (H:qaf T):qaw T Tryd.prog (envL e19):=q5q (l:=e19) ⟨ok14 H,trivial⟩
theorem qj3 {T:Told} (H:qaf T):q12q T Tryd.prog 23 (.loop (q3q 2 (q4q Tryd.f19) .skip)) ⟨qb0,qcA,lp qa4 K0⟩ :=
 q7q H.ty (n19 H) hm (q1q (l:=[]) (by kernel_rfl) trivial) qj4 K0
theorem ok19 {T:Told} (H:qaf T):qap T Tryd.prog 19 c19 :=
 qmb H.ty (n19 H) hm (lh:=qeR) (ct:=c19) (wi:=w19) (dcd:=fun y=>(y.2.1,y.2.2.1,y.2.2.2.1,y.2.2.2.2.1)) Tryd.func19 (by kernel_rfl) (by rfl) (q1q (l:=[(.loop (q3q 2 (q4q Tryd.f19) .skip),⟨qb0,qcA,lp qa4 K0⟩)]) (by kernel_rfl) ⟨qj3 H,trivial⟩) (fun _=>rfl) rfl (fun x r h=>(qj5 x.1 x.2.1 x.2.2.1 x.2.2.2.1).trans h)
theorem qt5 {T:Told} (H:qaf T):qaw T Tryd.prog (envL qqk):=q5q (l:=qqk) ⟨ok9 H,ok19 H,ok35 H,trivial⟩
theorem qgh {T:Told} (H:qaf T):q12q T Tryd.prog 34 (.loop (q3q 5 (q4q Tryd.f17) .skip)) ⟨qaU,qbh,lp qaq K0⟩ :=
 q7q H.ty (qt5 H) hm (q1q (l:=[]) (by kernel_rfl) trivial) qgi K0
theorem quJ {T:Told} (H:qaf T):qap T Tryd.prog 17 qoI :=
 qmb H.ty (qt5 H) hm (lh:=qcs) (ct:=qoI) (wi:=qrv) (dcd:=fun y=>(y.2.1,y.2.2.1,y.2.2.2.1,y.2.2.2.2.1,y.2.2.2.2.2.1)) Tryd.func17 (by kernel_rfl) (by rfl) (q1q (l:=[(.loop (q3q 5 (q4q Tryd.f17) .skip),⟨qaU,qbh,lp qaq K0⟩)]) (by kernel_rfl) ⟨qgh H,trivial⟩) (fun _=>rfl) rfl (fun x r h=>(qgj x.1 x.2.1 x.2.2.1 x.2.2.2.1).trans h)
theorem n7 {T:Told} (H:qaf T):qaw T Tryd.prog (envL e7):=q5q (l:=e7) ⟨ok8 H,quJ H,trivial⟩
theorem ok7 {T:Told} (H:qaf T):qap T Tryd.prog 7 c7 :=
 qaH H.ty (n7 H) hm (lh:=qis) (ct:=c7) (dcd:=fun y=>(y.2.1,y.2.2.1)) Tryd.func7 (by kernel_rfl) (by rfl) (q1q (l:=[]) (by kernel_rfl) trivial) (by decide) (fun _=>rfl) (fun x r h=>(qmv x.1 x.2.1).trans h)
theorem n23 {T:Told} (H:qaf T):qaw T Tryd.prog (envL e23):=q5q (l:=e23) trivial
theorem qhr {T:Told} (H:qaf T):q12q T Tryd.prog 73 (.loop (q3q 4 (q4q Tryd.f23) .skip)) ⟨qbd,qbD,lp qan K0⟩ :=
 q7q H.ty (n23 H) hm (q1q (l:=[]) (by kernel_rfl) trivial) qht K0
theorem qhq {T:Told} (H:qaf T):q12q T Tryd.prog 73 (.loop (q3q 9 (q4q Tryd.f23) .skip)) ⟨qbc,qbC,lp qam K0⟩ :=
 q7q H.ty (n23 H) hm (q1q (l:=[]) (by kernel_rfl) trivial) qhs K0
theorem ok23 {T:Told} (H:qaf T):qap T Tryd.prog 23 c23 :=
 qaH H.ty (n23 H) hm (lh:=qb8) (ct:=c23) (dcd:=fun y=>(y.2.1)) Tryd.func23 (by kernel_rfl) (by rfl) (q1q (l:=[(.loop (q3q 4 (q4q Tryd.f23) .skip),⟨qbd,qbD,lp qan K0⟩),(.loop (q3q 9 (q4q Tryd.f23) .skip),⟨qbc,qbC,lp qam K0⟩)]) (by kernel_rfl) ⟨qhr H,qhq H,trivial⟩) (by decide) (fun _=>rfl) (fun x r h=>(qhu x.1 x.2.1).trans h)
theorem n10 {T:Told} (H:qaf T):qaw T Tryd.prog (envL e10):=q5q (l:=e10) ⟨ok23 H,trivial⟩
theorem qhM {T:Told} (H:qaf T):q12q T Tryd.prog 126 (.loop (q3q 9 (q4q Tryd.f10) .skip)) ⟨qbu,qbK,lp qaC K0⟩ :=
 q7q H.ty (n10 H) hm (q1q (l:=[]) (by kernel_rfl) trivial) qhO K0
theorem qhN {T:Told} (H:qaf T):q12q T Tryd.prog 126 (.loop (q3q 4 (q4q Tryd.f10) .skip)) ⟨qbv,qbL,lp qaD K0⟩ :=
 q7q H.ty (n10 H) hm (q1q (l:=[(.loop (q3q 9 (q4q Tryd.f10) .skip),⟨qbu,qbK,lp qaC K0⟩)]) (by kernel_rfl) ⟨qhM H,trivial⟩) qhP K0
theorem ok10 {T:Told} (H:qaf T):qap T Tryd.prog 10 c10 :=
 qaH H.ty (n10 H) hm (lh:=qcd) (ct:=c10) (dcd:=fun y=>(y.2.1)) Tryd.func10 (by kernel_rfl) (by rfl) (q1q (l:=[(.loop (q3q 4 (q4q Tryd.f10) .skip),⟨qbv,qbL,lp qaD K0⟩)]) (by kernel_rfl) ⟨qhN H,trivial⟩) (by decide) (fun _=>rfl) (fun x r h=>(qhQ x.1 x.2.1).trans h)
theorem n44 {T:Told} (H:qaf T):qaw T Tryd.prog (envL e44):=q5q (l:=e44) ⟨ok45 H,ok57 H,trivial⟩
theorem ok44 {T:Told} (H:qaf T):qap T Tryd.prog 44 c44 :=
 qaH H.ty (n44 H) hm (lh:=qkn) (ct:=c44) (dcd:=fun y=>(y.2.1)) Tryd.func44 (by kernel_rfl) (by rfl) (q1q (l:=[]) (by kernel_rfl) trivial) (by decide) (fun _=>rfl) (fun x r h=>(qoN x.1).trans h)
theorem n25 {T:Told} (H:qaf T):qaw T Tryd.prog (envL e25):=q5q (l:=e25) ⟨ok44 H,ok45 H,trivial⟩
theorem ok25 {T:Told} (H:qaf T):qap T Tryd.prog 25 c25 :=
 qaH H.ty (n25 H) hm (lh:=qkN) (ct:=c25) (dcd:=fun y=>(y.2.1)) Tryd.func25 (by kernel_rfl) (by rfl) (q1q (l:=[]) (by kernel_rfl) trivial) (by decide) (fun _=>rfl) (fun x r h=>(qoY x.1).trans h)
theorem n24 {T:Told} (H:qaf T):qaw T Tryd.prog (envL e24):=q5q (l:=e24) ⟨ok25 H,trivial⟩
theorem ok24 {T:Told} (H:qaf T):qap T Tryd.prog 24 c24 :=
 qaH H.ty (n24 H) hm (lh:=qjI) (ct:=c24) (dcd:=fun y=>(y.2.1)) Tryd.func24 (by kernel_rfl) (by rfl) (q1q (l:=[]) (by kernel_rfl) trivial) (by decide) (fun _=>rfl) (fun x r h=>(qnG ).trans h)
theorem n48 {T:Told} (H:qaf T) (n:Nat) (hr:qap T Tryd.prog 48 (c48 n)):qaw T Tryd.prog (envL (e48 n)):=q5q (l:=(e48 n)) ⟨hr,trivial⟩
theorem ok48 {T:Told} (H:qaf T):∀ n,qap T Tryd.prog 48 (c48 n)
 | 0=>qap.never Tryd.func48 (by kernel_rfl) (by rfl) (fun _=>rfl)
 | n+1=>qaH H.ty (n48 H n (ok48 H n)) hm (lh:=qhU n) (ct:=c48 (n+1)) (dcd:=fun y=>(y.2.1,y.2.2.1)) Tryd.func48 (by kernel_rfl) (by rfl) (q1q (l:=[]) (by kernel_rfl) trivial) (Nat.le_of_ble_eq_true rfl) (fun _=>rfl) (fun x r h=>(qly n x.1 x.2.1 x.2.2.1).trans h)
theorem n59 {T:Told} (H:qaf T):qaw T Tryd.prog (envL e59):=q5q (l:=e59) ⟨ok9 H,trivial⟩
theorem ok59 {T:Told} (H:qaf T):qap T Tryd.prog 59 c59 :=
 qaH H.ty (n59 H) hm (lh:=qir) (ct:=c59) (dcd:=fun y=>(y.2.1)) Tryd.func59 (by kernel_rfl) (by rfl) (q1q (l:=[]) (by kernel_rfl) trivial) (by decide) (fun _=>rfl) (fun x r h=>(qmr x.1 x.2.1).trans h)
theorem n46 {T:Told} (H:qaf T):qaw T Tryd.prog (envL e46):=q5q (l:=e46) ⟨ok35 H,ok48 H R0,ok59 H,trivial⟩
theorem ok46 {T:Told} (H:qaf T):qap T Tryd.prog 46 c46 :=
 qaH H.ty (n46 H) hm (lh:=qiu) (ct:=c46) (dcd:=fun y=>(y.2.1,y.2.2.1)) Tryd.func46 (by kernel_rfl) (by rfl) (q1q (l:=[]) (by kernel_rfl) trivial) (by decide) (fun _=>rfl) (fun x r h=>(qmx x.1 x.2.1).trans h)
theorem n47 {T:Told} (H:qaf T) (n:Nat) (hr:qap T Tryd.prog 47 (c47 n)):qaw T Tryd.prog (envL (e47 n)):=q5q (l:=(e47 n)) ⟨ok13 H,hr,trivial⟩
theorem ok47 {T:Told} (H:qaf T):∀ n,qap T Tryd.prog 47 (c47 n)
 | 0=>qap.never Tryd.func47 (by kernel_rfl) (by rfl) (fun _=>rfl)
 | n+1=>qaH H.ty (n47 H n (ok47 H n)) hm (lh:=qhT n) (ct:=c47 (n+1)) (dcd:=fun y=>(y.1.1)) Tryd.func47 (by kernel_rfl) (by rfl) (q1q (l:=[]) (by kernel_rfl) trivial) (Nat.le_of_ble_eq_true rfl) (fun _=>rfl) (fun x r h=>(qlx n x.1 x.2.1).trans h)
theorem n26 {T:Told} (H:qaf T):qaw T Tryd.prog (envL e26):=q5q (l:=e26) ⟨ok46 H,ok47 H R0,ok48 H R0,trivial⟩
theorem ok26 {T:Told} (H:qaf T):qap T Tryd.prog 26 c26 :=
 qaH H.ty (n26 H) hm (lh:=qhV) (ct:=c26) (dcd:=fun y=>(y.2.1,y.2.2.1)) Tryd.func26 (by kernel_rfl) (by rfl) (q1q (l:=[]) (by kernel_rfl) trivial) (by decide) (fun _=>rfl) (fun x r h=>(qlz x.1 x.2.1).trans h)
theorem n11 {T:Told} (H:qaf T):qaw T Tryd.prog (envL e11):=q5q (l:=e11) ⟨ok13 H,ok24 H,ok25 H,ok26 H,trivial⟩
theorem qhx {r} (h:c11.F ()=r):qaa=r:=by
 subst h
 delta c11
 exact(@F_in [] _ _ (fun _=>qaa) _ _ () _ rfl).symm
theorem qhv (x) (r:c11.T) (h:c11.F x=some r):fnF tb (envL e11) Tryd.f11 qc2 c11.ps c11.rs (T:=c11.T) (fun y=>(y.2.1)) x=some r:=by
 cases x;exact qhw.trans (qhx h)
theorem ok11 {T:Told} (H:qaf T):qap T Tryd.prog 11 c11 :=
 qaH H.ty (n11 H) hm (lh:=qc2) (ct:=c11) (dcd:=fun y=>(y.2.1)) Tryd.func11 (by kernel_rfl) (by rfl) (q1q (l:=[]) (by kernel_rfl) trivial) (by decide) (fun _=>rfl) (fun x r h=>qhv x r h)
theorem n51 {T:Told} (H:qaf T):qaw T Tryd.prog (envL e51):=q5q (l:=e51) trivial
theorem qiV {T:Told} (H:qaf T):q12q T Tryd.prog 16 (.loop (q3q 2 (q4q Tryd.f51) .skip)) ⟨qbF,qb9,lp qaK K0⟩ :=
 q7q H.ty (n51 H) hm (q1q (l:=[]) (by kernel_rfl) trivial) qiW K0
theorem ok51 {T:Told} (H:qaf T):qap T Tryd.prog 51 c51 :=
 qaH H.ty (n51 H) hm (lh:=qd9) (ct:=c51) (dcd:=fun y=>(y.2.1)) Tryd.func51 (by kernel_rfl) (by rfl) (q1q (l:=[(.loop (q3q 2 (q4q Tryd.f51) .skip),⟨qbF,qb9,lp qaK K0⟩)]) (by kernel_rfl) ⟨qiV H,trivial⟩) (by decide) (fun _=>rfl) (fun x r h=>(qiX x.1 x.2.1).trans h)
theorem n63 {T:Told} (H:qaf T):qaw T Tryd.prog (envL e63):=q5q (l:=e63) ⟨ok30 H,trivial⟩
theorem ok63 {T:Told} (H:qaf T):qap T Tryd.prog 63 c63 :=
 qaH H.ty (n63 H) hm (lh:=qiw) (ct:=c63) (dcd:=fun y=>(y.2.1)) Tryd.func63 (by kernel_rfl) (by rfl) (q1q (l:=[]) (by kernel_rfl) trivial) (by decide) (fun _=>rfl) (fun x r h=>(qmE x.1 x.2.1).trans h)
theorem n52 {T:Told} (H:qaf T):qaw T Tryd.prog (envL e52):=q5q (l:=e52) ⟨ok63 H,trivial⟩
theorem ok52 {T:Told} (H:qaf T):qap T Tryd.prog 52 c52 :=
 qaH H.ty (n52 H) hm (lh:=qix) (ct:=c52) (dcd:=fun y=>(y.2.1)) Tryd.func52 (by kernel_rfl) (by rfl) (q1q (l:=[]) (by kernel_rfl) trivial) (by decide) (fun _=>rfl) (fun x r h=>(qmF x.1 x.2.1).trans h)
theorem n80 {T:Told} (H:qaf T):qaw T Tryd.prog (envL e80):=q5q (l:=e80) ⟨ok36 H,ok57 H,trivial⟩
theorem ok80 {T:Told} (H:qaf T):qap T Tryd.prog 80 c80 :=
 qaH H.ty (n80 H) hm (lh:=qjz) (ct:=c80) (dcd:=fun y=>(y.2.1)) Tryd.func80 (by kernel_rfl) (by rfl) (q1q (l:=[]) (by kernel_rfl) trivial) (by decide) (fun _=>rfl) (fun x r h=>(qnm x.1).trans h)
theorem n75 {T:Told} (H:qaf T):qaw T Tryd.prog (envL e75):=q5q (l:=e75) ⟨ok20 H,ok31 H,ok36 H,ok80 H,trivial⟩
theorem ok75 {T:Told} (H:qaf T):qap T Tryd.prog 75 c75 :=
 qaH H.ty (n75 H) hm (lh:=qiF) (ct:=c75) (dcd:=fun y=>(y.2.1,y.2.2.1)) Tryd.func75 (by kernel_rfl) (by rfl) (q1q (l:=[]) (by kernel_rfl) trivial) (by decide) (fun _=>rfl) (fun x r h=>(qmL x.1 x.2.1).trans h)
theorem n64 {T:Told} (H:qaf T):qaw T Tryd.prog (envL e64):=q5q (l:=e64) ⟨ok21 H,ok50 H,ok75 H,trivial⟩
theorem ok64 {T:Told} (H:qaf T):qap T Tryd.prog 64 c64 :=
 qaH H.ty (n64 H) hm (lh:=qjK) (ct:=c64) (dcd:=fun y=>(y.2.1,y.2.2.1)) Tryd.func64 (by kernel_rfl) (by rfl) (q1q (l:=[]) (by kernel_rfl) trivial) (by decide) (fun _=>rfl) (fun x r h=>(qnJ x.1).trans h)
theorem n53 {T:Told} (H:qaf T):qaw T Tryd.prog (envL e53):=q5q (l:=e53) ⟨ok14 H,ok64 H,trivial⟩
theorem ok53 {T:Told} (H:qaf T):qap T Tryd.prog 53 c53 :=
 qaH H.ty (n53 H) hm (lh:=qjM) (ct:=c53) (dcd:=fun y=>(y.2.1,y.2.2.1)) Tryd.func53 (by kernel_rfl) (by rfl) (q1q (l:=[]) (by kernel_rfl) trivial) (by decide) (fun _=>rfl) (fun x r h=>(qnK x.1 x.2.1).trans h)
theorem n29 {T:Told} (H:qaf T) (n:Nat) (hr:qap T Tryd.prog 29 (c29 n)):qaw T Tryd.prog (envL (e29 n)):=q5q (l:=(e29 n)) ⟨ok14 H,ok28 H,hr,ok51 H,ok52 H,ok53 H,trivial⟩
theorem ok29 {T:Told} (H:qaf T):∀ n,qap T Tryd.prog 29 (c29 n)
 | 0=>qap.never Tryd.func29 (by kernel_rfl) (by rfl) (fun _=>rfl)
 | n+1=>qaH H.ty (n29 H n (ok29 H n)) hm (lh:=qeK n) (ct:=c29 (n+1)) (dcd:=fun y=>(y.2.1)) Tryd.func29 (by kernel_rfl) (by rfl) (q1q (l:=[]) (by kernel_rfl) trivial) (Nat.le_of_ble_eq_true rfl) (fun _=>rfl) (fun x r h=>(qhy n x.1 x.2.1 x.2.2.1 x.2.2.2.1).trans h)
theorem n12 {T:Told} (H:qaf T):qaw T Tryd.prog (envL e12):=q5q (l:=e12) ⟨ok27 H,ok28 H,ok29 H R0,trivial⟩
theorem qhz {T:Told} (H:qaf T):q12q T Tryd.prog 28 (.loop (q3q 3 (q4q Tryd.f12) .skip)) ⟨qbe,qbE,lp qai K0⟩ :=
 q7q H.ty (n12 H) hm (q1q (l:=[]) (by kernel_rfl) trivial) qhA K0
theorem ok12 {T:Told} (H:qaf T):qap T Tryd.prog 12 c12 :=
 qaH H.ty (n12 H) hm (lh:=qc4) (ct:=c12) (dcd:=fun y=>(y.2.1)) Tryd.func12 (by kernel_rfl) (by rfl) (q1q (l:=[(.loop (q3q 3 (q4q Tryd.f12) .skip),⟨qbe,qbE,lp qai K0⟩)]) (by kernel_rfl) ⟨qhz H,trivial⟩) (by decide) (fun _=>rfl) (fun x r h=>(qhB x.1 x.2.1 x.2.2.1).trans h)
theorem n3 {T:Told} (H:qaf T):qaw T Tryd.prog (envL e3):=q5q (l:=e3) ⟨ok4 H,ok5 H,ok6 H,ok7 H,ok8 H,ok9 H,ok10 H,ok11 H,ok12 H,ok13 H,ok14 H,trivial⟩
theorem ok3 {T:Told} (H:qaf T):qap T Tryd.prog 3 c3 :=
 qaH H.ty (n3 H) hm (lh:=qdf) (ct:=c3) (dcd:=fun y=>(y.2.1)) Tryd.func3 (by kernel_rfl) (by rfl) (q1q (l:=[]) (by kernel_rfl) trivial) (by decide) (fun _=>rfl) (fun x r h=>(qfy x.1 x.2.1 x.2.2.1 x.2.2.2.1).trans h)
end Go.Proofs.YtlagkhlolphmdaaDoor.X
