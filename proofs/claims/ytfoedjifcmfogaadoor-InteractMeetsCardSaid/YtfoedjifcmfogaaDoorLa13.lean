/- Own work: part of the proof; the first line of each part says what it tells. -/
import Derived.Test.YtfoedjifcmfogaaDoorLa10
import Derived.Test.YtfoedjifcmfogaaDoorLa12


namespace Go.Proofs.YtfoedjifcmfogaaDoor.X
open Go
set_option linter.unusedVariables false
set_option linter.unusedSimpArgs false
set_option maxRecDepth 100000
theorem F_in {ps:List (Ty×PM)} {rs:List (Ty×Bool)} {T:Type} {F:HL (fsts ps)->Option T} {enc:T->HL (qfZ ps)×HL (fsts rs)} {wi:Option Wir} (x:HL (fsts ps)) {r:Option T} (h:F x=r):(Ctr.mk ps rs T F enc wi).F x=r:=h
theorem hm:Tryd.prog.follows .mixedOrders=true:=by kernel_rfl
structure qad (T:Told):Prop where
 ty:TbOk Tryd.prog tb
 h92:qai T Tryd.prog 92 c92
 h98:qai T Tryd.prog 98 c98
theorem n14 {T:Told} (H:qad T):qal T Tryd.prog (envL e14):=q5q (l:=e14) trivial
theorem ok14 {T:Told} (H:qad T):qai T Tryd.prog 14 c14 :=
 qaB H.ty (n14 H) hm (lh:=qeq) (ct:=c14) (dcd:=fun y=>(y.2.1)) Tryd.func14 (by kernel_rfl) (by rfl) (q1q (l:=[]) (by kernel_rfl) trivial) (by decide) (fun _=>rfl) (fun x r h=>(qhf x.1).trans h)
theorem n5 {T:Told} (H:qad T):qal T Tryd.prog (envL e5):=q5q (l:=e5) ⟨ok14 H,trivial⟩
theorem qiG {T:Told} (H:qad T):q12q T Tryd.prog 67 (.loop (q3q 7 (q4q Tryd.f5) .skip)) ⟨qbA,qbQ,lp qat K0⟩ :=
 q7q H.ty (n5 H) hm (q1q (l:=[]) (by kernel_rfl) trivial) qiI K0
theorem qiH {T:Told} (H:qad T):q12q T Tryd.prog 67 (.loop (q3q 3 (q4q Tryd.f5) .skip)) ⟨qbB,qbR,lp qau K0⟩ :=
 q7q H.ty (n5 H) hm (q1q (l:=[(.loop (q3q 7 (q4q Tryd.f5) .skip),⟨qbA,qbQ,lp qat K0⟩)]) (by kernel_rfl) ⟨qiG H,trivial⟩) qiJ K0
theorem ok5 {T:Told} (H:qad T):qai T Tryd.prog 5 c5 :=
 qaB H.ty (n5 H) hm (lh:=qcC) (ct:=c5) (dcd:=fun y=>(y.2.1)) Tryd.func5 (by kernel_rfl) (by rfl) (q1q (l:=[(.loop (q3q 3 (q4q Tryd.f5) .skip),⟨qbB,qbR,lp qau K0⟩)]) (by kernel_rfl) ⟨qiH H,trivial⟩) (by decide) (fun _=>rfl) (fun x r h=>(qiK x.1).trans h)
theorem n54 {T:Told} (H:qad T):qal T Tryd.prog (envL e54):=q5q (l:=e54) trivial
theorem qo6 {T:Told} (H:qad T):q12q T Tryd.prog 23 (.loop (q3q 2 (q4q Tryd.f54) .skip)) ⟨qez,qfF,lp qcz K0⟩ :=
 q7q H.ty (n54 H) hm (q1q (l:=[]) (by kernel_rfl) trivial) qo7 K0
theorem ok54 {T:Told} (H:qad T):qai T Tryd.prog 54 c54 :=
 qaB H.ty (n54 H) hm (lh:=qiy) (ct:=c54) (dcd:=fun y=>(y.2.1)) Tryd.func54 (by kernel_rfl) (by rfl) (q1q (l:=[(.loop (q3q 2 (q4q Tryd.f54) .skip),⟨qez,qfF,lp qcz K0⟩)]) (by kernel_rfl) ⟨qo6 H,trivial⟩) (by decide) (fun _=>rfl) (fun x r h=>(qo8 x.1).trans h)
theorem n33 {T:Told} (H:qad T):qal T Tryd.prog (envL e33):=q5q (l:=e33) ⟨ok54 H,trivial⟩
theorem ok33 {T:Told} (H:qad T):qai T Tryd.prog 33 c33 :=
 qaB H.ty (n33 H) hm (lh:=qoh) (ct:=c33) (dcd:=fun y=>(y.2.1)) Tryd.func33 (by kernel_rfl) (by rfl) (q1q (l:=[]) (by kernel_rfl) trivial) (by decide) (fun _=>rfl) (fun x r h=>(qrN x.1).trans h)
theorem n53 {T:Told} (H:qad T):qal T Tryd.prog (envL e53):=q5q (l:=e53) trivial
theorem ok53 {T:Told} (H:qad T):qai T Tryd.prog 53 c53 :=
 qaB H.ty (n53 H) hm (lh:=qiN) (ct:=c53) (dcd:=fun y=>(y.2.1)) Tryd.func53 (by kernel_rfl) (by rfl) (q1q (l:=[]) (by kernel_rfl) trivial) (by decide) (fun _=>rfl) (fun x r h=>(qmx x.1 x.2.1).trans h)
theorem n32 {T:Told} (H:qad T):qal T Tryd.prog (envL e32):=q5q (l:=e32) ⟨ok33 H,ok53 H,trivial⟩
theorem ok32 {T:Told} (H:qad T):qai T Tryd.prog 32 c32 :=
 qaB H.ty (n32 H) hm (lh:=qkP) (ct:=c32) (dcd:=fun y=>(y.2.1)) Tryd.func32 (by kernel_rfl) (by rfl) (q1q (l:=[]) (by kernel_rfl) trivial) (by decide) (fun _=>rfl) (fun x r h=>(qoR x.1).trans h)
theorem n16 {T:Told} (H:qad T):qal T Tryd.prog (envL e16):=q5q (l:=e16) ⟨ok32 H,ok33 H,trivial⟩
theorem ok16 {T:Told} (H:qad T):qai T Tryd.prog 16 c16 :=
 qaB H.ty (n16 H) hm (lh:=qld) (ct:=c16) (dcd:=fun y=>(y.2.1)) Tryd.func16 (by kernel_rfl) (by rfl) (q1q (l:=[]) (by kernel_rfl) trivial) (by decide) (fun _=>rfl) (fun x r h=>(qo0 x.1).trans h)
theorem n15 {T:Told} (H:qad T):qal T Tryd.prog (envL e15):=q5q (l:=e15) ⟨ok16 H,trivial⟩
theorem ok15 {T:Told} (H:qad T):qai T Tryd.prog 15 c15 :=
 qaB H.ty (n15 H) hm (lh:=qkh) (ct:=c15) (dcd:=fun y=>(y.2.1)) Tryd.func15 (by kernel_rfl) (by rfl) (q1q (l:=[]) (by kernel_rfl) trivial) (by decide) (fun _=>rfl) (fun x r h=>(qnM ).trans h)
theorem n45 {T:Told} (H:qad T):qal T Tryd.prog (envL e45):=q5q (l:=e45) ⟨ok33 H,trivial⟩
theorem ok45 {T:Told} (H:qad T):qai T Tryd.prog 45 c45 :=
 qaB H.ty (n45 H) hm (lh:=qiX) (ct:=c45) (dcd:=fun y=>(y.2.1)) Tryd.func45 (by kernel_rfl) (by rfl) (q1q (l:=[]) (by kernel_rfl) trivial) (by decide) (fun _=>rfl) (fun x r h=>(qmP ).trans h)
theorem n51 {T:Told} (H:qad T):qal T Tryd.prog (envL e51):=q5q (l:=e51) ⟨ok54 H,trivial⟩
theorem qoi {T:Told} (H:qad T):q12q T Tryd.prog 24 (.loop (q3q 3 (q4q Tryd.f51) .skip)) ⟨qd0,qeV,lp qbZ K0⟩ :=
 q7q H.ty (n51 H) hm (q1q (l:=[]) (by kernel_rfl) trivial) qoj K0
theorem ok51 {T:Told} (H:qad T):qai T Tryd.prog 51 c51 :=
 qaB H.ty (n51 H) hm (lh:=qhK) (ct:=c51) (dcd:=fun y=>(y.2.1)) Tryd.func51 (by kernel_rfl) (by rfl) (q1q (l:=[(.loop (q3q 3 (q4q Tryd.f51) .skip),⟨qd0,qeV,lp qbZ K0⟩)]) (by kernel_rfl) ⟨qoi H,trivial⟩) (by decide) (fun _=>rfl) (fun x r h=>(qok x.1).trans h)
theorem n50 {T:Told} (H:qad T):qal T Tryd.prog (envL e50):=q5q (l:=e50) ⟨ok51 H,ok53 H,trivial⟩
theorem ok50 {T:Told} (H:qad T):qai T Tryd.prog 50 c50 :=
 qaB H.ty (n50 H) hm (lh:=qil) (ct:=c50) (dcd:=fun y=>(y.2.1)) Tryd.func50 (by kernel_rfl) (by rfl) (q1q (l:=[]) (by kernel_rfl) trivial) (by decide) (fun _=>rfl) (fun x r h=>(qlK x.1).trans h)
theorem n91 {T:Told} (H:qad T):qal T Tryd.prog (envL e91):=q5q (l:=e91) ⟨ok51 H,trivial⟩
theorem ok91 {T:Told} (H:qad T):qai T Tryd.prog 91 c91 :=
 qaB H.ty (n91 H) hm (lh:=qog) (ct:=c91) (dcd:=fun y=>(y.2.1,y.2.2.1)) Tryd.func91 (by kernel_rfl) (by rfl) (q1q (l:=[]) (by kernel_rfl) trivial) (by decide) (fun _=>rfl) (fun x r h=>(qrM x.1).trans h)
theorem n73 {T:Told} (H:qad T):qal T Tryd.prog (envL e73):=q5q (l:=e73) ⟨ok33 H,ok91 H,trivial⟩
theorem qmZ {T:Told} (H:qad T):q12q T Tryd.prog 27 (.loop (q3q 3 (q4q Tryd.f73) .skip)) ⟨qdc,qee,lp qbY K0⟩ :=
 q7q H.ty (n73 H) hm (q1q (l:=[]) (by kernel_rfl) trivial) qm0 K0
theorem ok73 {T:Told} (H:qad T):qai T Tryd.prog 73 c73 :=
 qaB H.ty (n73 H) hm (lh:=qgS) (ct:=c73) (dcd:=fun y=>(y.2.1)) Tryd.func73 (by kernel_rfl) (by rfl) (q1q (l:=[(.loop (q3q 3 (q4q Tryd.f73) .skip),⟨qdc,qee,lp qbY K0⟩)]) (by kernel_rfl) ⟨qmZ H,trivial⟩) (by decide) (fun _=>rfl) (fun x r h=>(qm1 x.1 x.2.1).trans h)
theorem n74 {T:Told} (H:qad T):qal T Tryd.prog (envL e74):=q5q (l:=e74) ⟨H.h92,trivial⟩
theorem qn1 {T:Told} (H:qad T):q12q T Tryd.prog 24 (.loop (q3q 3 (q4q Tryd.f74) .skip)) ⟨qdU,qeP,lp qcs K0⟩ :=
 q7q H.ty (n74 H) hm (q1q (l:=[]) (by kernel_rfl) trivial) qn2 K0
theorem ok74 {T:Told} (H:qad T):qai T Tryd.prog 74 c74 :=
 qaB H.ty (n74 H) hm (lh:=qhB) (ct:=c74) (dcd:=fun y=>(y.2.1)) Tryd.func74 (by kernel_rfl) (by rfl) (q1q (l:=[(.loop (q3q 3 (q4q Tryd.f74) .skip),⟨qdU,qeP,lp qcs K0⟩)]) (by kernel_rfl) ⟨qn1 H,trivial⟩) (by decide) (fun _=>rfl) (fun x r h=>(qn3 x.1).trans h)
theorem n90 {T:Told} (H:qad T):qal T Tryd.prog (envL e90):=q5q (l:=e90) trivial
theorem ok90 {T:Told} (H:qad T):qai T Tryd.prog 90 c90 :=
 qaB H.ty (n90 H) hm (lh:=qlr) (ct:=c90) (dcd:=fun y=>(y.2.1)) Tryd.func90 (by kernel_rfl) (by rfl) (q1q (l:=[]) (by kernel_rfl) trivial) (by decide) (fun _=>rfl) (fun x r h=>(qpg x.1 x.2.1).trans h)
theorem n75 {T:Told} (H:qad T):qal T Tryd.prog (envL e75):=q5q (l:=e75) ⟨ok54 H,ok90 H,trivial⟩
theorem qqF {T:Told} (H:qad T):q12q T Tryd.prog 50 (.loop (q3q 6 (q4q Tryd.f75) .skip)) ⟨qfr,qgp,lp qda K0⟩ :=
 q7q H.ty (n75 H) hm (q1q (l:=[]) (by kernel_rfl) trivial) qqG K0
theorem ok75 {T:Told} (H:qad T):qai T Tryd.prog 75 c75 :=
 qaB H.ty (n75 H) hm (lh:=qjL) (ct:=c75) (dcd:=fun y=>(y.2.1)) Tryd.func75 (by kernel_rfl) (by rfl) (q1q (l:=[(.loop (q3q 6 (q4q Tryd.f75) .skip),⟨qfr,qgp,lp qda K0⟩)]) (by kernel_rfl) ⟨qqF H,trivial⟩) (by decide) (fun _=>rfl) (fun x r h=>(qqH x.1 x.2.1).trans h)
theorem n76 {T:Told} (H:qad T):qal T Tryd.prog (envL e76):=q5q (l:=e76) trivial
theorem qn7 {T:Told} (H:qad T):q12q T Tryd.prog 45 (.loop (q3q 6 (q4q Tryd.f76) .skip)) ⟨qdW,qeR,lp qbN K0⟩ :=
 q7q H.ty (n76 H) hm (q1q (l:=[]) (by kernel_rfl) trivial) qn8 K0
theorem ok76 {T:Told} (H:qad T):qai T Tryd.prog 76 c76 :=
 qaB H.ty (n76 H) hm (lh:=qhE) (ct:=c76) (dcd:=fun y=>(y.2.1)) Tryd.func76 (by kernel_rfl) (by rfl) (q1q (l:=[(.loop (q3q 6 (q4q Tryd.f76) .skip),⟨qdW,qeR,lp qbN K0⟩)]) (by kernel_rfl) ⟨qn7 H,trivial⟩) (by decide) (fun _=>rfl) (fun x r h=>(qn9 x.1 x.2.1).trans h)
theorem n77 {T:Told} (H:qad T):qal T Tryd.prog (envL e77):=q5q (l:=e77) ⟨ok54 H,trivial⟩
theorem qqI {T:Told} (H:qad T):q12q T Tryd.prog 51 (.loop (q3q 4 (q4q Tryd.f77) .skip)) ⟨qfs,qgq,lp qdb K0⟩ :=
 q7q H.ty (n77 H) hm (q1q (l:=[]) (by kernel_rfl) trivial) qqJ K0
theorem ok77 {T:Told} (H:qad T):qai T Tryd.prog 77 c77 :=
 qaB H.ty (n77 H) hm (lh:=qjM) (ct:=c77) (dcd:=fun y=>(y.2.1)) Tryd.func77 (by kernel_rfl) (by rfl) (q1q (l:=[(.loop (q3q 4 (q4q Tryd.f77) .skip),⟨qfs,qgq,lp qdb K0⟩)]) (by kernel_rfl) ⟨qqI H,trivial⟩) (by decide) (fun _=>rfl) (fun x r h=>(qqK x.1 x.2.1).trans h)
theorem n80 {T:Told} (H:qad T):qal T Tryd.prog (envL e80):=q5q (l:=e80) ⟨ok54 H,trivial⟩
theorem qn4 {T:Told} (H:qad T):q12q T Tryd.prog 38 (.loop (q3q 4 (q4q Tryd.f80) .skip)) ⟨qdV,qeQ,lp qct K0⟩ :=
 q7q H.ty (n80 H) hm (q1q (l:=[]) (by kernel_rfl) trivial) qn5 K0
theorem ok80 {T:Told} (H:qad T):qai T Tryd.prog 80 c80 :=
 qaB H.ty (n80 H) hm (lh:=qhC) (ct:=c80) (dcd:=fun y=>(y.2.1,y.2.2.1)) Tryd.func80 (by kernel_rfl) (by rfl) (q1q (l:=[(.loop (q3q 4 (q4q Tryd.f80) .skip),⟨qdV,qeQ,lp qct K0⟩)]) (by kernel_rfl) ⟨qn4 H,trivial⟩) (by decide) (fun _=>rfl) (fun x r h=>(qn6 x.1 x.2.1).trans h)
theorem n93 {T:Told} (H:qad T):qal T Tryd.prog (envL e93):=q5q (l:=e93) ⟨H.h98,trivial⟩
theorem ok93 {T:Told} (H:qad T):qai T Tryd.prog 93 c93 :=
 qaB H.ty (n93 H) hm (lh:=qer) (ct:=c93) (dcd:=fun y=>(y.2.1)) Tryd.func93 (by kernel_rfl) (by rfl) (q1q (l:=[]) (by kernel_rfl) trivial) (by decide) (fun _=>rfl) (fun x r h=>(qhg x.1).trans h)
theorem n99 {T:Told} (H:qad T):qal T Tryd.prog (envL e99):=q5q (l:=e99) ⟨ok90 H,trivial⟩
theorem qo9 {T:Told} (H:qad T):q12q T Tryd.prog 46 (.loop (q3q 3 (q4q Tryd.f99) .skip)) ⟨qeA,qfG,lp qc5 K0⟩ :=
 q7q H.ty (n99 H) hm (q1q (l:=[]) (by kernel_rfl) trivial) qpa K0
theorem ok99 {T:Told} (H:qad T):qai T Tryd.prog 99 c99 :=
 qaB H.ty (n99 H) hm (lh:=qiz) (ct:=c99) (dcd:=fun y=>(y.1.1,y.2.1)) Tryd.func99 (by kernel_rfl) (by rfl) (q1q (l:=[(.loop (q3q 3 (q4q Tryd.f99) .skip),⟨qeA,qfG,lp qc5 K0⟩)]) (by kernel_rfl) ⟨qo9 H,trivial⟩) (by decide) (fun _=>rfl) (fun x r h=>(qpb x.1 x.2.1 x.2.2.1).trans h)
theorem n100 {T:Told} (H:qad T):qal T Tryd.prog (envL e100):=q5q (l:=e100) ⟨ok90 H,trivial⟩
theorem qph {T:Told} (H:qad T):q12q T Tryd.prog 29 (.loop (q3q 2 (q4q Tryd.f100) .skip)) ⟨qeC,qfJ,lp qc6 K0⟩ :=
 q7q H.ty (n100 H) hm (q1q (l:=[]) (by kernel_rfl) trivial) qpi K0
theorem qvI {T:Told} (H:qad T):qai T Tryd.prog 100 c100 :=
 qaB H.ty (n100 H) hm (lh:=qiB) (ct:=c100) (dcd:=fun y=>(y.1.1)) Tryd.func100 (by kernel_rfl) (by rfl) (q1q (l:=[(.loop (q3q 2 (q4q Tryd.f100) .skip),⟨qeC,qfJ,lp qc6 K0⟩)]) (by kernel_rfl) ⟨qph H,trivial⟩) (by decide) (fun _=>rfl) (fun x r h=>(qpj x.1 x.2.1).trans h)
theorem n94 {T:Told} (H:qad T):qal T Tryd.prog (envL e94):=q5q (l:=e94) ⟨ok99 H,qvI H,trivial⟩
theorem qod {T:Told} (H:qad T):q12q T Tryd.prog 77 (.loop (q3q 4 (q4q Tryd.f94) .skip)) ⟨qdY,qeU,lp qba K0⟩ :=
 q7q H.ty (n94 H) hm (q1q (l:=[]) (by kernel_rfl) trivial) qoe K0
theorem ok94 {T:Told} (H:qad T):qai T Tryd.prog 94 c94 :=
 qaB H.ty (n94 H) hm (lh:=qhG) (ct:=c94) (dcd:=fun y=>(y.1.1,y.2.1)) Tryd.func94 (by kernel_rfl) (by rfl) (q1q (l:=[(.loop (q3q 4 (q4q Tryd.f94) .skip),⟨qdY,qeU,lp qba K0⟩)]) (by kernel_rfl) ⟨qod H,trivial⟩) (by decide) (fun _=>rfl) (fun x r h=>(qof x.1 x.2.1).trans h)
theorem n81 {T:Told} (H:qad T):qal T Tryd.prog (envL e81):=q5q (l:=e81) ⟨ok54 H,ok75 H,ok77 H,ok93 H,ok94 H,trivial⟩
theorem qpd {T:Told} (H:qad T):q12q T Tryd.prog 64 (.loop (q3q 7 (q4q Tryd.f81) .skip)) ⟨qeB,qfI,lp qcB K0⟩ :=
 q7q H.ty (n81 H) hm (q1q (l:=[]) (by kernel_rfl) trivial) qpe K0
theorem ok81 {T:Told} (H:qad T):qai T Tryd.prog 81 c81 :=
 qaB H.ty (n81 H) hm (lh:=qiA) (ct:=c81) (dcd:=fun y=>(y.2.1,y.2.2.1)) Tryd.func81 (by kernel_rfl) (by rfl) (q1q (l:=[(.loop (q3q 7 (q4q Tryd.f81) .skip),⟨qeB,qfI,lp qcB K0⟩)]) (by kernel_rfl) ⟨qpd H,trivial⟩) (by decide) (fun _=>rfl) (fun x r h=>(qpf x.1 x.2.1).trans h)
theorem n65 {T:Told} (H:qad T):qal T Tryd.prog (envL e65):=q5q (l:=e65) ⟨ok33 H,ok51 H,ok76 H,ok80 H,ok81 H,trivial⟩
theorem ok65 {T:Told} (H:qad T):qai T Tryd.prog 65 c65 :=
 qaB H.ty (n65 H) hm (lh:=qjd) (ct:=c65) (dcd:=fun y=>(y.2.1,y.2.2.1,y.2.2.2.1)) Tryd.func65 (by kernel_rfl) (by rfl) (q1q (l:=[]) (by kernel_rfl) trivial) (by decide) (fun _=>rfl) (fun x r h=>(qm2 x.1 x.2.1).trans h)
theorem n78 {T:Told} (H:qad T):qal T Tryd.prog (envL e78):=q5q (l:=e78) ⟨ok65 H,trivial⟩
theorem ok78 {T:Told} (H:qad T):qai T Tryd.prog 78 c78 :=
 qaB H.ty (n78 H) hm (lh:=qlq) (ct:=c78) (dcd:=fun y=>(y.2.1,y.2.2.1)) Tryd.func78 (by kernel_rfl) (by rfl) (q1q (l:=[]) (by kernel_rfl) trivial) (by decide) (fun _=>rfl) (fun x r h=>(qpc x.1 x.2.1).trans h)
theorem n79 {T:Told} (H:qad T):qal T Tryd.prog (envL e79):=q5q (l:=e79) ⟨ok54 H,ok90 H,trivial⟩
theorem qoa {T:Told} (H:qad T):q12q T Tryd.prog 39 (.loop (q3q 4 (q4q Tryd.f79) .skip)) ⟨qdX,qeT,lp qcu K0⟩ :=
 q7q H.ty (n79 H) hm (q1q (l:=[]) (by kernel_rfl) trivial) qob K0
theorem ok79 {T:Told} (H:qad T):qai T Tryd.prog 79 c79 :=
 qaB H.ty (n79 H) hm (lh:=qhF) (ct:=c79) (dcd:=fun y=>(y.2.1)) Tryd.func79 (by kernel_rfl) (by rfl) (q1q (l:=[(.loop (q3q 4 (q4q Tryd.f79) .skip),⟨qdX,qeT,lp qcu K0⟩)]) (by kernel_rfl) ⟨qoa H,trivial⟩) (by decide) (fun _=>rfl) (fun x r h=>(qoc x.1 x.2.1).trans h)
theorem n64 {T:Told} (H:qad T):qal T Tryd.prog (envL e64):=q5q (l:=e64) ⟨ok51 H,ok73 H,ok74 H,ok75 H,ok76 H,ok77 H,ok78 H,ok79 H,trivial⟩
theorem qpk {T:Told} (H:qad T):q12q T Tryd.prog 86 (.loop (q3q 10 (q4q Tryd.f64) .skip)) ⟨qeD,qfK,lp qbm K0⟩ :=
 q7q H.ty (n64 H) hm (q1q (l:=[]) (by kernel_rfl) trivial) qpl K0
theorem ok64 {T:Told} (H:qad T):qai T Tryd.prog 64 c64 :=
 qaB H.ty (n64 H) hm (lh:=qjN) (ct:=c64) (dcd:=fun y=>(y.2.1)) Tryd.func64 (by kernel_rfl) (by rfl) (q1q (l:=[(.loop (q3q 10 (q4q Tryd.f64) .skip),⟨qeD,qfK,lp qbm K0⟩)]) (by kernel_rfl) ⟨qpk H,trivial⟩) (by decide) (fun _=>rfl) (fun x r h=>(qqR x.1 x.2.1).trans h)
theorem n52 {T:Told} (H:qad T):qal T Tryd.prog (envL e52):=q5q (l:=e52) ⟨ok33 H,ok64 H,ok65 H,trivial⟩
theorem ok52 {T:Told} (H:qad T):qai T Tryd.prog 52 c52 :=
 qaB H.ty (n52 H) hm (lh:=qiW) (ct:=c52) (dcd:=fun y=>(y.2.1)) Tryd.func52 (by kernel_rfl) (by rfl) (q1q (l:=[]) (by kernel_rfl) trivial) (by decide) (fun _=>rfl) (fun x r h=>(qmN x.1 x.2.1).trans h)
theorem n31 {T:Told} (H:qad T):qal T Tryd.prog (envL e31):=q5q (l:=e31) ⟨ok45 H,ok50 H,ok51 H,ok52 H,trivial⟩
theorem ok31 {T:Told} (H:qad T):qai T Tryd.prog 31 c31 :=
 qaB H.ty (n31 H) hm (lh:=qip) (ct:=c31) (dcd:=fun y=>(y.2.1)) Tryd.func31 (by kernel_rfl) (by rfl) (q1q (l:=[]) (by kernel_rfl) trivial) (by decide) (fun _=>rfl) (fun x r h=>(qlU x.1).trans h)
theorem n30 {T:Told} (H:qad T):qal T Tryd.prog (envL e30):=q5q (l:=e30) ⟨ok50 H,trivial⟩
theorem ok30 {T:Told} (H:qad T):qai T Tryd.prog 30 c30 :=
 qaB H.ty (n30 H) hm (lh:=qiO) (ct:=c30) (dcd:=fun y=>(y.2.1)) Tryd.func30 (by kernel_rfl) (by rfl) (q1q (l:=[]) (by kernel_rfl) trivial) (by decide) (fun _=>rfl) (fun x r h=>(qmy x.1).trans h)
theorem n59 {T:Told} (H:qad T):qal T Tryd.prog (envL e59):=q5q (l:=e59) ⟨ok50 H,ok53 H,trivial⟩
theorem ok59 {T:Told} (H:qad T):qai T Tryd.prog 59 c59 :=
 qaB H.ty (n59 H) hm (lh:=qj7) (ct:=c59) (dcd:=fun y=>(y.2.1)) Tryd.func59 (by kernel_rfl) (by rfl) (q1q (l:=[]) (by kernel_rfl) trivial) (by decide) (fun _=>rfl) (fun x r h=>(qnr x.1).trans h)
theorem n36 {T:Told} (H:qad T):qal T Tryd.prog (envL e36):=q5q (l:=e36) ⟨ok30 H,ok50 H,ok52 H,ok59 H,trivial⟩
theorem ok36 {T:Told} (H:qad T):qai T Tryd.prog 36 c36 :=
 qaB H.ty (n36 H) hm (lh:=qi2) (ct:=c36) (dcd:=fun y=>(y.2.1,y.2.2.1)) Tryd.func36 (by kernel_rfl) (by rfl) (q1q (l:=[]) (by kernel_rfl) trivial) (by decide) (fun _=>rfl) (fun x r h=>(qmU x.1 x.2.1).trans h)
theorem n19 {T:Told} (H:qad T):qal T Tryd.prog (envL e19):=q5q (l:=e19) ⟨ok31 H,ok32 H,ok36 H,trivial⟩
theorem ok19 {T:Told} (H:qad T):qai T Tryd.prog 19 c19 :=
 qaB H.ty (n19 H) hm (lh:=qi4) (ct:=c19) (dcd:=fun y=>(y.2.1)) Tryd.func19 (by kernel_rfl) (by rfl) (q1q (l:=[]) (by kernel_rfl) trivial) (by decide) (fun _=>rfl) (fun x r h=>(qmV x.1 x.2.1).trans h)
theorem n62 {T:Told} (H:qad T):qal T Tryd.prog (envL e62):=q5q (l:=e62) ⟨ok51 H,ok54 H,trivial⟩
theorem qqM {T:Told} (H:qad T):q12q T Tryd.prog 67 (.loop (q3q 8 (q4q Tryd.f62) .skip)) ⟨qft,qgt,lp qdd K0⟩ :=
 q7q H.ty (n62 H) hm (q1q (l:=[]) (by kernel_rfl) trivial) qqO K0
theorem qqN {T:Told} (H:qad T):q12q T Tryd.prog 67 (.loop (q3q 4 (q4q Tryd.f62) .skip)) ⟨qfu,qgu,lp qdZ K0⟩ :=
 q7q H.ty (n62 H) hm (q1q (l:=[(.loop (q3q 8 (q4q Tryd.f62) .skip),⟨qft,qgt,lp qdd K0⟩)]) (by kernel_rfl) ⟨qqM H,trivial⟩) qqP K0
theorem ok62 {T:Told} (H:qad T):qai T Tryd.prog 62 c62 :=
 qaB H.ty (n62 H) hm (lh:=qh7) (ct:=c62) (dcd:=fun y=>(y.2.1)) Tryd.func62 (by kernel_rfl) (by rfl) (q1q (l:=[(.loop (q3q 4 (q4q Tryd.f62) .skip),⟨qfu,qgu,lp qdZ K0⟩)]) (by kernel_rfl) ⟨qqN H,trivial⟩) (by decide) (fun _=>rfl) (fun x r h=>(qqQ x.1 x.2.1).trans h)
theorem n57 {T:Told} (H:qad T):qal T Tryd.prog (envL e57):=q5q (l:=e57) ⟨ok50 H,ok53 H,ok62 H,trivial⟩
theorem ok57 {T:Told} (H:qad T):qai T Tryd.prog 57 c57 :=
 qaB H.ty (n57 H) hm (lh:=qj8) (ct:=c57) (dcd:=fun y=>(y.2.1)) Tryd.func57 (by kernel_rfl) (by rfl) (q1q (l:=[]) (by kernel_rfl) trivial) (by decide) (fun _=>rfl) (fun x r h=>(qns x.1 x.2.1).trans h)
theorem n58 {T:Told} (H:qad T):qal T Tryd.prog (envL e58):=q5q (l:=e58) trivial
theorem ok58 {T:Told} (H:qad T):qai T Tryd.prog 58 c58 :=
 qaB H.ty (n58 H) hm (lh:=qkf) (ct:=c58) (dcd:=fun y=>(y.2.1)) Tryd.func58 (by kernel_rfl) (by rfl) (q1q (l:=[]) (by kernel_rfl) trivial) (by decide) (fun _=>rfl) (fun x r h=>(qnH x.1).trans h)
theorem n66 {T:Told} (H:qad T):qal T Tryd.prog (envL e66):=q5q (l:=e66) ⟨ok51 H,ok76 H,trivial⟩
theorem ok66 {T:Told} (H:qad T):qai T Tryd.prog 66 c66 :=
 qaB H.ty (n66 H) hm (lh:=qmg) (ct:=c66) (dcd:=fun y=>(y.2.1)) Tryd.func66 (by kernel_rfl) (by rfl) (q1q (l:=[]) (by kernel_rfl) trivial) (by decide) (fun _=>rfl) (fun x r h=>(qqS x.1 x.2.1).trans h)
theorem n71 {T:Told} (H:qad T):qal T Tryd.prog (envL e71):=q5q (l:=e71) ⟨ok51 H,ok54 H,ok90 H,trivial⟩
theorem qqT {T:Told} (H:qad T):q12q T Tryd.prog 43 (.loop (q3q 5 (q4q Tryd.f71) .skip)) ⟨qfv,qgv,lp qd1 K0⟩ :=
 q7q H.ty (n71 H) hm (q1q (l:=[]) (by kernel_rfl) trivial) qqU K0
theorem ok71 {T:Told} (H:qad T):qai T Tryd.prog 71 c71 :=
 qaB H.ty (n71 H) hm (lh:=qjO) (ct:=c71) (dcd:=fun y=>(y.2.1)) Tryd.func71 (by kernel_rfl) (by rfl) (q1q (l:=[(.loop (q3q 5 (q4q Tryd.f71) .skip),⟨qfv,qgv,lp qd1 K0⟩)]) (by kernel_rfl) ⟨qqT H,trivial⟩) (by decide) (fun _=>rfl) (fun x r h=>(qqV x.1 x.2.1).trans h)
theorem n72 {T:Told} (H:qad T):qal T Tryd.prog (envL e72):=q5q (l:=e72) ⟨ok51 H,ok76 H,ok79 H,trivial⟩
theorem ok72 {T:Told} (H:qad T):qai T Tryd.prog 72 c72 :=
 qaB H.ty (n72 H) hm (lh:=qmf) (ct:=c72) (dcd:=fun y=>(y.2.1,y.2.2.1)) Tryd.func72 (by kernel_rfl) (by rfl) (q1q (l:=[]) (by kernel_rfl) trivial) (by decide) (fun _=>rfl) (fun x r h=>(qqL x.1 x.2.1).trans h)
theorem n63 {T:Told} (H:qad T):qal T Tryd.prog (envL e63):=q5q (l:=e63) ⟨ok50 H,ok53 H,ok66 H,ok71 H,ok72 H,trivial⟩
theorem ok63 {T:Told} (H:qad T):qai T Tryd.prog 63 c63 :=
 qaB H.ty (n63 H) hm (lh:=qka) (ct:=c63) (dcd:=fun y=>(y.2.1)) Tryd.func63 (by kernel_rfl) (by rfl) (q1q (l:=[]) (by kernel_rfl) trivial) (by decide) (fun _=>rfl) (fun x r h=>(qnu x.1 x.2.1).trans h)
theorem n48 {T:Told} (H:qad T):qal T Tryd.prog (envL e48):=q5q (l:=e48) ⟨ok31 H,ok52 H,ok57 H,ok58 H,ok62 H,ok63 H,trivial⟩
theorem ok48 {T:Told} (H:qad T):qai T Tryd.prog 48 c48 :=
 qaB H.ty (n48 H) hm (lh:=qkn) (ct:=c48) (dcd:=fun y=>(y.2.1)) Tryd.func48 (by kernel_rfl) (by rfl) (q1q (l:=[]) (by kernel_rfl) trivial) (by decide) (fun _=>rfl) (fun x r h=>(qnU x.1 x.2.1).trans h)
theorem n49 {T:Told} (H:qad T):qal T Tryd.prog (envL e49):=q5q (l:=e49) ⟨ok31 H,ok59 H,trivial⟩
theorem ok49 {T:Told} (H:qad T):qai T Tryd.prog 49 c49 :=
 qaB H.ty (n49 H) hm (lh:=qki) (ct:=c49) (dcd:=fun y=>(y.2.1)) Tryd.func49 (by kernel_rfl) (by rfl) (q1q (l:=[]) (by kernel_rfl) trivial) (by decide) (fun _=>rfl) (fun x r h=>(qnN x.1).trans h)
theorem n28 {T:Told} (H:qad T):qal T Tryd.prog (envL e28):=q5q (l:=e28) ⟨ok48 H,ok49 H,trivial⟩
theorem ok28 {T:Told} (H:qad T):qai T Tryd.prog 28 c28 :=
 qaB H.ty (n28 H) hm (lh:=qkg) (ct:=c28) (dcd:=fun y=>(y.2.1)) Tryd.func28 (by kernel_rfl) (by rfl) (q1q (l:=[]) (by kernel_rfl) trivial) (by decide) (fun _=>rfl) (fun x r h=>(qnL x.1 x.2.1).trans h)
theorem n37 {T:Told} (H:qad T):qal T Tryd.prog (envL e37):=q5q (l:=e37) trivial
theorem qm4 {T:Told} (H:qad T):q12q T Tryd.prog 72 (.loop (q3q 9 (q4q Tryd.f37) .skip)) ⟨qdf,qef,lp qbo K0⟩ :=
 q7q H.ty (n37 H) hm (q1q (l:=[]) (by kernel_rfl) trivial) qm6 K0
theorem qm5 {T:Told} (H:qad T):q12q T Tryd.prog 72 (.loop (q3q 4 (q4q Tryd.f37) .skip)) ⟨qdg,qeg,lp qaQ K0⟩ :=
 q7q H.ty (n37 H) hm (q1q (l:=[(.loop (q3q 9 (q4q Tryd.f37) .skip),⟨qdf,qef,lp qbo K0⟩)]) (by kernel_rfl) ⟨qm4 H,trivial⟩) qm7 K0
theorem ok37 {T:Told} (H:qad T):qai T Tryd.prog 37 c37 :=
 qaB H.ty (n37 H) hm (lh:=qfg) (ct:=c37) (dcd:=fun y=>(y.2.1)) Tryd.func37 (by kernel_rfl) (by rfl) (q1q (l:=[(.loop (q3q 4 (q4q Tryd.f37) .skip),⟨qdg,qeg,lp qaQ K0⟩)]) (by kernel_rfl) ⟨qm5 H,trivial⟩) (by decide) (fun _=>rfl) (fun x r h=>(qm8 x.1).trans h)
theorem n38 {T:Told} (H:qad T):qal T Tryd.prog (envL e38):=q5q (l:=e38) trivial
theorem qkW {T:Told} (H:qad T):q12q T Tryd.prog 52 (.loop (q3q 2 (q4q Tryd.f38) .skip)) ⟨qci,qcV,lp qaI K0⟩ :=
 q7q H.ty (n38 H) hm (q1q (l:=[]) (by kernel_rfl) trivial) qkX K0
theorem ok38 {T:Told} (H:qad T):qai T Tryd.prog 38 c38 :=
 qaB H.ty (n38 H) hm (lh:=qfy) (ct:=c38) (dcd:=fun y=>(y.2.1,y.2.2.1)) Tryd.func38 (by kernel_rfl) (by rfl) (q1q (l:=[(.loop (q3q 2 (q4q Tryd.f38) .skip),⟨qci,qcV,lp qaI K0⟩)]) (by kernel_rfl) ⟨qkW H,trivial⟩) (by decide) (fun _=>rfl) (fun x r h=>(qkY x.1 x.2.1).trans h)
theorem n39 {T:Told} (H:qad T):qal T Tryd.prog (envL e39):=q5q (l:=e39) trivial
theorem qlL {T:Told} (H:qad T):q12q T Tryd.prog 103 (.loop (q3q 3 (q4q Tryd.f39) .skip)) ⟨qcI,qdq,lp qbb K0⟩ :=
 q7q H.ty (n39 H) hm (q1q (l:=[]) (by kernel_rfl) trivial) qlM K0
theorem qkS {T:Told} (H:qad T):q12q T Tryd.prog 103 (.loop (q3q 10 (q4q Tryd.f39) .skip)) ⟨qch,qcU,lp qay K0⟩ :=
 q7q H.ty (n39 H) hm (q1q (l:=[]) (by kernel_rfl) trivial) qkV K0
theorem qkR {T:Told} (H:qad T):q12q T Tryd.prog 103 (.loop (q3q 17 (q4q Tryd.f39) .skip)) ⟨qcg,qcT,lp qbc K0⟩ :=
 q7q H.ty (n39 H) hm (q1q (l:=[]) (by kernel_rfl) trivial) qkU K0
theorem qkQ {T:Told} (H:qad T):q12q T Tryd.prog 103 (.loop (q3q 25 (q4q Tryd.f39) .skip)) ⟨qcf,qcS,lp qaH K0⟩ :=
 q7q H.ty (n39 H) hm (q1q (l:=[]) (by kernel_rfl) trivial) qkT K0
theorem ok39 {T:Told} (H:qad T):qai T Tryd.prog 39 c39 :=
 qaB H.ty (n39 H) hm (lh:=qcH) (ct:=c39) (dcd:=fun y=>(y.2.1,y.2.2.1)) Tryd.func39 (by kernel_rfl) (by rfl) (q1q (l:=[(.loop (q3q 3 (q4q Tryd.f39) .skip),⟨qcI,qdq,lp qbb K0⟩),(.loop (q3q 10 (q4q Tryd.f39) .skip),⟨qch,qcU,lp qay K0⟩),(.loop (q3q 17 (q4q Tryd.f39) .skip),⟨qcg,qcT,lp qbc K0⟩),(.loop (q3q 25 (q4q Tryd.f39) .skip),⟨qcf,qcS,lp qaH K0⟩)]) (by kernel_rfl) ⟨qlL H,qkS H,qkR H,qkQ H,trivial⟩) (by decide) (fun _=>rfl) (fun x r h=>(qlN x.1).trans h)
theorem n13 {T:Told} (H:qad T):qal T Tryd.prog (envL e13):=q5q (l:=e13) ⟨ok30 H,ok31 H,trivial⟩
theorem ok13 {T:Told} (H:qad T):qai T Tryd.prog 13 c13 :=
 qaB H.ty (n13 H) hm (lh:=qiZ) (ct:=c13) (dcd:=fun y=>(y.2.1)) Tryd.func13 (by kernel_rfl) (by rfl) (q1q (l:=[]) (by kernel_rfl) trivial) (by decide) (fun _=>rfl) (fun x r h=>(qmR x.1).trans h)
theorem n40 {T:Told} (H:qad T):qal T Tryd.prog (envL e40):=q5q (l:=e40) ⟨ok13 H,trivial⟩
theorem qkZ {T:Told} (H:qad T):q12q T Tryd.prog 19 (.loop (q3q 2 (q4q Tryd.f40) .skip)) ⟨qcj,qcW,lp qaJ K0⟩ :=
 q7q H.ty (n40 H) hm (q1q (l:=[]) (by kernel_rfl) trivial) qk0 K0
theorem ok40 {T:Told} (H:qad T):qai T Tryd.prog 40 c40 :=
 qaB H.ty (n40 H) hm (lh:=qfz) (ct:=c40) (dcd:=fun y=>(y.2.1,y.2.2.1)) Tryd.func40 (by kernel_rfl) (by rfl) (q1q (l:=[(.loop (q3q 2 (q4q Tryd.f40) .skip),⟨qcj,qcW,lp qaJ K0⟩)]) (by kernel_rfl) ⟨qkZ H,trivial⟩) (by decide) (fun _=>rfl) (fun x r h=>(qk1 x.1).trans h)
theorem n56 {T:Told} (H:qad T):qal T Tryd.prog (envL e56):=q5q (l:=e56) ⟨ok50 H,ok66 H,trivial⟩
theorem ok56 {T:Told} (H:qad T):qai T Tryd.prog 56 c56 :=
 qaB H.ty (n56 H) hm (lh:=qj9) (ct:=c56) (dcd:=fun y=>(y.2.1)) Tryd.func56 (by kernel_rfl) (by rfl) (q1q (l:=[]) (by kernel_rfl) trivial) (by decide) (fun _=>rfl) (fun x r h=>(qnt x.1 x.2.1).trans h)
theorem n35 {T:Told} (H:qad T):qal T Tryd.prog (envL e35):=q5q (l:=e35) ⟨ok31 H,ok56 H,ok57 H,ok58 H,trivial⟩
theorem ok35 {T:Told} (H:qad T):qai T Tryd.prog 35 c35 :=
 qaB H.ty (n35 H) hm (lh:=qkm) (ct:=c35) (dcd:=fun y=>(y.2.1)) Tryd.func35 (by kernel_rfl) (by rfl) (q1q (l:=[]) (by kernel_rfl) trivial) (by decide) (fun _=>rfl) (fun x r h=>(qnS x.1 x.2.1).trans h)
theorem n18 {T:Told} (H:qad T):qal T Tryd.prog (envL e18):=q5q (l:=e18) ⟨ok35 H,trivial⟩
theorem ok18 {T:Told} (H:qad T):qai T Tryd.prog 18 c18 :=
 qaB H.ty (n18 H) hm (lh:=qi0) (ct:=c18) (dcd:=fun y=>(y.2.1)) Tryd.func18 (by kernel_rfl) (by rfl) (q1q (l:=[]) (by kernel_rfl) trivial) (by decide) (fun _=>rfl) (fun x r h=>(qmT x.1 x.2.1).trans h)
theorem n41 {T:Told} (H:qad T):qal T Tryd.prog (envL e41):=q5q (l:=e41) ⟨ok18 H,ok48 H,trivial⟩
theorem qmz {T:Told} (H:qad T):q12q T Tryd.prog 37 (.loop (q3q 2 (q4q Tryd.f41) .skip)) ⟨qc9,qd3,lp qaX K0⟩ :=
 q7q H.ty (n41 H) hm (q1q (l:=[]) (by kernel_rfl) trivial) qmA K0
theorem ok41 {T:Told} (H:qad T):qai T Tryd.prog 41 c41 :=
 qaB H.ty (n41 H) hm (lh:=qgB) (ct:=c41) (dcd:=fun y=>(y.2.1,y.2.2.1)) Tryd.func41 (by kernel_rfl) (by rfl) (q1q (l:=[(.loop (q3q 2 (q4q Tryd.f41) .skip),⟨qc9,qd3,lp qaX K0⟩)]) (by kernel_rfl) ⟨qmz H,trivial⟩) (by decide) (fun _=>rfl) (fun x r h=>(qmB x.1).trans h)
theorem n42 {T:Told} (H:qad T):qal T Tryd.prog (envL e42):=q5q (l:=e42) trivial
theorem ok42 {T:Told} (H:qad T):qai T Tryd.prog 42 c42 :=
 qaB H.ty (n42 H) hm (lh:=qim) (ct:=c42) (dcd:=fun y=>(y.2.1)) Tryd.func42 (by kernel_rfl) (by rfl) (q1q (l:=[]) (by kernel_rfl) trivial) (by decide) (fun _=>rfl) (fun x r h=>(qlO x.1 x.2.1 x.2.2.1).trans h)
theorem n21 {T:Told} (H:qad T):qal T Tryd.prog (envL e21):=q5q (l:=e21) ⟨ok37 H,ok38 H,ok39 H,ok40 H,ok41 H,ok42 H,trivial⟩
theorem qlP {T:Told} (H:qad T):q12q T Tryd.prog 63 (.loop (q3q 7 (q4q Tryd.f21) .skip)) ⟨qcJ,qdr,lp qap K0⟩ :=
 q7q H.ty (n21 H) hm (q1q (l:=[]) (by kernel_rfl) trivial) qlR K0
theorem qlQ {T:Told} (H:qad T):q12q T Tryd.prog 63 (.loop (q3q 4 (q4q Tryd.f21) .skip)) ⟨qcK,qds,lp qaU K0⟩ :=
 q7q H.ty (n21 H) hm (q1q (l:=[(.loop (q3q 7 (q4q Tryd.f21) .skip),⟨qcJ,qdr,lp qap K0⟩)]) (by kernel_rfl) ⟨qlP H,trivial⟩) qlS K0
theorem ok21 {T:Told} (H:qad T):qai T Tryd.prog 21 c21 :=
 qaB H.ty (n21 H) hm (lh:=qeF) (ct:=c21) (dcd:=fun y=>(y.2.1)) Tryd.func21 (by kernel_rfl) (by rfl) (q1q (l:=[(.loop (q3q 4 (q4q Tryd.f21) .skip),⟨qcK,qds,lp qaU K0⟩)]) (by kernel_rfl) ⟨qlQ H,trivial⟩) (by decide) (fun _=>rfl) (fun x r h=>(qlT x.1).trans h)
theorem n8 {T:Told} (H:qad T):qal T Tryd.prog (envL e8):=q5q (l:=e8) ⟨ok21 H,trivial⟩
theorem ok8 {T:Told} (H:qad T):qai T Tryd.prog 8 c8 :=
 qaB H.ty (n8 H) hm (lh:=qk2) (ct:=c8) (dcd:=fun y=>(y.2.1)) Tryd.func8 (by kernel_rfl) (by rfl) (q1q (l:=[]) (by kernel_rfl) trivial) (by decide) (fun _=>rfl) (fun x r h=>(qoS x.1).trans h)
theorem n55 {T:Told} (H:qad T):qal T Tryd.prog (envL e55):=q5q (l:=e55) ⟨ok8 H,trivial⟩
theorem ok55 {T:Told} (H:qad T):qai T Tryd.prog 55 c55 :=
 qaB H.ty (n55 H) hm (lh:=qiT) (ct:=c55) (dcd:=fun y=>(y.2.1)) Tryd.func55 (by kernel_rfl) (by rfl) (q1q (l:=[]) (by kernel_rfl) trivial) (by decide) (fun _=>rfl) (fun x r h=>(qmK x.1 x.2.1).trans h)
theorem n34 {T:Told} (H:qad T):qal T Tryd.prog (envL e34):=q5q (l:=e34) ⟨ok55 H,trivial⟩
theorem ok34 {T:Told} (H:qad T):qai T Tryd.prog 34 c34 :=
 qaB H.ty (n34 H) hm (lh:=qiV) (ct:=c34) (dcd:=fun y=>(y.2.1)) Tryd.func34 (by kernel_rfl) (by rfl) (q1q (l:=[]) (by kernel_rfl) trivial) (by decide) (fun _=>rfl) (fun x r h=>(qmM x.1 x.2.1).trans h)
theorem n60 {T:Told} (H:qad T):qal T Tryd.prog (envL e60):=q5q (l:=e60) ⟨ok45 H,trivial⟩
theorem qjH {T:Told} (H:qad T):q12q T Tryd.prog 13 (.loop (q3q 3 (q4q Tryd.f60) .skip)) ⟨qbO,qcm,lp qcl K0⟩ :=
 q7q H.ty (n60 H) hm (q1q (l:=[]) (by kernel_rfl) trivial) qjI K0
theorem ok60 {T:Told} (H:qad T):qai T Tryd.prog 60 c60 :=
 qaB H.ty (n60 H) hm (lh:=qew) (ct:=c60) (dcd:=fun y=>(y.2.1)) Tryd.func60 (by kernel_rfl) (by rfl) (q1q (l:=[(.loop (q3q 3 (q4q Tryd.f60) .skip),⟨qbO,qcm,lp qcl K0⟩)]) (by kernel_rfl) ⟨qjH H,trivial⟩) (by decide) (fun _=>rfl) (fun x r h=>(qjJ x.1).trans h)
theorem n67 {T:Told} (H:qad T):qal T Tryd.prog (envL e67):=q5q (l:=e67) ⟨ok15 H,trivial⟩
theorem ok67 {T:Told} (H:qad T):qai T Tryd.prog 67 c67 :=
 qgx H.ty (n67 H) hm (lh:=qhs) (ct:=c67) (wi:=w67) (dcd:=fun y=>(y.2.1)) Tryd.func67 (by kernel_rfl) (by rfl) (q1q (l:=[]) (by kernel_rfl) trivial) (fun _=>rfl) rfl (fun x r h=>(qlm ).trans h)
theorem n47 {T:Told} (H:qad T):qal T Tryd.prog (envL e47):=q5q (l:=e47) ⟨ok31 H,ok52 H,ok57 H,ok62 H,trivial⟩
theorem ok47 {T:Told} (H:qad T):qai T Tryd.prog 47 c47 :=
 qaB H.ty (n47 H) hm (lh:=qkj) (ct:=c47) (dcd:=fun y=>(y.2.1)) Tryd.func47 (by kernel_rfl) (by rfl) (q1q (l:=[]) (by kernel_rfl) trivial) (by decide) (fun _=>rfl) (fun x r h=>(qnO x.1 x.2.1).trans h)
theorem n82 {T:Told} (H:qad T):qal T Tryd.prog (envL e82):=q5q (l:=e82) trivial
theorem qho {T:Told} (H:qad T):q12q T Tryd.prog 29 (.loop (q3q 4 (q4q Tryd.f82) .skip)) ⟨qa7,qbD,lp qbC K0⟩ :=
 q7q H.ty (n82 H) hm (q1q (l:=[]) (by kernel_rfl) trivial) qhp K0
theorem ok82 {T:Told} (H:qad T):qai T Tryd.prog 82 c82 :=
 qgx H.ty (n82 H) hm (lh:=qc1) (ct:=c82) (wi:=w82) (dcd:=fun y=>(y.2.1,y.2.2.1)) Tryd.func82 (by kernel_rfl) (by rfl) (q1q (l:=[(.loop (q3q 4 (q4q Tryd.f82) .skip),⟨qa7,qbD,lp qbC K0⟩)]) (by kernel_rfl) ⟨qho H,trivial⟩) (fun _=>rfl) rfl (fun x r h=>(qhq x.1 x.2.1).trans h)
theorem n83 {T:Told} (H:qad T):qal T Tryd.prog (envL e83):=q5q (l:=e83) trivial
theorem qhb {T:Told} (H:qad T):q12q T Tryd.prog 32 (.loop (q3q 5 (q4q Tryd.f83) .skip)) ⟨qaT,qbw,lp qbv K0⟩ :=
 q7q H.ty (n83 H) hm (q1q (l:=[]) (by kernel_rfl) trivial) qhc K0
theorem ok83 {T:Told} (H:qad T):qai T Tryd.prog 83 c83 :=
 qgx H.ty (n83 H) hm (lh:=qcO) (ct:=c83) (wi:=w83) (dcd:=fun y=>(y.2.1,y.2.2.1)) Tryd.func83 (by kernel_rfl) (by rfl) (q1q (l:=[(.loop (q3q 5 (q4q Tryd.f83) .skip),⟨qaT,qbw,lp qbv K0⟩)]) (by kernel_rfl) ⟨qhb H,trivial⟩) (fun _=>rfl) rfl (fun x r h=>(qhd x.1).trans h)
theorem n96 {T:Told} (H:qad T):qal T Tryd.prog (envL e96):=q5q (l:=e96) ⟨ok31 H,ok36 H,ok58 H,trivial⟩
theorem ok96 {T:Told} (H:qad T):qai T Tryd.prog 96 c96 :=
 qaB H.ty (n96 H) hm (lh:=qkk) (ct:=c96) (dcd:=fun y=>(y.2.1,y.2.2.1)) Tryd.func96 (by kernel_rfl) (by rfl) (q1q (l:=[]) (by kernel_rfl) trivial) (by decide) (fun _=>rfl) (fun x r h=>(qnP x.1).trans h)
theorem n95 {T:Told} (H:qad T):qal T Tryd.prog (envL e95):=q5q (l:=e95) ⟨ok19 H,ok28 H,ok47 H,ok96 H,trivial⟩
theorem qgh {T:Told} (H:qad T):q12q T Tryd.prog 104 (.loop (q3q 7 (q4q Tryd.f95) .skip)) ⟨qaE,qa6,lp qa5 K0⟩ :=
 q7q H.ty (n95 H) hm (q1q (l:=[]) (by kernel_rfl) trivial) qgi K0
theorem ok95 {T:Told} (H:qad T):qai T Tryd.prog 95 c95 :=
 qgx H.ty (n95 H) hm (lh:=qco) (ct:=c95) (wi:=w95) (dcd:=fun y=>(y.2.1,y.2.2.1)) Tryd.func95 (by kernel_rfl) (by rfl) (q1q (l:=[(.loop (q3q 7 (q4q Tryd.f95) .skip),⟨qaE,qa6,lp qa5 K0⟩)]) (by kernel_rfl) ⟨qgh H,trivial⟩) (fun _=>rfl) rfl (fun x r h=>(qgj x.1 x.2.1).trans h)
theorem n84 {T:Told} (H:qad T):qal T Tryd.prog (envL e84):=q5q (l:=e84) ⟨ok95 H,trivial⟩
theorem qgM {T:Told} (H:qad T):q12q T Tryd.prog 66 (.loop (q3q 8 (q4q Tryd.f84) .skip)) ⟨qaP,qbk,lp qbj K0⟩ :=
 q7q H.ty (n84 H) hm (q1q (l:=[]) (by kernel_rfl) trivial) qgN K0
theorem ok84 {T:Told} (H:qad T):qai T Tryd.prog 84 c84 :=
 qgx H.ty (n84 H) hm (lh:=qcw) (ct:=c84) (wi:=w84) (dcd:=fun y=>(y.2.1,y.2.2.1)) Tryd.func84 (by kernel_rfl) (by rfl) (q1q (l:=[(.loop (q3q 8 (q4q Tryd.f84) .skip),⟨qaP,qbk,lp qbj K0⟩)]) (by kernel_rfl) ⟨qgM H,trivial⟩) (fun _=>rfl) rfl (fun x r h=>(qgO x.1 x.2.1).trans h)
theorem n85 {T:Told} (H:qad T):qal T Tryd.prog (envL e85):=q5q (l:=e85) ⟨ok13 H,ok19 H,ok31 H,ok45 H,ok47 H,ok48 H,ok82 H,trivial⟩
theorem qgk {T:Told} (H:qad T):q12q T Tryd.prog 113 (.loop (q3q 10 (q4q Tryd.f85) .skip)) ⟨qaF,qa9,lp qa8 K0⟩ :=
 q7q H.ty (n85 H) hm (q1q (l:=[]) (by kernel_rfl) trivial) qgl K0
theorem ok85 {T:Told} (H:qad T):qai T Tryd.prog 85 c85 :=
 qgx H.ty (n85 H) hm (lh:=qcy) (ct:=c85) (wi:=w85) (dcd:=fun y=>(y.2.1,y.2.2.1)) Tryd.func85 (by kernel_rfl) (by rfl) (q1q (l:=[(.loop (q3q 10 (q4q Tryd.f85) .skip),⟨qaF,qa9,lp qa8 K0⟩)]) (by kernel_rfl) ⟨qgk H,trivial⟩) (fun _=>rfl) rfl (fun x r h=>(qgP x.1 x.2.1 x.2.2.1 x.2.2.2.1).trans h)
theorem n68 {T:Told} (H:qad T):qal T Tryd.prog (envL e68):=q5q (l:=e68) ⟨ok47 H,ok82 H,ok83 H,ok84 H,ok85 H,trivial⟩
theorem ok68 {T:Told} (H:qad T):qai T Tryd.prog 68 c68 :=
 qgx H.ty (n68 H) hm (lh:=qel) (ct:=c68) (wi:=w68) (dcd:=fun y=>(y.2.1,y.2.2.1,y.2.2.2.1,y.2.2.2.2.1,y.2.2.2.2.2.1,y.2.2.2.2.2.2.1,y.2.2.2.2.2.2.2.1,y.2.2.2.2.2.2.2.2.1,y.2.2.2.2.2.2.2.2.2.1,y.2.2.2.2.2.2.2.2.2.2.1)) Tryd.func68 (by kernel_rfl) (by rfl) (q1q (l:=[]) (by kernel_rfl) trivial) (fun _=>rfl) rfl (fun x r h=>(qha x.1 x.2.1 x.2.2.1 x.2.2.2.1 x.2.2.2.2.1 x.2.2.2.2.2.1 x.2.2.2.2.2.2.1 x.2.2.2.2.2.2.2.1 x.2.2.2.2.2.2.2.2.1 x.2.2.2.2.2.2.2.2.2.1).trans h)
theorem n29 {T:Told} (H:qad T):qal T Tryd.prog (envL e29):=q5q (l:=e29) ⟨ok45 H,ok48 H,trivial⟩
theorem qnI {T:Told} (H:qad T):q12q T Tryd.prog 18 (.loop (q3q 3 (q4q Tryd.f29) .skip)) ⟨qdP,qeN,lp qeM K0⟩ :=
 q7q H.ty (n29 H) hm (q1q (l:=[]) (by kernel_rfl) trivial) qnJ K0
theorem ok29 {T:Told} (H:qad T):qai T Tryd.prog 29 c29 :=
 qaB H.ty (n29 H) hm (lh:=qhm) (ct:=c29) (dcd:=fun y=>(y.2.1)) Tryd.func29 (by kernel_rfl) (by rfl) (q1q (l:=[(.loop (q3q 3 (q4q Tryd.f29) .skip),⟨qdP,qeN,lp qeM K0⟩)]) (by kernel_rfl) ⟨qnI H,trivial⟩) (by decide) (fun _=>rfl) (fun x r h=>(qnK x.1).trans h)
theorem n86 {T:Told} (H:qad T):qal T Tryd.prog (envL e86):=q5q (l:=e86) ⟨ok29 H,ok95 H,trivial⟩
theorem ok86 {T:Told} (H:qad T):qai T Tryd.prog 86 c86 :=
 qgx H.ty (n86 H) hm (lh:=qfc) (ct:=c86) (wi:=w86) (dcd:=fun y=>(y.2.1,y.2.2.1,y.2.2.2.1)) Tryd.func86 (by kernel_rfl) (by rfl) (q1q (l:=[]) (by kernel_rfl) trivial) (fun _=>rfl) rfl (fun x r h=>(qie x.1 x.2.1).trans h)
theorem n69 {T:Told} (H:qad T):qal T Tryd.prog (envL e69):=q5q (l:=e69) ⟨ok15 H,ok47 H,ok48 H,ok49 H,ok83 H,ok86 H,trivial⟩
theorem qgJ {T:Told} (H:qad T):q12q T Tryd.prog 69 (.loop (q3q 3 (q4q Tryd.f69) .skip)) ⟨qaO,qbi,lp qbh K0⟩ :=
 q7q H.ty (n69 H) hm (q1q (l:=[]) (by kernel_rfl) trivial) qgK K0
theorem ok69 {T:Told} (H:qad T):qai T Tryd.prog 69 c69 :=
 qgx H.ty (n69 H) hm (lh:=qcv) (ct:=c69) (wi:=w69) (dcd:=fun y=>(y.1.1,y.2.1,y.2.2.1,y.2.2.2.1,y.2.2.2.2.1,y.2.2.2.2.2.1)) Tryd.func69 (by kernel_rfl) (by rfl) (q1q (l:=[(.loop (q3q 3 (q4q Tryd.f69) .skip),⟨qaO,qbi,lp qbh K0⟩)]) (by kernel_rfl) ⟨qgJ H,trivial⟩) (fun _=>rfl) rfl (fun x r h=>(qgL x.1 x.2.1 x.2.2.1 x.2.2.2.1 x.2.2.2.2.1 x.2.2.2.2.2.1 x.2.2.2.2.2.2.1 x.2.2.2.2.2.2.2.1 x.2.2.2.2.2.2.2.2.1 x.2.2.2.2.2.2.2.2.2.1 x.2.2.2.2.2.2.2.2.2.2.1 x.2.2.2.2.2.2.2.2.2.2.2.1 x.2.2.2.2.2.2.2.2.2.2.2.2.1 x.2.2.2.2.2.2.2.2.2.2.2.2.2.1 x.2.2.2.2.2.2.2.2.2.2.2.2.2.2.1).trans h)
theorem n87 {T:Told} (H:qad T):qal T Tryd.prog (envL e87):=q5q (l:=e87) ⟨ok47 H,ok96 H,trivial⟩
theorem ok87 {T:Told} (H:qad T):qai T Tryd.prog 87 c87 :=
 qaB H.ty (n87 H) hm (lh:=qkl) (ct:=c87) (dcd:=fun y=>(y.2.1,y.2.2.1)) Tryd.func87 (by kernel_rfl) (by rfl) (q1q (l:=[]) (by kernel_rfl) trivial) (by decide) (fun _=>rfl) (fun x r h=>(qnQ x.1 x.2.1).trans h)
theorem n97 {T:Told} (H:qad T):qal T Tryd.prog (envL e97):=q5q (l:=e97) ⟨ok35 H,trivial⟩
theorem ok97 {T:Told} (H:qad T):qai T Tryd.prog 97 c97 :=
 qaB H.ty (n97 H) hm (lh:=qiS) (ct:=c97) (dcd:=fun y=>(y.2.1)) Tryd.func97 (by kernel_rfl) (by rfl) (q1q (l:=[]) (by kernel_rfl) trivial) (by decide) (fun _=>rfl) (fun x r h=>(qmJ x.1 x.2.1).trans h)
theorem n88 {T:Told} (H:qad T):qal T Tryd.prog (envL e88):=q5q (l:=e88) ⟨ok97 H,trivial⟩
theorem ok88 {T:Told} (H:qad T):qai T Tryd.prog 88 c88 :=
 qaB H.ty (n88 H) hm (lh:=qiU) (ct:=c88) (dcd:=fun y=>(y.2.1)) Tryd.func88 (by kernel_rfl) (by rfl) (q1q (l:=[]) (by kernel_rfl) trivial) (by decide) (fun _=>rfl) (fun x r h=>(qmL x.1 x.2.1).trans h)
theorem n89 {T:Told} (H:qad T):qal T Tryd.prog (envL e89):=q5q (l:=e89) trivial
theorem ok89 {T:Told} (H:qad T):qai T Tryd.prog 89 c89 :=
 qgx H.ty (n89 H) hm (lh:=qeO) (ct:=c89) (wi:=w89) (dcd:=fun y=>(y.2.1,y.2.2.1)) Tryd.func89 (by kernel_rfl) (by rfl) (q1q (l:=[]) (by kernel_rfl) trivial) (fun _=>rfl) rfl (fun x r h=>(qhr x.1).trans h)
theorem n70 {T:Told} (H:qad T):qal T Tryd.prog (envL e70):=q5q (l:=e70) ⟨ok47 H,ok87 H,ok88 H,ok89 H,trivial⟩
theorem ok70 {T:Told} (H:qad T):qai T Tryd.prog 70 c70 :=
 qgx H.ty (n70 H) hm (lh:=qdQ) (ct:=c70) (wi:=w70) (dcd:=fun y=>(y.1.1,y.2.1,y.2.2.1,y.2.2.2.1,y.2.2.2.2.1,y.2.2.2.2.2.1,y.2.2.2.2.2.2.1,y.2.2.2.2.2.2.2.1,y.2.2.2.2.2.2.2.2.1,y.2.2.2.2.2.2.2.2.2.1,y.2.2.2.2.2.2.2.2.2.2.1,y.2.2.2.2.2.2.2.2.2.2.2.1,y.2.2.2.2.2.2.2.2.2.2.2.2.1,y.2.2.2.2.2.2.2.2.2.2.2.2.2.1,y.2.2.2.2.2.2.2.2.2.2.2.2.2.2.1,y.2.2.2.2.2.2.2.2.2.2.2.2.2.2.2.1,y.2.2.2.2.2.2.2.2.2.2.2.2.2.2.2.2.1)) Tryd.func70 (by kernel_rfl) (by rfl) (q1q (l:=[]) (by kernel_rfl) trivial) (fun _=>rfl) rfl (fun x r h=>(qge x.1 x.2.1 x.2.2.1 x.2.2.2.1 x.2.2.2.2.1 x.2.2.2.2.2.1 x.2.2.2.2.2.2.1 x.2.2.2.2.2.2.2.1 x.2.2.2.2.2.2.2.2.1 x.2.2.2.2.2.2.2.2.2.1 x.2.2.2.2.2.2.2.2.2.2.1 x.2.2.2.2.2.2.2.2.2.2.2.1 x.2.2.2.2.2.2.2.2.2.2.2.2.1 x.2.2.2.2.2.2.2.2.2.2.2.2.2.1 x.2.2.2.2.2.2.2.2.2.2.2.2.2.2.1 x.2.2.2.2.2.2.2.2.2.2.2.2.2.2.2.1 x.2.2.2.2.2.2.2.2.2.2.2.2.2.2.2.2.1).trans h)
theorem n61 {T:Told} (H:qad T):qal T Tryd.prog (envL e61):=q5q (l:=e61) ⟨ok15 H,ok67 H,ok68 H,ok69 H,ok70 H,trivial⟩
theorem qgE {T:Told} (H:qad T):q12q T Tryd.prog 91 (.loop (q3q 9 (q4q Tryd.f61) .skip)) ⟨qaM,qbf,lp qbd K0⟩ :=
 q7q H.ty (n61 H) hm (q1q (l:=[]) (by kernel_rfl) trivial) qgG K0
theorem qgF {T:Told} (H:qad T):q12q T Tryd.prog 91 (.loop (q3q 1 (q4q Tryd.f61) .skip)) ⟨qaN,qbg,lp qbe K0⟩ :=
 q7q H.ty (n61 H) hm (q1q (l:=[(.loop (q3q 9 (q4q Tryd.f61) .skip),⟨qaM,qbf,lp qbd K0⟩)]) (by kernel_rfl) ⟨qgE H,trivial⟩) qgH K0
theorem ok61 {T:Told} (H:qad T):qai T Tryd.prog 61 c61 :=
 qgx H.ty (n61 H) hm (lh:=qbM) (ct:=c61) (wi:=w61) (dcd:=fun y=>(y.1.1,y.2.1,y.2.2.1,y.2.2.2.1,y.2.2.2.2.1,y.2.2.2.2.2.1)) Tryd.func61 (by kernel_rfl) (by rfl) (q1q (l:=[(.loop (q3q 1 (q4q Tryd.f61) .skip),⟨qaN,qbg,lp qbe K0⟩)]) (by kernel_rfl) ⟨qgF H,trivial⟩) (fun _=>rfl) rfl (fun x r h=>(qgI x.1 x.2.1 x.2.2.1 x.2.2.2.1 x.2.2.2.2.1 x.2.2.2.2.2.1).trans h)
theorem n44 {T:Told} (H:qad T):qal T Tryd.prog (envL e44):=q5q (l:=e44) ⟨ok60 H,ok61 H,trivial⟩
theorem qlj {T:Told} (H:qad T):q12q T Tryd.prog 34 (.loop (q3q 3 (q4q Tryd.f44) .skip)) ⟨qcn,qc0,lp qcZ K0⟩ :=
 q7q H.ty (n44 H) hm (q1q (l:=[]) (by kernel_rfl) trivial) qlk K0
theorem ok44 {T:Told} (H:qad T):qai T Tryd.prog 44 c44 :=
 qaB H.ty (n44 H) hm (lh:=qfC) (ct:=c44) (dcd:=fun y=>(y.2.1)) Tryd.func44 (by kernel_rfl) (by rfl) (q1q (l:=[(.loop (q3q 3 (q4q Tryd.f44) .skip),⟨qcn,qc0,lp qcZ K0⟩)]) (by kernel_rfl) ⟨qlj H,trivial⟩) (by decide) (fun _=>rfl) (fun x r h=>(qll x.1 x.2.1 x.2.2.1 x.2.2.2.1).trans h)
theorem n46 {T:Told} (H:qad T):qal T Tryd.prog (envL e46):=q5q (l:=e46) ⟨ok34 H,ok44 H,trivial⟩
theorem ok46 {T:Told} (H:qad T):qai T Tryd.prog 46 c46 :=
 qaB H.ty (n46 H) hm (lh:=qgm) (ct:=c46) (dcd:=fun y=>(y.2.1,y.2.2.1)) Tryd.func46 (by kernel_rfl) (by rfl) (q1q (l:=[]) (by kernel_rfl) trivial) (by decide) (fun _=>rfl) (fun x r h=>(qjK x.1 x.2.1 x.2.2.1 x.2.2.2.1).trans h)
theorem n27 {T:Told} (H:qad T):qal T Tryd.prog (envL e27):=q5q (l:=e27) ⟨ok19 H,ok28 H,ok46 H,ok47 H,trivial⟩
theorem qjl {T:Told} (H:qad T):q12q T Tryd.prog 48 (.loop (q3q 5 (q4q Tryd.f27) .skip)) ⟨qbF,qb2,lp qb1 K0⟩ :=
 q7q H.ty (n27 H) hm (q1q (l:=[]) (by kernel_rfl) trivial) qjm K0
theorem ok27 {T:Told} (H:qad T):qai T Tryd.prog 27 c27 :=
 qaB H.ty (n27 H) hm (lh:=qeh) (ct:=c27) (dcd:=fun y=>(y.2.1)) Tryd.func27 (by kernel_rfl) (by rfl) (q1q (l:=[(.loop (q3q 5 (q4q Tryd.f27) .skip),⟨qbF,qb2,lp qb1 K0⟩)]) (by kernel_rfl) ⟨qjl H,trivial⟩) (by decide) (fun _=>rfl) (fun x r h=>(qjn x.1 x.2.1 x.2.2.1).trans h)
theorem n17 {T:Told} (H:qad T):qal T Tryd.prog (envL e17):=q5q (l:=e17) ⟨ok27 H,ok34 H,trivial⟩
theorem ok17 {T:Told} (H:qad T):qai T Tryd.prog 17 c17 :=
 qaB H.ty (n17 H) hm (lh:=qg8) (ct:=c17) (dcd:=fun y=>(y.2.1,y.2.2.1)) Tryd.func17 (by kernel_rfl) (by rfl) (q1q (l:=[]) (by kernel_rfl) trivial) (by decide) (fun _=>rfl) (fun x r h=>(qkB x.1 x.2.1 x.2.2.1 x.2.2.2.1).trans h)
theorem n6 {T:Told} (H:qad T):qal T Tryd.prog (envL e6):=q5q (l:=e6) ⟨ok15 H,ok16 H,ok17 H,ok18 H,ok19 H,trivial⟩
theorem qhY {r} (h:c6.F ()=r):qaR=r:=by
 subst h
 delta c6
 exact(@F_in [] _ _ (fun _=>qaR) _ _ () _ rfl).symm
theorem qhW (x) (r:c6.T) (h:c6.F x=some r):fnF tb (envL e6) Tryd.f6 qc8 c6.ps c6.rs (T:=c6.T) (fun y=>(y.2.1)) x=some r:=by
 cases x;exact qhX.trans (qhY h)
theorem ok6 {T:Told} (H:qad T):qai T Tryd.prog 6 c6 :=
 qaB H.ty (n6 H) hm (lh:=qc8) (ct:=c6) (dcd:=fun y=>(y.2.1)) Tryd.func6 (by kernel_rfl) (by rfl) (q1q (l:=[]) (by kernel_rfl) trivial) (by decide) (fun _=>rfl) (fun x r h=>qhW x r h)
theorem ok7 {T:Told} (H:qad T):qai T Tryd.prog 7 c7:=qsE (ok8 H)
theorem n22 {T:Told} (H:qad T) (n:Nat) (hr:qai T Tryd.prog 22 (c22 n)):qal T Tryd.prog (envL (e22 n)):=q5q (l:=(e22 n)) ⟨hr,trivial⟩
theorem ok22 {T:Told} (H:qad T):∀ n,qai T Tryd.prog 22 (c22 n)
 | 0=>qai.never Tryd.func22 (by kernel_rfl) (by rfl) (fun _=>rfl)
 | n+1=>qaB H.ty (n22 H n (ok22 H n)) hm (lh:=qeX n) (ct:=c22 (n+1)) (dcd:=fun y=>(y.2.1)) Tryd.func22 (by kernel_rfl) (by rfl) (q1q (l:=[]) (by kernel_rfl) trivial) (Nat.le_of_ble_eq_true rfl) (fun _=>rfl) (fun x r h=>(qhV n x.1 x.2.1 x.2.2.1).trans h)
theorem n9 {T:Told} (H:qad T):qal T Tryd.prog (envL e9):=q5q (l:=e9) ⟨ok22 H R0,trivial⟩
theorem qif {T:Told} (H:qad T):q12q T Tryd.prog 66 (.loop (q3q 6 (q4q Tryd.f9) .skip)) ⟨qbq,qbJ,lp qah K0⟩ :=
 q7q H.ty (n9 H) hm (q1q (l:=[]) (by kernel_rfl) trivial) qih K0
theorem qig {T:Told} (H:qad T):q12q T Tryd.prog 66 (.loop (q3q 2 (q4q Tryd.f9) .skip)) ⟨qbr,qbK,lp qak K0⟩ :=
 q7q H.ty (n9 H) hm (q1q (l:=[(.loop (q3q 6 (q4q Tryd.f9) .skip),⟨qbq,qbJ,lp qah K0⟩)]) (by kernel_rfl) ⟨qif H,trivial⟩) qii K0
theorem ok9 {T:Told} (H:qad T):qai T Tryd.prog 9 c9 :=
 qaB H.ty (n9 H) hm (lh:=qcc) (ct:=c9) (dcd:=fun y=>(y.2.1)) Tryd.func9 (by kernel_rfl) (by rfl) (q1q (l:=[(.loop (q3q 2 (q4q Tryd.f9) .skip),⟨qbr,qbK,lp qak K0⟩)]) (by kernel_rfl) ⟨qig H,trivial⟩) (by decide) (fun _=>rfl) (fun x r h=>(qij x.1 x.2.1 x.2.2.1).trans h)
theorem n3 {T:Told} (H:qad T):qal T Tryd.prog (envL e3):=q5q (l:=e3) ⟨ok5 H,ok6 H,ok7 H,ok8 H,ok9 H,trivial⟩
theorem qeY {T:Told} (H:qad T):q12q T Tryd.prog 78 (.loop (q3q 15 (q4q Tryd.f3) .skip)) ⟨qan,qav,lp qae K0⟩ :=
 q7q H.ty (n3 H) hm (q1q (l:=[]) (by kernel_rfl) trivial) qe0 K0
theorem qeZ {T:Told} (H:qad T):q12q T Tryd.prog 78 (.loop (q3q 10 (q4q Tryd.f3) .skip)) ⟨qao,qaw,lp qaf K0⟩ :=
 q7q H.ty (n3 H) hm (q1q (l:=[(.loop (q3q 15 (q4q Tryd.f3) .skip),⟨qan,qav,lp qae K0⟩)]) (by kernel_rfl) ⟨qeY H,trivial⟩) qe1 K0
theorem ok3 {T:Told} (H:qad T):qai T Tryd.prog 3 c3 :=
 qaB H.ty (n3 H) hm (lh:=qaY) (ct:=c3) (dcd:=fun y=>(y.2.1)) Tryd.func3 (by kernel_rfl) (by rfl) (q1q (l:=[(.loop (q3q 10 (q4q Tryd.f3) .skip),⟨qao,qaw,lp qaf K0⟩)]) (by kernel_rfl) ⟨qeZ H,trivial⟩) (by decide) (fun _=>rfl) (fun x r h=>(qfa x.1).trans h)
end Go.Proofs.YtfoedjifcmfogaaDoor.X
