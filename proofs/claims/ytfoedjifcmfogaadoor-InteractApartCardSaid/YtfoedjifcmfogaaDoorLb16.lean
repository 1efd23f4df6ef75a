/- Own work: part of the proof; the first line of each part says what it tells. -/
import Derived.Test.YtfoedjifcmfogaaDoorLb11
import Derived.Test.YtfoedjifcmfogaaDoorLb14
import Derived.Test.YtfoedjifcmfogaaDoorLb15


namespace Go.Proofs.YtfoedjifcmfogaaDoor.X
open Go
set_option linter.unusedVariables false
set_option linter.unusedSimpArgs false
set_option maxRecDepth 100000
theorem F_in {ps:List (Ty×PM)} {rs:List (Ty×Bool)} {T:Type} {F:HL (fsts ps)->Option T} {enc:T->HL (qha ps)×HL (fsts rs)} {wi:Option Wir} (x:HL (fsts ps)) {r:Option T} (h:F x=r):(Ctr.mk ps rs T F enc wi).F x=r:=h
theorem hm:Tryd.prog.follows .mixedOrders=true:=by kernel_rfl
structure qad (T:Told):Prop where
 ty:TbOk Tryd.prog tb
 h92:qam T Tryd.prog 92 c92
 h98:qam T Tryd.prog 98 c98
theorem tyO:TbOk Tryd.prog tbO:=quQ (by kernel_rfl)
theorem n54 {T:Told} (H:qad T):qas T Tryd.prog (envL e54):=q5q (l:=e54) trivial
theorem qrL {T:Told} (H:qad T):q12q T Tryd.prog 23 (.loop (q3q 2 (q4q Tryd.f54) .skip)) ⟨qfo,qgH,lp qdj K0⟩ :=
 q7q H.ty (n54 H) hm (q1q (l:=[]) (by kernel_rfl) trivial) qrM K0
theorem ok54 {T:Told} (H:qad T):qam T Tryd.prog 54 c54 :=
 qaG H.ty (n54 H) hm (lh:=qj2) (ct:=c54) (dcd:=fun y=>(y.2.1)) Tryd.func54 (by kernel_rfl) (by rfl) (q1q (l:=[(.loop (q3q 2 (q4q Tryd.f54) .skip),⟨qfo,qgH,lp qdj K0⟩)]) (by kernel_rfl) ⟨qrL H,trivial⟩) (by decide) (fun _=>rfl) (fun x r h=>(qrN x.1).trans h)
theorem n33 {T:Told} (H:qad T):qas T Tryd.prog (envL e33):=q5q (l:=e33) ⟨ok54 H,trivial⟩
theorem ok33 {T:Told} (H:qad T):qam T Tryd.prog 33 c33 :=
 qaG H.ty (n33 H) hm (lh:=qqF) (ct:=c33) (dcd:=fun y=>(y.2.1)) Tryd.func33 (by kernel_rfl) (by rfl) (q1q (l:=[]) (by kernel_rfl) trivial) (by decide) (fun _=>rfl) (fun x r h=>(qvl x.1).trans h)
theorem n53 {T:Told} (H:qad T):qas T Tryd.prog (envL e53):=q5q (l:=e53) trivial
theorem ok53 {T:Told} (H:qad T):qam T Tryd.prog 53 c53 :=
 qaG H.ty (n53 H) hm (lh:=qkp) (ct:=c53) (dcd:=fun y=>(y.2.1)) Tryd.func53 (by kernel_rfl) (by rfl) (q1q (l:=[]) (by kernel_rfl) trivial) (by decide) (fun _=>rfl) (fun x r h=>(qoJ x.1 x.2.1).trans h)
theorem n32 {T:Told} (H:qad T):qas T Tryd.prog (envL e32):=q5q (l:=e32) ⟨ok33 H,ok53 H,trivial⟩
theorem ok32 {T:Told} (H:qad T):qam T Tryd.prog 32 c32 :=
 qaG H.ty (n32 H) hm (lh:=qmK) (ct:=c32) (dcd:=fun y=>(y.2.1)) Tryd.func32 (by kernel_rfl) (by rfl) (q1q (l:=[]) (by kernel_rfl) trivial) (by decide) (fun _=>rfl) (fun x r h=>(qrn x.1).trans h)
theorem n16 {T:Told} (H:qad T):qas T Tryd.prog (envL e16):=q5q (l:=e16) ⟨ok32 H,ok33 H,trivial⟩
theorem ok16 {T:Told} (H:qad T):qam T Tryd.prog 16 c16 :=
 qaG H.ty (n16 H) hm (lh:=qnc) (ct:=c16) (dcd:=fun y=>(y.2.1)) Tryd.func16 (by kernel_rfl) (by rfl) (q1q (l:=[]) (by kernel_rfl) trivial) (by decide) (fun _=>rfl) (fun x r h=>(qrE x.1).trans h)
theorem n15 {T:Told} (H:qad T):qas T Tryd.prog (envL e15):=q5q (l:=e15) ⟨ok16 H,trivial⟩
theorem ok15 {T:Told} (H:qad T):qam T Tryd.prog 15 c15 :=
 qaG H.ty (n15 H) hm (lh:=ql2) (ct:=c15) (dcd:=fun y=>(y.2.1)) Tryd.func15 (by kernel_rfl) (by rfl) (q1q (l:=[]) (by kernel_rfl) trivial) (by decide) (fun _=>rfl) (fun x r h=>(qp9 ).trans h)
theorem n45 {T:Told} (H:qad T):qas T Tryd.prog (envL e45):=q5q (l:=e45) ⟨ok33 H,trivial⟩
theorem ok45 {T:Told} (H:qad T):qam T Tryd.prog 45 c45 :=
 qaG H.ty (n45 H) hm (lh:=qkB) (ct:=c45) (dcd:=fun y=>(y.2.1)) Tryd.func45 (by kernel_rfl) (by rfl) (q1q (l:=[]) (by kernel_rfl) trivial) (by decide) (fun _=>rfl) (fun x r h=>(qo2 ).trans h)
theorem n51 {T:Told} (H:qad T):qas T Tryd.prog (envL e51):=q5q (l:=e51) ⟨ok54 H,trivial⟩
theorem qqG {T:Told} (H:qad T):q12q T Tryd.prog 24 (.loop (q3q 3 (q4q Tryd.f51) .skip)) ⟨qeR,qfL,lp qcF K0⟩ :=
 q7q H.ty (n51 H) hm (q1q (l:=[]) (by kernel_rfl) trivial) qqH K0
theorem ok51 {T:Told} (H:qad T):qam T Tryd.prog 51 c51 :=
 qaG H.ty (n51 H) hm (lh:=qje) (ct:=c51) (dcd:=fun y=>(y.2.1)) Tryd.func51 (by kernel_rfl) (by rfl) (q1q (l:=[(.loop (q3q 3 (q4q Tryd.f51) .skip),⟨qeR,qfL,lp qcF K0⟩)]) (by kernel_rfl) ⟨qqG H,trivial⟩) (by decide) (fun _=>rfl) (fun x r h=>(qqI x.1).trans h)
theorem n50 {T:Told} (H:qad T):qas T Tryd.prog (envL e50):=q5q (l:=e50) ⟨ok51 H,ok53 H,trivial⟩
theorem ok50 {T:Told} (H:qad T):qam T Tryd.prog 50 c50 :=
 qaG H.ty (n50 H) hm (lh:=qjN) (ct:=c50) (dcd:=fun y=>(y.2.1)) Tryd.func50 (by kernel_rfl) (by rfl) (q1q (l:=[]) (by kernel_rfl) trivial) (by decide) (fun _=>rfl) (fun x r h=>(qnQ x.1).trans h)
theorem n91 {T:Told} (H:qad T):qas T Tryd.prog (envL e91):=q5q (l:=e91) ⟨ok51 H,trivial⟩
theorem ok91 {T:Told} (H:qad T):qam T Tryd.prog 91 c91 :=
 qaG H.ty (n91 H) hm (lh:=qqE) (ct:=c91) (dcd:=fun y=>(y.2.1,y.2.2.1)) Tryd.func91 (by kernel_rfl) (by rfl) (q1q (l:=[]) (by kernel_rfl) trivial) (by decide) (fun _=>rfl) (fun x r h=>(qvk x.1).trans h)
theorem n73 {T:Told} (H:qad T):qas T Tryd.prog (envL e73):=q5q (l:=e73) ⟨ok33 H,ok91 H,trivial⟩
theorem qpb {T:Told} (H:qad T):q12q T Tryd.prog 27 (.loop (q3q 3 (q4q Tryd.f73) .skip)) ⟨qd2,qe3,lp qcE K0⟩ :=
 q7q H.ty (n73 H) hm (q1q (l:=[]) (by kernel_rfl) trivial) qpc K0
theorem ok73 {T:Told} (H:qad T):qam T Tryd.prog 73 c73 :=
 qaG H.ty (n73 H) hm (lh:=qik) (ct:=c73) (dcd:=fun y=>(y.2.1)) Tryd.func73 (by kernel_rfl) (by rfl) (q1q (l:=[(.loop (q3q 3 (q4q Tryd.f73) .skip),⟨qd2,qe3,lp qcE K0⟩)]) (by kernel_rfl) ⟨qpb H,trivial⟩) (by decide) (fun _=>rfl) (fun x r h=>(qpd x.1 x.2.1).trans h)
theorem n74 {T:Told} (H:qad T):qas T Tryd.prog (envL e74):=q5q (l:=e74) ⟨H.h92,trivial⟩
theorem qqp {T:Told} (H:qad T):q12q T Tryd.prog 24 (.loop (q3q 3 (q4q Tryd.f74) .skip)) ⟨qeL,qfF,lp qdd K0⟩ :=
 q7q H.ty (n74 H) hm (q1q (l:=[]) (by kernel_rfl) trivial) qqq K0
theorem ok74 {T:Told} (H:qad T):qam T Tryd.prog 74 c74 :=
 qaG H.ty (n74 H) hm (lh:=qi5) (ct:=c74) (dcd:=fun y=>(y.2.1)) Tryd.func74 (by kernel_rfl) (by rfl) (q1q (l:=[(.loop (q3q 3 (q4q Tryd.f74) .skip),⟨qeL,qfF,lp qdd K0⟩)]) (by kernel_rfl) ⟨qqp H,trivial⟩) (by decide) (fun _=>rfl) (fun x r h=>(qqr x.1).trans h)
theorem n90 {T:Told} (H:qad T):qas T Tryd.prog (envL e90):=q5q (l:=e90) trivial
theorem ok90 {T:Told} (H:qad T):qam T Tryd.prog 90 c90 :=
 qaG H.ty (n90 H) hm (lh:=qns) (ct:=c90) (dcd:=fun y=>(y.2.1)) Tryd.func90 (by kernel_rfl) (by rfl) (q1q (l:=[]) (by kernel_rfl) trivial) (by decide) (fun _=>rfl) (fun x r h=>(qrV x.1 x.2.1).trans h)
theorem n75 {T:Told} (H:qad T):qas T Tryd.prog (envL e75):=q5q (l:=e75) ⟨ok54 H,ok90 H,trivial⟩
theorem qtI {T:Told} (H:qad T):q12q T Tryd.prog 50 (.loop (q3q 6 (q4q Tryd.f75) .skip)) ⟨qgt,qhM,lp qd0 K0⟩ :=
 q7q H.ty (n75 H) hm (q1q (l:=[]) (by kernel_rfl) trivial) qtJ K0
theorem ok75 {T:Told} (H:qad T):qam T Tryd.prog 75 c75 :=
 qaG H.ty (n75 H) hm (lh:=qlp) (ct:=c75) (dcd:=fun y=>(y.2.1)) Tryd.func75 (by kernel_rfl) (by rfl) (q1q (l:=[(.loop (q3q 6 (q4q Tryd.f75) .skip),⟨qgt,qhM,lp qd0 K0⟩)]) (by kernel_rfl) ⟨qtI H,trivial⟩) (by decide) (fun _=>rfl) (fun x r h=>(qtK x.1 x.2.1).trans h)
theorem n76 {T:Told} (H:qad T):qas T Tryd.prog (envL e76):=q5q (l:=e76) trivial
theorem qqv {T:Told} (H:qad T):q12q T Tryd.prog 45 (.loop (q3q 6 (q4q Tryd.f76) .skip)) ⟨qeN,qfH,lp qce K0⟩ :=
 q7q H.ty (n76 H) hm (q1q (l:=[]) (by kernel_rfl) trivial) qqw K0
theorem ok76 {T:Told} (H:qad T):qam T Tryd.prog 76 c76 :=
 qaG H.ty (n76 H) hm (lh:=qi8) (ct:=c76) (dcd:=fun y=>(y.2.1)) Tryd.func76 (by kernel_rfl) (by rfl) (q1q (l:=[(.loop (q3q 6 (q4q Tryd.f76) .skip),⟨qeN,qfH,lp qce K0⟩)]) (by kernel_rfl) ⟨qqv H,trivial⟩) (by decide) (fun _=>rfl) (fun x r h=>(qqx x.1 x.2.1).trans h)
theorem n77 {T:Told} (H:qad T):qas T Tryd.prog (envL e77):=q5q (l:=e77) ⟨ok54 H,trivial⟩
theorem qtL {T:Told} (H:qad T):q12q T Tryd.prog 51 (.loop (q3q 4 (q4q Tryd.f77) .skip)) ⟨qgu,qhN,lp qd1 K0⟩ :=
 q7q H.ty (n77 H) hm (q1q (l:=[]) (by kernel_rfl) trivial) qtM K0
theorem ok77 {T:Told} (H:qad T):qam T Tryd.prog 77 c77 :=
 qaG H.ty (n77 H) hm (lh:=qlq) (ct:=c77) (dcd:=fun y=>(y.2.1)) Tryd.func77 (by kernel_rfl) (by rfl) (q1q (l:=[(.loop (q3q 4 (q4q Tryd.f77) .skip),⟨qgu,qhN,lp qd1 K0⟩)]) (by kernel_rfl) ⟨qtL H,trivial⟩) (by decide) (fun _=>rfl) (fun x r h=>(qtN x.1 x.2.1).trans h)
theorem n80 {T:Told} (H:qad T):qas T Tryd.prog (envL e80):=q5q (l:=e80) ⟨ok54 H,trivial⟩
theorem qqs {T:Told} (H:qad T):q12q T Tryd.prog 38 (.loop (q3q 4 (q4q Tryd.f80) .skip)) ⟨qeM,qfG,lp qde K0⟩ :=
 q7q H.ty (n80 H) hm (q1q (l:=[]) (by kernel_rfl) trivial) qqt K0
theorem ok80 {T:Told} (H:qad T):qam T Tryd.prog 80 c80 :=
 qaG H.ty (n80 H) hm (lh:=qi6) (ct:=c80) (dcd:=fun y=>(y.2.1,y.2.2.1)) Tryd.func80 (by kernel_rfl) (by rfl) (q1q (l:=[(.loop (q3q 4 (q4q Tryd.f80) .skip),⟨qeM,qfG,lp qde K0⟩)]) (by kernel_rfl) ⟨qqs H,trivial⟩) (by decide) (fun _=>rfl) (fun x r h=>(qqu x.1 x.2.1).trans h)
theorem n93 {T:Told} (H:qad T):qas T Tryd.prog (envL e93):=q5q (l:=e93) ⟨H.h98,trivial⟩
theorem ok93 {T:Told} (H:qad T):qam T Tryd.prog 93 c93 :=
 qaG H.ty (n93 H) hm (lh:=qff) (ct:=c93) (dcd:=fun y=>(y.2.1)) Tryd.func93 (by kernel_rfl) (by rfl) (q1q (l:=[]) (by kernel_rfl) trivial) (by decide) (fun _=>rfl) (fun x r h=>(qiJ x.1).trans h)
theorem n99 {T:Told} (H:qad T):qas T Tryd.prog (envL e99):=q5q (l:=e99) ⟨ok90 H,trivial⟩
theorem qrO {T:Told} (H:qad T):q12q T Tryd.prog 46 (.loop (q3q 3 (q4q Tryd.f99) .skip)) ⟨qfp,qgI,lp qdU K0⟩ :=
 q7q H.ty (n99 H) hm (q1q (l:=[]) (by kernel_rfl) trivial) qrP K0
theorem ok99 {T:Told} (H:qad T):qam T Tryd.prog 99 c99 :=
 qaG H.ty (n99 H) hm (lh:=qj3) (ct:=c99) (dcd:=fun y=>(y.1.1,y.2.1)) Tryd.func99 (by kernel_rfl) (by rfl) (q1q (l:=[(.loop (q3q 3 (q4q Tryd.f99) .skip),⟨qfp,qgI,lp qdU K0⟩)]) (by kernel_rfl) ⟨qrO H,trivial⟩) (by decide) (fun _=>rfl) (fun x r h=>(qrQ x.1 x.2.1 x.2.2.1).trans h)
theorem n100 {T:Told} (H:qad T):qas T Tryd.prog (envL e100):=q5q (l:=e100) ⟨ok90 H,trivial⟩
theorem qrW {T:Told} (H:qad T):q12q T Tryd.prog 29 (.loop (q3q 2 (q4q Tryd.f100) .skip)) ⟨qfr,qgL,lp qdV K0⟩ :=
 q7q H.ty (n100 H) hm (q1q (l:=[]) (by kernel_rfl) trivial) qrX K0
theorem qAC {T:Told} (H:qad T):qam T Tryd.prog 100 c100 :=
 qaG H.ty (n100 H) hm (lh:=qj5) (ct:=c100) (dcd:=fun y=>(y.1.1)) Tryd.func100 (by kernel_rfl) (by rfl) (q1q (l:=[(.loop (q3q 2 (q4q Tryd.f100) .skip),⟨qfr,qgL,lp qdV K0⟩)]) (by kernel_rfl) ⟨qrW H,trivial⟩) (by decide) (fun _=>rfl) (fun x r h=>(qrY x.1 x.2.1).trans h)
theorem n94 {T:Told} (H:qad T):qas T Tryd.prog (envL e94):=q5q (l:=e94) ⟨ok99 H,qAC H,trivial⟩
theorem qqB {T:Told} (H:qad T):q12q T Tryd.prog 77 (.loop (q3q 4 (q4q Tryd.f94) .skip)) ⟨qeP,qfK,lp qbA K0⟩ :=
 q7q H.ty (n94 H) hm (q1q (l:=[]) (by kernel_rfl) trivial) qqC K0
theorem ok94 {T:Told} (H:qad T):qam T Tryd.prog 94 c94 :=
 qaG H.ty (n94 H) hm (lh:=qja) (ct:=c94) (dcd:=fun y=>(y.1.1,y.2.1)) Tryd.func94 (by kernel_rfl) (by rfl) (q1q (l:=[(.loop (q3q 4 (q4q Tryd.f94) .skip),⟨qeP,qfK,lp qbA K0⟩)]) (by kernel_rfl) ⟨qqB H,trivial⟩) (by decide) (fun _=>rfl) (fun x r h=>(qqD x.1 x.2.1).trans h)
theorem n81 {T:Told} (H:qad T):qas T Tryd.prog (envL e81):=q5q (l:=e81) ⟨ok54 H,ok75 H,ok77 H,ok93 H,ok94 H,trivial⟩
theorem qrS {T:Told} (H:qad T):q12q T Tryd.prog 64 (.loop (q3q 7 (q4q Tryd.f81) .skip)) ⟨qfq,qgK,lp qdl K0⟩ :=
 q7q H.ty (n81 H) hm (q1q (l:=[]) (by kernel_rfl) trivial) qrT K0
theorem ok81 {T:Told} (H:qad T):qam T Tryd.prog 81 c81 :=
 qaG H.ty (n81 H) hm (lh:=qj4) (ct:=c81) (dcd:=fun y=>(y.2.1,y.2.2.1)) Tryd.func81 (by kernel_rfl) (by rfl) (q1q (l:=[(.loop (q3q 7 (q4q Tryd.f81) .skip),⟨qfq,qgK,lp qdl K0⟩)]) (by kernel_rfl) ⟨qrS H,trivial⟩) (by decide) (fun _=>rfl) (fun x r h=>(qrU x.1 x.2.1).trans h)
theorem n65 {T:Told} (H:qad T):qas T Tryd.prog (envL e65):=q5q (l:=e65) ⟨ok33 H,ok51 H,ok76 H,ok80 H,ok81 H,trivial⟩
theorem ok65 {T:Told} (H:qad T):qam T Tryd.prog 65 c65 :=
 qaG H.ty (n65 H) hm (lh:=qkQ) (ct:=c65) (dcd:=fun y=>(y.2.1,y.2.2.1,y.2.2.2.1)) Tryd.func65 (by kernel_rfl) (by rfl) (q1q (l:=[]) (by kernel_rfl) trivial) (by decide) (fun _=>rfl) (fun x r h=>(qpe x.1 x.2.1).trans h)
theorem n78 {T:Told} (H:qad T):qas T Tryd.prog (envL e78):=q5q (l:=e78) ⟨ok65 H,trivial⟩
theorem ok78 {T:Told} (H:qad T):qam T Tryd.prog 78 c78 :=
 qaG H.ty (n78 H) hm (lh:=qnr) (ct:=c78) (dcd:=fun y=>(y.2.1,y.2.2.1)) Tryd.func78 (by kernel_rfl) (by rfl) (q1q (l:=[]) (by kernel_rfl) trivial) (by decide) (fun _=>rfl) (fun x r h=>(qrR x.1 x.2.1).trans h)
theorem n79 {T:Told} (H:qad T):qas T Tryd.prog (envL e79):=q5q (l:=e79) ⟨ok54 H,ok90 H,trivial⟩
theorem qqy {T:Told} (H:qad T):q12q T Tryd.prog 39 (.loop (q3q 4 (q4q Tryd.f79) .skip)) ⟨qeO,qfJ,lp qdf K0⟩ :=
 q7q H.ty (n79 H) hm (q1q (l:=[]) (by kernel_rfl) trivial) qqz K0
theorem ok79 {T:Told} (H:qad T):qam T Tryd.prog 79 c79 :=
 qaG H.ty (n79 H) hm (lh:=qi9) (ct:=c79) (dcd:=fun y=>(y.2.1)) Tryd.func79 (by kernel_rfl) (by rfl) (q1q (l:=[(.loop (q3q 4 (q4q Tryd.f79) .skip),⟨qeO,qfJ,lp qdf K0⟩)]) (by kernel_rfl) ⟨qqy H,trivial⟩) (by decide) (fun _=>rfl) (fun x r h=>(qqA x.1 x.2.1).trans h)
theorem n64 {T:Told} (H:qad T):qas T Tryd.prog (envL e64):=q5q (l:=e64) ⟨ok51 H,ok73 H,ok74 H,ok75 H,ok76 H,ok77 H,ok78 H,ok79 H,trivial⟩
theorem qrZ {T:Told} (H:qad T):q12q T Tryd.prog 86 (.loop (q3q 10 (q4q Tryd.f64) .skip)) ⟨qfs,qgM,lp qbK K0⟩ :=
 q7q H.ty (n64 H) hm (q1q (l:=[]) (by kernel_rfl) trivial) qr0 K0
theorem ok64 {T:Told} (H:qad T):qam T Tryd.prog 64 c64 :=
 qaG H.ty (n64 H) hm (lh:=qlr) (ct:=c64) (dcd:=fun y=>(y.2.1)) Tryd.func64 (by kernel_rfl) (by rfl) (q1q (l:=[(.loop (q3q 10 (q4q Tryd.f64) .skip),⟨qfs,qgM,lp qbK K0⟩)]) (by kernel_rfl) ⟨qrZ H,trivial⟩) (by decide) (fun _=>rfl) (fun x r h=>(qtU x.1 x.2.1).trans h)
theorem n52 {T:Told} (H:qad T):qas T Tryd.prog (envL e52):=q5q (l:=e52) ⟨ok33 H,ok64 H,ok65 H,trivial⟩
theorem ok52 {T:Told} (H:qad T):qam T Tryd.prog 52 c52 :=
 qaG H.ty (n52 H) hm (lh:=qkA) (ct:=c52) (dcd:=fun y=>(y.2.1)) Tryd.func52 (by kernel_rfl) (by rfl) (q1q (l:=[]) (by kernel_rfl) trivial) (by decide) (fun _=>rfl) (fun x r h=>(qo1 x.1 x.2.1).trans h)
theorem n31 {T:Told} (H:qad T):qas T Tryd.prog (envL e31):=q5q (l:=e31) ⟨ok45 H,ok50 H,ok51 H,ok52 H,trivial⟩
theorem ok31 {T:Told} (H:qad T):qam T Tryd.prog 31 c31 :=
 qaG H.ty (n31 H) hm (lh:=qjR) (ct:=c31) (dcd:=fun y=>(y.2.1)) Tryd.func31 (by kernel_rfl) (by rfl) (q1q (l:=[]) (by kernel_rfl) trivial) (by decide) (fun _=>rfl) (fun x r h=>(qn0 x.1).trans h)
theorem n30 {T:Told} (H:qad T):qas T Tryd.prog (envL e30):=q5q (l:=e30) ⟨ok50 H,trivial⟩
theorem ok30 {T:Told} (H:qad T):qam T Tryd.prog 30 c30 :=
 qaG H.ty (n30 H) hm (lh:=qkq) (ct:=c30) (dcd:=fun y=>(y.2.1)) Tryd.func30 (by kernel_rfl) (by rfl) (q1q (l:=[]) (by kernel_rfl) trivial) (by decide) (fun _=>rfl) (fun x r h=>(qoK x.1).trans h)
theorem n59 {T:Told} (H:qad T):qas T Tryd.prog (envL e59):=q5q (l:=e59) ⟨ok50 H,ok53 H,trivial⟩
theorem ok59 {T:Told} (H:qad T):qam T Tryd.prog 59 c59 :=
 qaG H.ty (n59 H) hm (lh:=qlR) (ct:=c59) (dcd:=fun y=>(y.2.1)) Tryd.func59 (by kernel_rfl) (by rfl) (q1q (l:=[]) (by kernel_rfl) trivial) (by decide) (fun _=>rfl) (fun x r h=>(qpI x.1).trans h)
theorem n36 {T:Told} (H:qad T):qas T Tryd.prog (envL e36):=q5q (l:=e36) ⟨ok30 H,ok50 H,ok52 H,ok59 H,trivial⟩
theorem ok36 {T:Told} (H:qad T):qam T Tryd.prog 36 c36 :=
 qaG H.ty (n36 H) hm (lh:=qkF) (ct:=c36) (dcd:=fun y=>(y.2.1,y.2.2.1)) Tryd.func36 (by kernel_rfl) (by rfl) (q1q (l:=[]) (by kernel_rfl) trivial) (by decide) (fun _=>rfl) (fun x r h=>(qo6 x.1 x.2.1).trans h)
theorem n19 {T:Told} (H:qad T):qas T Tryd.prog (envL e19):=q5q (l:=e19) ⟨ok31 H,ok32 H,ok36 H,trivial⟩
theorem ok19 {T:Told} (H:qad T):qam T Tryd.prog 19 c19 :=
 qaG H.ty (n19 H) hm (lh:=qkH) (ct:=c19) (dcd:=fun y=>(y.2.1)) Tryd.func19 (by kernel_rfl) (by rfl) (q1q (l:=[]) (by kernel_rfl) trivial) (by decide) (fun _=>rfl) (fun x r h=>(qo7 x.1 x.2.1).trans h)
theorem n62 {T:Told} (H:qad T):qas T Tryd.prog (envL e62):=q5q (l:=e62) ⟨ok51 H,ok54 H,trivial⟩
theorem qtP {T:Told} (H:qad T):q12q T Tryd.prog 67 (.loop (q3q 8 (q4q Tryd.f62) .skip)) ⟨qgv,qhQ,lp qd3 K0⟩ :=
 q7q H.ty (n62 H) hm (q1q (l:=[]) (by kernel_rfl) trivial) qtR K0
theorem qtQ {T:Told} (H:qad T):q12q T Tryd.prog 67 (.loop (q3q 4 (q4q Tryd.f62) .skip)) ⟨qgw,qhR,lp qeQ K0⟩ :=
 q7q H.ty (n62 H) hm (q1q (l:=[(.loop (q3q 8 (q4q Tryd.f62) .skip),⟨qgv,qhQ,lp qd3 K0⟩)]) (by kernel_rfl) ⟨qtP H,trivial⟩) qtS K0
theorem ok62 {T:Told} (H:qad T):qam T Tryd.prog 62 c62 :=
 qaG H.ty (n62 H) hm (lh:=qjD) (ct:=c62) (dcd:=fun y=>(y.2.1)) Tryd.func62 (by kernel_rfl) (by rfl) (q1q (l:=[(.loop (q3q 4 (q4q Tryd.f62) .skip),⟨qgw,qhR,lp qeQ K0⟩)]) (by kernel_rfl) ⟨qtQ H,trivial⟩) (by decide) (fun _=>rfl) (fun x r h=>(qtT x.1 x.2.1).trans h)
theorem n57 {T:Told} (H:qad T):qas T Tryd.prog (envL e57):=q5q (l:=e57) ⟨ok50 H,ok53 H,ok62 H,trivial⟩
theorem ok57 {T:Told} (H:qad T):qam T Tryd.prog 57 c57 :=
 qaG H.ty (n57 H) hm (lh:=qlS) (ct:=c57) (dcd:=fun y=>(y.2.1)) Tryd.func57 (by kernel_rfl) (by rfl) (q1q (l:=[]) (by kernel_rfl) trivial) (by decide) (fun _=>rfl) (fun x r h=>(qpJ x.1 x.2.1).trans h)
theorem n58 {T:Told} (H:qad T):qas T Tryd.prog (envL e58):=q5q (l:=e58) trivial
theorem ok58 {T:Told} (H:qad T):qam T Tryd.prog 58 c58 :=
 qaG H.ty (n58 H) hm (lh:=ql0) (ct:=c58) (dcd:=fun y=>(y.2.1)) Tryd.func58 (by kernel_rfl) (by rfl) (q1q (l:=[]) (by kernel_rfl) trivial) (by decide) (fun _=>rfl) (fun x r h=>(qp3 x.1).trans h)
theorem n66 {T:Told} (H:qad T):qas T Tryd.prog (envL e66):=q5q (l:=e66) ⟨ok51 H,ok76 H,trivial⟩
theorem ok66 {T:Told} (H:qad T):qam T Tryd.prog 66 c66 :=
 qaG H.ty (n66 H) hm (lh:=qon) (ct:=c66) (dcd:=fun y=>(y.2.1)) Tryd.func66 (by kernel_rfl) (by rfl) (q1q (l:=[]) (by kernel_rfl) trivial) (by decide) (fun _=>rfl) (fun x r h=>(qtV x.1 x.2.1).trans h)
theorem n71 {T:Told} (H:qad T):qas T Tryd.prog (envL e71):=q5q (l:=e71) ⟨ok51 H,ok54 H,ok90 H,trivial⟩
theorem qtW {T:Told} (H:qad T):q12q T Tryd.prog 43 (.loop (q3q 5 (q4q Tryd.f71) .skip)) ⟨qgx,qhS,lp qeS K0⟩ :=
 q7q H.ty (n71 H) hm (q1q (l:=[]) (by kernel_rfl) trivial) qtX K0
theorem ok71 {T:Told} (H:qad T):qam T Tryd.prog 71 c71 :=
 qaG H.ty (n71 H) hm (lh:=qls) (ct:=c71) (dcd:=fun y=>(y.2.1)) Tryd.func71 (by kernel_rfl) (by rfl) (q1q (l:=[(.loop (q3q 5 (q4q Tryd.f71) .skip),⟨qgx,qhS,lp qeS K0⟩)]) (by kernel_rfl) ⟨qtW H,trivial⟩) (by decide) (fun _=>rfl) (fun x r h=>(qtY x.1 x.2.1).trans h)
theorem n72 {T:Told} (H:qad T):qas T Tryd.prog (envL e72):=q5q (l:=e72) ⟨ok51 H,ok76 H,ok79 H,trivial⟩
theorem ok72 {T:Told} (H:qad T):qam T Tryd.prog 72 c72 :=
 qaG H.ty (n72 H) hm (lh:=qom) (ct:=c72) (dcd:=fun y=>(y.2.1,y.2.2.1)) Tryd.func72 (by kernel_rfl) (by rfl) (q1q (l:=[]) (by kernel_rfl) trivial) (by decide) (fun _=>rfl) (fun x r h=>(qtO x.1 x.2.1).trans h)
theorem n63 {T:Told} (H:qad T):qas T Tryd.prog (envL e63):=q5q (l:=e63) ⟨ok50 H,ok53 H,ok66 H,ok71 H,ok72 H,trivial⟩
theorem ok63 {T:Told} (H:qad T):qam T Tryd.prog 63 c63 :=
 qaG H.ty (n63 H) hm (lh:=qlU) (ct:=c63) (dcd:=fun y=>(y.2.1)) Tryd.func63 (by kernel_rfl) (by rfl) (q1q (l:=[]) (by kernel_rfl) trivial) (by decide) (fun _=>rfl) (fun x r h=>(qpL x.1 x.2.1).trans h)
theorem n48 {T:Told} (H:qad T):qas T Tryd.prog (envL e48):=q5q (l:=e48) ⟨ok31 H,ok52 H,ok57 H,ok58 H,ok62 H,ok63 H,trivial⟩
theorem ok48 {T:Told} (H:qad T):qam T Tryd.prog 48 c48 :=
 qaG H.ty (n48 H) hm (lh:=qmb) (ct:=c48) (dcd:=fun y=>(y.2.1)) Tryd.func48 (by kernel_rfl) (by rfl) (q1q (l:=[]) (by kernel_rfl) trivial) (by decide) (fun _=>rfl) (fun x r h=>(qqg x.1 x.2.1).trans h)
theorem n49 {T:Told} (H:qad T):qas T Tryd.prog (envL e49):=q5q (l:=e49) ⟨ok31 H,ok59 H,trivial⟩
theorem ok49 {T:Told} (H:qad T):qam T Tryd.prog 49 c49 :=
 qaG H.ty (n49 H) hm (lh:=ql4) (ct:=c49) (dcd:=fun y=>(y.2.1)) Tryd.func49 (by kernel_rfl) (by rfl) (q1q (l:=[]) (by kernel_rfl) trivial) (by decide) (fun _=>rfl) (fun x r h=>(qqa x.1).trans h)
theorem n28 {T:Told} (H:qad T):qas T Tryd.prog (envL e28):=q5q (l:=e28) ⟨ok48 H,ok49 H,trivial⟩
theorem ok28 {T:Told} (H:qad T):qam T Tryd.prog 28 c28 :=
 qaG H.ty (n28 H) hm (lh:=ql1) (ct:=c28) (dcd:=fun y=>(y.2.1)) Tryd.func28 (by kernel_rfl) (by rfl) (q1q (l:=[]) (by kernel_rfl) trivial) (by decide) (fun _=>rfl) (fun x r h=>(qp8 x.1 x.2.1).trans h)
theorem n37 {T:Told} (H:qad T):qas T Tryd.prog (envL e37):=q5q (l:=e37) trivial
theorem qpg {T:Told} (H:qad T):q12q T Tryd.prog 72 (.loop (q3q 9 (q4q Tryd.f37) .skip)) ⟨qd5,qe4,lp qbM K0⟩ :=
 q7q H.ty (n37 H) hm (q1q (l:=[]) (by kernel_rfl) trivial) qpi K0
theorem qph {T:Told} (H:qad T):q12q T Tryd.prog 72 (.loop (q3q 4 (q4q Tryd.f37) .skip)) ⟨qd6,qe5,lp qba K0⟩ :=
 q7q H.ty (n37 H) hm (q1q (l:=[(.loop (q3q 9 (q4q Tryd.f37) .skip),⟨qd5,qe4,lp qbM K0⟩)]) (by kernel_rfl) ⟨qpg H,trivial⟩) qpj K0
theorem ok37 {T:Told} (H:qad T):qam T Tryd.prog 37 c37 :=
 qaG H.ty (n37 H) hm (lh:=qgd) (ct:=c37) (dcd:=fun y=>(y.2.1)) Tryd.func37 (by kernel_rfl) (by rfl) (q1q (l:=[(.loop (q3q 4 (q4q Tryd.f37) .skip),⟨qd6,qe5,lp qba K0⟩)]) (by kernel_rfl) ⟨qph H,trivial⟩) (by decide) (fun _=>rfl) (fun x r h=>(qpk x.1).trans h)
theorem n38 {T:Told} (H:qad T):qas T Tryd.prog (envL e38):=q5q (l:=e38) trivial
theorem qmR {T:Told} (H:qad T):q12q T Tryd.prog 52 (.loop (q3q 2 (q4q Tryd.f38) .skip)) ⟨qcX,qdL,lp qa0 K0⟩ :=
 q7q H.ty (n38 H) hm (q1q (l:=[]) (by kernel_rfl) trivial) qmS K0
theorem ok38 {T:Told} (H:qad T):qam T Tryd.prog 38 c38 :=
 qaG H.ty (n38 H) hm (lh:=qgz) (ct:=c38) (dcd:=fun y=>(y.2.1,y.2.2.1)) Tryd.func38 (by kernel_rfl) (by rfl) (q1q (l:=[(.loop (q3q 2 (q4q Tryd.f38) .skip),⟨qcX,qdL,lp qa0 K0⟩)]) (by kernel_rfl) ⟨qmR H,trivial⟩) (by decide) (fun _=>rfl) (fun x r h=>(qmT x.1 x.2.1).trans h)
theorem n39 {T:Told} (H:qad T):qas T Tryd.prog (envL e39):=q5q (l:=e39) trivial
theorem qnR {T:Told} (H:qad T):q12q T Tryd.prog 103 (.loop (q3q 3 (q4q Tryd.f39) .skip)) ⟨qds,qef,lp qbB K0⟩ :=
 q7q H.ty (n39 H) hm (q1q (l:=[]) (by kernel_rfl) trivial) qnS K0
theorem qmN {T:Told} (H:qad T):q12q T Tryd.prog 103 (.loop (q3q 10 (q4q Tryd.f39) .skip)) ⟨qcW,qdK,lp qaN K0⟩ :=
 q7q H.ty (n39 H) hm (q1q (l:=[]) (by kernel_rfl) trivial) qmQ K0
theorem qmM {T:Told} (H:qad T):q12q T Tryd.prog 103 (.loop (q3q 17 (q4q Tryd.f39) .skip)) ⟨qcV,qdJ,lp qbC K0⟩ :=
 q7q H.ty (n39 H) hm (q1q (l:=[]) (by kernel_rfl) trivial) qmP K0
theorem qmL {T:Told} (H:qad T):q12q T Tryd.prog 103 (.loop (q3q 25 (q4q Tryd.f39) .skip)) ⟨qcU,qdI,lp qaZ K0⟩ :=
 q7q H.ty (n39 H) hm (q1q (l:=[]) (by kernel_rfl) trivial) qmO K0
theorem ok39 {T:Told} (H:qad T):qam T Tryd.prog 39 c39 :=
 qaG H.ty (n39 H) hm (lh:=qdr) (ct:=c39) (dcd:=fun y=>(y.2.1,y.2.2.1)) Tryd.func39 (by kernel_rfl) (by rfl) (q1q (l:=[(.loop (q3q 3 (q4q Tryd.f39) .skip),⟨qds,qef,lp qbB K0⟩),(.loop (q3q 10 (q4q Tryd.f39) .skip),⟨qcW,qdK,lp qaN K0⟩),(.loop (q3q 17 (q4q Tryd.f39) .skip),⟨qcV,qdJ,lp qbC K0⟩),(.loop (q3q 25 (q4q Tryd.f39) .skip),⟨qcU,qdI,lp qaZ K0⟩)]) (by kernel_rfl) ⟨qnR H,qmN H,qmM H,qmL H,trivial⟩) (by decide) (fun _=>rfl) (fun x r h=>(qnT x.1).trans h)
theorem n13 {T:Told} (H:qad T):qas T Tryd.prog (envL e13):=q5q (l:=e13) ⟨ok30 H,ok31 H,trivial⟩
theorem ok13 {T:Told} (H:qad T):qam T Tryd.prog 13 c13 :=
 qaG H.ty (n13 H) hm (lh:=qkC) (ct:=c13) (dcd:=fun y=>(y.2.1)) Tryd.func13 (by kernel_rfl) (by rfl) (q1q (l:=[]) (by kernel_rfl) trivial) (by decide) (fun _=>rfl) (fun x r h=>(qo3 x.1).trans h)
theorem n40 {T:Told} (H:qad T):qas T Tryd.prog (envL e40):=q5q (l:=e40) ⟨ok13 H,trivial⟩
theorem qmU {T:Told} (H:qad T):q12q T Tryd.prog 19 (.loop (q3q 2 (q4q Tryd.f40) .skip)) ⟨qcY,qdM,lp qa1 K0⟩ :=
 q7q H.ty (n40 H) hm (q1q (l:=[]) (by kernel_rfl) trivial) qmV K0
theorem ok40 {T:Told} (H:qad T):qam T Tryd.prog 40 c40 :=
 qaG H.ty (n40 H) hm (lh:=qgA) (ct:=c40) (dcd:=fun y=>(y.2.1,y.2.2.1)) Tryd.func40 (by kernel_rfl) (by rfl) (q1q (l:=[(.loop (q3q 2 (q4q Tryd.f40) .skip),⟨qcY,qdM,lp qa1 K0⟩)]) (by kernel_rfl) ⟨qmU H,trivial⟩) (by decide) (fun _=>rfl) (fun x r h=>(qmW x.1).trans h)
theorem n56 {T:Told} (H:qad T):qas T Tryd.prog (envL e56):=q5q (l:=e56) ⟨ok50 H,ok66 H,trivial⟩
theorem ok56 {T:Told} (H:qad T):qam T Tryd.prog 56 c56 :=
 qaG H.ty (n56 H) hm (lh:=qlT) (ct:=c56) (dcd:=fun y=>(y.2.1)) Tryd.func56 (by kernel_rfl) (by rfl) (q1q (l:=[]) (by kernel_rfl) trivial) (by decide) (fun _=>rfl) (fun x r h=>(qpK x.1 x.2.1).trans h)
theorem n35 {T:Told} (H:qad T):qas T Tryd.prog (envL e35):=q5q (l:=e35) ⟨ok31 H,ok56 H,ok57 H,ok58 H,trivial⟩
theorem ok35 {T:Told} (H:qad T):qam T Tryd.prog 35 c35 :=
 qaG H.ty (n35 H) hm (lh:=qma) (ct:=c35) (dcd:=fun y=>(y.2.1)) Tryd.func35 (by kernel_rfl) (by rfl) (q1q (l:=[]) (by kernel_rfl) trivial) (by decide) (fun _=>rfl) (fun x r h=>(qqf x.1 x.2.1).trans h)
theorem n18 {T:Told} (H:qad T):qas T Tryd.prog (envL e18):=q5q (l:=e18) ⟨ok35 H,trivial⟩
theorem ok18 {T:Told} (H:qad T):qam T Tryd.prog 18 c18 :=
 qaG H.ty (n18 H) hm (lh:=qkD) (ct:=c18) (dcd:=fun y=>(y.2.1)) Tryd.func18 (by kernel_rfl) (by rfl) (q1q (l:=[]) (by kernel_rfl) trivial) (by decide) (fun _=>rfl) (fun x r h=>(qo5 x.1 x.2.1).trans h)
theorem n41 {T:Told} (H:qad T):qas T Tryd.prog (envL e41):=q5q (l:=e41) ⟨ok18 H,ok48 H,trivial⟩
theorem qoL {T:Told} (H:qad T):q12q T Tryd.prog 37 (.loop (q3q 2 (q4q Tryd.f41) .skip)) ⟨qdY,qeU,lp qbl K0⟩ :=
 q7q H.ty (n41 H) hm (q1q (l:=[]) (by kernel_rfl) trivial) qoM K0
theorem ok41 {T:Told} (H:qad T):qam T Tryd.prog 41 c41 :=
 qaG H.ty (n41 H) hm (lh:=qhZ) (ct:=c41) (dcd:=fun y=>(y.2.1,y.2.2.1)) Tryd.func41 (by kernel_rfl) (by rfl) (q1q (l:=[(.loop (q3q 2 (q4q Tryd.f41) .skip),⟨qdY,qeU,lp qbl K0⟩)]) (by kernel_rfl) ⟨qoL H,trivial⟩) (by decide) (fun _=>rfl) (fun x r h=>(qoN x.1).trans h)
theorem n42 {T:Told} (H:qad T):qas T Tryd.prog (envL e42):=q5q (l:=e42) trivial
theorem ok42 {T:Told} (H:qad T):qam T Tryd.prog 42 c42 :=
 qaG H.ty (n42 H) hm (lh:=qjO) (ct:=c42) (dcd:=fun y=>(y.2.1)) Tryd.func42 (by kernel_rfl) (by rfl) (q1q (l:=[]) (by kernel_rfl) trivial) (by decide) (fun _=>rfl) (fun x r h=>(qnU x.1 x.2.1 x.2.2.1).trans h)
theorem n21 {T:Told} (H:qad T):qas T Tryd.prog (envL e21):=q5q (l:=e21) ⟨ok37 H,ok38 H,ok39 H,ok40 H,ok41 H,ok42 H,trivial⟩
theorem qnV {T:Told} (H:qad T):q12q T Tryd.prog 63 (.loop (q3q 7 (q4q Tryd.f21) .skip)) ⟨qdt,qeg,lp qaA K0⟩ :=
 q7q H.ty (n21 H) hm (q1q (l:=[]) (by kernel_rfl) trivial) qnX K0
theorem qnW {T:Told} (H:qad T):q12q T Tryd.prog 63 (.loop (q3q 4 (q4q Tryd.f21) .skip)) ⟨qdu,qeh,lp qbj K0⟩ :=
 q7q H.ty (n21 H) hm (q1q (l:=[(.loop (q3q 7 (q4q Tryd.f21) .skip),⟨qdt,qeg,lp qaA K0⟩)]) (by kernel_rfl) ⟨qnV H,trivial⟩) qnY K0
theorem ok21 {T:Told} (H:qad T):qam T Tryd.prog 21 c21 :=
 qaG H.ty (n21 H) hm (lh:=qfx) (ct:=c21) (dcd:=fun y=>(y.2.1)) Tryd.func21 (by kernel_rfl) (by rfl) (q1q (l:=[(.loop (q3q 4 (q4q Tryd.f21) .skip),⟨qdu,qeh,lp qbj K0⟩)]) (by kernel_rfl) ⟨qnW H,trivial⟩) (by decide) (fun _=>rfl) (fun x r h=>(qnZ x.1).trans h)
theorem n8 {T:Told} (H:qad T):qas T Tryd.prog (envL e8):=q5q (l:=e8) ⟨ok21 H,trivial⟩
theorem ok8 {T:Told} (H:qad T):qam T Tryd.prog 8 c8 :=
 qaG H.ty (n8 H) hm (lh:=qmX) (ct:=c8) (dcd:=fun y=>(y.2.1)) Tryd.func8 (by kernel_rfl) (by rfl) (q1q (l:=[]) (by kernel_rfl) trivial) (by decide) (fun _=>rfl) (fun x r h=>(qro x.1).trans h)
theorem n55 {T:Told} (H:qad T):qas T Tryd.prog (envL e55):=q5q (l:=e55) ⟨ok8 H,trivial⟩
theorem ok55 {T:Told} (H:qad T):qam T Tryd.prog 55 c55 :=
 qaG H.ty (n55 H) hm (lh:=qkx) (ct:=c55) (dcd:=fun y=>(y.2.1)) Tryd.func55 (by kernel_rfl) (by rfl) (q1q (l:=[]) (by kernel_rfl) trivial) (by decide) (fun _=>rfl) (fun x r h=>(qoY x.1 x.2.1).trans h)
theorem n34 {T:Told} (H:qad T):qas T Tryd.prog (envL e34):=q5q (l:=e34) ⟨ok55 H,trivial⟩
theorem ok34 {T:Told} (H:qad T):qam T Tryd.prog 34 c34 :=
 qaG H.ty (n34 H) hm (lh:=qkz) (ct:=c34) (dcd:=fun y=>(y.2.1)) Tryd.func34 (by kernel_rfl) (by rfl) (q1q (l:=[]) (by kernel_rfl) trivial) (by decide) (fun _=>rfl) (fun x r h=>(qo0 x.1 x.2.1).trans h)
theorem n60 {T:Told} (H:qad T):qas T Tryd.prog (envL e60):=q5q (l:=e60) ⟨ok45 H,trivial⟩
theorem qll {T:Told} (H:qad T):q12q T Tryd.prog 13 (.loop (q3q 3 (q4q Tryd.f60) .skip)) ⟨qch,qc1,lp qa5 K0⟩ :=
 q7q H.ty (n60 H) hm (q1q (l:=[]) (by kernel_rfl) trivial) qlm K0
theorem ok60 {T:Told} (H:qad T):qam T Tryd.prog 60 c60 :=
 qaG H.ty (n60 H) hm (lh:=qfm) (ct:=c60) (dcd:=fun y=>(y.2.1)) Tryd.func60 (by kernel_rfl) (by rfl) (q1q (l:=[(.loop (q3q 3 (q4q Tryd.f60) .skip),⟨qch,qc1,lp qa5 K0⟩)]) (by kernel_rfl) ⟨qll H,trivial⟩) (by decide) (fun _=>rfl) (fun x r h=>(qln x.1).trans h)
theorem n67 {T:Told} (H:qad T):qas T Tryd.prog (envL e67):=q5q (l:=e67) ⟨ok15 H,trivial⟩
theorem ok67 {T:Told} (H:qad T):qam T Tryd.prog 67 c67 :=
 qhV H.ty (n67 H) hm (lh:=qiX) (ct:=c67) (wi:=w67) (dcd:=fun y=>(y.2.1)) Tryd.func67 (by kernel_rfl) (by rfl) (q1q (l:=[]) (by kernel_rfl) trivial) (fun _=>rfl) rfl (fun x r h=>(qnk ).trans h)
theorem n47 {T:Told} (H:qad T):qas T Tryd.prog (envL e47):=q5q (l:=e47) ⟨ok31 H,ok52 H,ok57 H,ok62 H,trivial⟩
theorem ok47 {T:Told} (H:qad T):qam T Tryd.prog 47 c47 :=
 qaG H.ty (n47 H) hm (lh:=ql5) (ct:=c47) (dcd:=fun y=>(y.2.1)) Tryd.func47 (by kernel_rfl) (by rfl) (q1q (l:=[]) (by kernel_rfl) trivial) (by decide) (fun _=>rfl) (fun x r h=>(qqb x.1 x.2.1).trans h)
theorem n82 {T:Told} (H:qad T):qas T Tryd.prog (envL e82):=q5q (l:=e82) trivial
theorem qiT {T:Told} (H:qad T):q12q T Tryd.prog 29 (.loop (q3q 4 (q4q Tryd.f82) .skip)) ⟨qby,qb2,lp qah K0⟩ :=
 q7q H.ty (n82 H) hm (q1q (l:=[]) (by kernel_rfl) trivial) qiU K0
theorem ok82 {T:Told} (H:qad T):qam T Tryd.prog 82 c82 :=
 qhV H.ty (n82 H) hm (lh:=qdQ) (ct:=c82) (wi:=w82) (dcd:=fun y=>(y.2.1,y.2.2.1)) Tryd.func82 (by kernel_rfl) (by rfl) (q1q (l:=[(.loop (q3q 4 (q4q Tryd.f82) .skip),⟨qby,qb2,lp qah K0⟩)]) (by kernel_rfl) ⟨qiT H,trivial⟩) (fun _=>rfl) rfl (fun x r h=>(qiV x.1 x.2.1).trans h)
theorem n83 {T:Told} (H:qad T):qas T Tryd.prog (envL e83):=q5q (l:=e83) trivial
theorem qiE {T:Told} (H:qad T):q12q T Tryd.prog 32 (.loop (q3q 5 (q4q Tryd.f83) .skip)) ⟨qbi,qbT,lp qaw K0⟩ :=
 q7q H.ty (n83 H) hm (q1q (l:=[]) (by kernel_rfl) trivial) qiF K0
theorem ok83 {T:Told} (H:qad T):qam T Tryd.prog 83 c83 :=
 qhV H.ty (n83 H) hm (lh:=qdB) (ct:=c83) (wi:=w83) (dcd:=fun y=>(y.2.1,y.2.2.1)) Tryd.func83 (by kernel_rfl) (by rfl) (q1q (l:=[(.loop (q3q 5 (q4q Tryd.f83) .skip),⟨qbi,qbT,lp qaw K0⟩)]) (by kernel_rfl) ⟨qiE H,trivial⟩) (fun _=>rfl) rfl (fun x r h=>(qiG x.1).trans h)
theorem n96 {T:Told} (H:qad T):qas T Tryd.prog (envL e96):=q5q (l:=e96) ⟨ok31 H,ok36 H,ok58 H,trivial⟩
theorem ok96 {T:Told} (H:qad T):qam T Tryd.prog 96 c96 :=
 qaG H.ty (n96 H) hm (lh:=ql7) (ct:=c96) (dcd:=fun y=>(y.2.1,y.2.2.1)) Tryd.func96 (by kernel_rfl) (by rfl) (q1q (l:=[]) (by kernel_rfl) trivial) (by decide) (fun _=>rfl) (fun x r h=>(qqc x.1).trans h)
theorem n95 {T:Told} (H:qad T):qas T Tryd.prog (envL e95):=q5q (l:=e95) ⟨ok19 H,ok28 H,ok47 H,ok96 H,trivial⟩
theorem qhD {T:Told} (H:qad T):q12q T Tryd.prog 104 (.loop (q3q 7 (q4q Tryd.f95) .skip)) ⟨qaV,qbw,lp qak K0⟩ :=
 q7q H.ty (n95 H) hm (q1q (l:=[]) (by kernel_rfl) trivial) qhE K0
theorem ok95 {T:Told} (H:qad T):qam T Tryd.prog 95 c95 :=
 qhV H.ty (n95 H) hm (lh:=qc3) (ct:=c95) (wi:=w95) (dcd:=fun y=>(y.2.1,y.2.2.1)) Tryd.func95 (by kernel_rfl) (by rfl) (q1q (l:=[(.loop (q3q 7 (q4q Tryd.f95) .skip),⟨qaV,qbw,lp qak K0⟩)]) (by kernel_rfl) ⟨qhD H,trivial⟩) (fun _=>rfl) rfl (fun x r h=>(qhF x.1 x.2.1).trans h)
theorem n84 {T:Told} (H:qad T):qas T Tryd.prog (envL e84):=q5q (l:=e84) ⟨ok95 H,trivial⟩
theorem qid {T:Told} (H:qad T):q12q T Tryd.prog 66 (.loop (q3q 8 (q4q Tryd.f84) .skip)) ⟨qa9,qbI,lp qat K0⟩ :=
 q7q H.ty (n84 H) hm (q1q (l:=[]) (by kernel_rfl) trivial) qie K0
theorem ok84 {T:Told} (H:qad T):qam T Tryd.prog 84 c84 :=
 qhV H.ty (n84 H) hm (lh:=qdh) (ct:=c84) (wi:=w84) (dcd:=fun y=>(y.2.1,y.2.2.1)) Tryd.func84 (by kernel_rfl) (by rfl) (q1q (l:=[(.loop (q3q 8 (q4q Tryd.f84) .skip),⟨qa9,qbI,lp qat K0⟩)]) (by kernel_rfl) ⟨qid H,trivial⟩) (fun _=>rfl) rfl (fun x r h=>(qif x.1 x.2.1).trans h)
theorem n85 {T:Told} (H:qad T):qas T Tryd.prog (envL e85):=q5q (l:=e85) ⟨ok13 H,ok19 H,ok31 H,ok45 H,ok47 H,ok48 H,ok82 H,trivial⟩
theorem qhG {T:Told} (H:qad T):q12q T Tryd.prog 113 (.loop (q3q 10 (q4q Tryd.f85) .skip)) ⟨qaW,qbz,lp qal K0⟩ :=
 q7q H.ty (n85 H) hm (q1q (l:=[]) (by kernel_rfl) trivial) qhH K0
theorem ok85 {T:Told} (H:qad T):qam T Tryd.prog 85 c85 :=
 qhV H.ty (n85 H) hm (lh:=qdi) (ct:=c85) (wi:=w85) (dcd:=fun y=>(y.2.1,y.2.2.1)) Tryd.func85 (by kernel_rfl) (by rfl) (q1q (l:=[(.loop (q3q 10 (q4q Tryd.f85) .skip),⟨qaW,qbz,lp qal K0⟩)]) (by kernel_rfl) ⟨qhG H,trivial⟩) (fun _=>rfl) rfl (fun x r h=>(qig x.1 x.2.1 x.2.2.1 x.2.2.2.1).trans h)
theorem n68 {T:Told} (H:qad T):qas T Tryd.prog (envL e68):=q5q (l:=e68) ⟨ok47 H,ok82 H,ok83 H,ok84 H,ok85 H,trivial⟩
theorem ok68 {T:Told} (H:qad T):qam T Tryd.prog 68 c68 :=
 qhV H.ty (n68 H) hm (lh:=qfc) (ct:=c68) (wi:=w68) (dcd:=fun y=>(y.2.1,y.2.2.1,y.2.2.2.1,y.2.2.2.2.1,y.2.2.2.2.2.1,y.2.2.2.2.2.2.1,y.2.2.2.2.2.2.2.1,y.2.2.2.2.2.2.2.2.1,y.2.2.2.2.2.2.2.2.2.1,y.2.2.2.2.2.2.2.2.2.2.1)) Tryd.func68 (by kernel_rfl) (by rfl) (q1q (l:=[]) (by kernel_rfl) trivial) (fun _=>rfl) rfl (fun x r h=>(qiD x.1 x.2.1 x.2.2.1 x.2.2.2.1 x.2.2.2.2.1 x.2.2.2.2.2.1 x.2.2.2.2.2.2.1 x.2.2.2.2.2.2.2.1 x.2.2.2.2.2.2.2.2.1 x.2.2.2.2.2.2.2.2.2.1).trans h)
theorem n29 {T:Told} (H:qad T):qas T Tryd.prog (envL e29):=q5q (l:=e29) ⟨ok45 H,ok48 H,trivial⟩
theorem qp4 {T:Told} (H:qad T):q12q T Tryd.prog 18 (.loop (q3q 3 (q4q Tryd.f29) .skip)) ⟨qeF,qfB,lp qcB K0⟩ :=
 q7q H.ty (n29 H) hm (q1q (l:=[]) (by kernel_rfl) trivial) qp6 K0
theorem ok29 {T:Told} (H:qad T):qam T Tryd.prog 29 c29 :=
 qaG H.ty (n29 H) hm (lh:=qiR) (ct:=c29) (dcd:=fun y=>(y.2.1)) Tryd.func29 (by kernel_rfl) (by rfl) (q1q (l:=[(.loop (q3q 3 (q4q Tryd.f29) .skip),⟨qeF,qfB,lp qcB K0⟩)]) (by kernel_rfl) ⟨qp4 H,trivial⟩) (by decide) (fun _=>rfl) (fun x r h=>(qp7 x.1).trans h)
theorem n86 {T:Told} (H:qad T):qas T Tryd.prog (envL e86):=q5q (l:=e86) ⟨ok29 H,ok95 H,trivial⟩
theorem ok86 {T:Told} (H:qad T):qam T Tryd.prog 86 c86 :=
 qhV H.ty (n86 H) hm (lh:=qf7) (ct:=c86) (wi:=w86) (dcd:=fun y=>(y.2.1,y.2.2.1,y.2.2.2.1)) Tryd.func86 (by kernel_rfl) (by rfl) (q1q (l:=[]) (by kernel_rfl) trivial) (fun _=>rfl) rfl (fun x r h=>(qjK x.1 x.2.1).trans h)
theorem n69 {T:Told} (H:qad T):qas T Tryd.prog (envL e69):=q5q (l:=e69) ⟨ok15 H,ok47 H,ok48 H,ok49 H,ok83 H,ok86 H,trivial⟩
theorem qia {T:Told} (H:qad T):q12q T Tryd.prog 69 (.loop (q3q 3 (q4q Tryd.f69) .skip)) ⟨qa8,qbG,lp qao K0⟩ :=
 q7q H.ty (n69 H) hm (q1q (l:=[]) (by kernel_rfl) trivial) qib K0
theorem ok69 {T:Told} (H:qad T):qam T Tryd.prog 69 c69 :=
 qhV H.ty (n69 H) hm (lh:=qdg) (ct:=c69) (wi:=w69) (dcd:=fun y=>(y.1.1,y.2.1,y.2.2.1,y.2.2.2.1,y.2.2.2.2.1,y.2.2.2.2.2.1)) Tryd.func69 (by kernel_rfl) (by rfl) (q1q (l:=[(.loop (q3q 3 (q4q Tryd.f69) .skip),⟨qa8,qbG,lp qao K0⟩)]) (by kernel_rfl) ⟨qia H,trivial⟩) (fun _=>rfl) rfl (fun x r h=>(qic x.1 x.2.1 x.2.2.1 x.2.2.2.1 x.2.2.2.2.1 x.2.2.2.2.2.1 x.2.2.2.2.2.2.1 x.2.2.2.2.2.2.2.1 x.2.2.2.2.2.2.2.2.1 x.2.2.2.2.2.2.2.2.2.1 x.2.2.2.2.2.2.2.2.2.2.1 x.2.2.2.2.2.2.2.2.2.2.2.1 x.2.2.2.2.2.2.2.2.2.2.2.2.1 x.2.2.2.2.2.2.2.2.2.2.2.2.2.1 x.2.2.2.2.2.2.2.2.2.2.2.2.2.2.1).trans h)
theorem n87 {T:Told} (H:qad T):qas T Tryd.prog (envL e87):=q5q (l:=e87) ⟨ok47 H,ok96 H,trivial⟩
theorem ok87 {T:Told} (H:qad T):qam T Tryd.prog 87 c87 :=
 qaG H.ty (n87 H) hm (lh:=ql8) (ct:=c87) (dcd:=fun y=>(y.2.1,y.2.2.1)) Tryd.func87 (by kernel_rfl) (by rfl) (q1q (l:=[]) (by kernel_rfl) trivial) (by decide) (fun _=>rfl) (fun x r h=>(qqe x.1 x.2.1).trans h)
theorem n97 {T:Told} (H:qad T):qas T Tryd.prog (envL e97):=q5q (l:=e97) ⟨ok35 H,trivial⟩
theorem ok97 {T:Told} (H:qad T):qam T Tryd.prog 97 c97 :=
 qaG H.ty (n97 H) hm (lh:=qkw) (ct:=c97) (dcd:=fun y=>(y.2.1)) Tryd.func97 (by kernel_rfl) (by rfl) (q1q (l:=[]) (by kernel_rfl) trivial) (by decide) (fun _=>rfl) (fun x r h=>(qoX x.1 x.2.1).trans h)
theorem n88 {T:Told} (H:qad T):qas T Tryd.prog (envL e88):=q5q (l:=e88) ⟨ok97 H,trivial⟩
theorem ok88 {T:Told} (H:qad T):qam T Tryd.prog 88 c88 :=
 qaG H.ty (n88 H) hm (lh:=qky) (ct:=c88) (dcd:=fun y=>(y.2.1)) Tryd.func88 (by kernel_rfl) (by rfl) (q1q (l:=[]) (by kernel_rfl) trivial) (by decide) (fun _=>rfl) (fun x r h=>(qoZ x.1 x.2.1).trans h)
theorem n89 {T:Told} (H:qad T):qas T Tryd.prog (envL e89):=q5q (l:=e89) trivial
theorem ok89 {T:Told} (H:qad T):qam T Tryd.prog 89 c89 :=
 qhV H.ty (n89 H) hm (lh:=qfD) (ct:=c89) (wi:=w89) (dcd:=fun y=>(y.2.1,y.2.2.1)) Tryd.func89 (by kernel_rfl) (by rfl) (q1q (l:=[]) (by kernel_rfl) trivial) (fun _=>rfl) rfl (fun x r h=>(qiW x.1).trans h)
theorem n70 {T:Told} (H:qad T):qas T Tryd.prog (envL e70):=q5q (l:=e70) ⟨ok47 H,ok87 H,ok88 H,ok89 H,trivial⟩
theorem ok70 {T:Told} (H:qad T):qam T Tryd.prog 70 c70 :=
 qhV H.ty (n70 H) hm (lh:=qeG) (ct:=c70) (wi:=w70) (dcd:=fun y=>(y.1.1,y.2.1,y.2.2.1,y.2.2.2.1,y.2.2.2.2.1,y.2.2.2.2.2.1,y.2.2.2.2.2.2.1,y.2.2.2.2.2.2.2.1,y.2.2.2.2.2.2.2.2.1,y.2.2.2.2.2.2.2.2.2.1,y.2.2.2.2.2.2.2.2.2.2.1,y.2.2.2.2.2.2.2.2.2.2.2.1,y.2.2.2.2.2.2.2.2.2.2.2.2.1,y.2.2.2.2.2.2.2.2.2.2.2.2.2.1,y.2.2.2.2.2.2.2.2.2.2.2.2.2.2.1,y.2.2.2.2.2.2.2.2.2.2.2.2.2.2.2.1,y.2.2.2.2.2.2.2.2.2.2.2.2.2.2.2.2.1)) Tryd.func70 (by kernel_rfl) (by rfl) (q1q (l:=[]) (by kernel_rfl) trivial) (fun _=>rfl) rfl (fun x r h=>(qhA x.1 x.2.1 x.2.2.1 x.2.2.2.1 x.2.2.2.2.1 x.2.2.2.2.2.1 x.2.2.2.2.2.2.1 x.2.2.2.2.2.2.2.1 x.2.2.2.2.2.2.2.2.1 x.2.2.2.2.2.2.2.2.2.1 x.2.2.2.2.2.2.2.2.2.2.1 x.2.2.2.2.2.2.2.2.2.2.2.1 x.2.2.2.2.2.2.2.2.2.2.2.2.1 x.2.2.2.2.2.2.2.2.2.2.2.2.2.1 x.2.2.2.2.2.2.2.2.2.2.2.2.2.2.1 x.2.2.2.2.2.2.2.2.2.2.2.2.2.2.2.1 x.2.2.2.2.2.2.2.2.2.2.2.2.2.2.2.2.1).trans h)
theorem n61 {T:Told} (H:qad T):qas T Tryd.prog (envL e61):=q5q (l:=e61) ⟨ok15 H,ok67 H,ok68 H,ok69 H,ok70 H,trivial⟩
theorem qh5 {T:Told} (H:qad T):q12q T Tryd.prog 91 (.loop (q3q 9 (q4q Tryd.f61) .skip)) ⟨qa6,qbE,lp qaj K0⟩ :=
 q7q H.ty (n61 H) hm (q1q (l:=[]) (by kernel_rfl) trivial) qh7 K0
theorem qh6 {T:Told} (H:qad T):q12q T Tryd.prog 91 (.loop (q3q 1 (q4q Tryd.f61) .skip)) ⟨qa7,qbF,lp qan K0⟩ :=
 q7q H.ty (n61 H) hm (q1q (l:=[(.loop (q3q 9 (q4q Tryd.f61) .skip),⟨qa6,qbE,lp qaj K0⟩)]) (by kernel_rfl) ⟨qh5 H,trivial⟩) qh8 K0
theorem ok61 {T:Told} (H:qad T):qam T Tryd.prog 61 c61 :=
 qhV H.ty (n61 H) hm (lh:=qcc) (ct:=c61) (wi:=w61) (dcd:=fun y=>(y.1.1,y.2.1,y.2.2.1,y.2.2.2.1,y.2.2.2.2.1,y.2.2.2.2.2.1)) Tryd.func61 (by kernel_rfl) (by rfl) (q1q (l:=[(.loop (q3q 1 (q4q Tryd.f61) .skip),⟨qa7,qbF,lp qan K0⟩)]) (by kernel_rfl) ⟨qh6 H,trivial⟩) (fun _=>rfl) rfl (fun x r h=>(qh9 x.1 x.2.1 x.2.2.1 x.2.2.2.1 x.2.2.2.2.1 x.2.2.2.2.2.1).trans h)
theorem n44 {T:Told} (H:qad T):qas T Tryd.prog (envL e44):=q5q (l:=e44) ⟨ok60 H,ok61 H,trivial⟩
theorem qnh {T:Told} (H:qad T):q12q T Tryd.prog 34 (.loop (q3q 3 (q4q Tryd.f44) .skip)) ⟨qc2,qdP,lp qbH K0⟩ :=
 q7q H.ty (n44 H) hm (q1q (l:=[]) (by kernel_rfl) trivial) qni K0
theorem ok44 {T:Told} (H:qad T):qam T Tryd.prog 44 c44 :=
 qaG H.ty (n44 H) hm (lh:=qgE) (ct:=c44) (dcd:=fun y=>(y.2.1)) Tryd.func44 (by kernel_rfl) (by rfl) (q1q (l:=[(.loop (q3q 3 (q4q Tryd.f44) .skip),⟨qc2,qdP,lp qbH K0⟩)]) (by kernel_rfl) ⟨qnh H,trivial⟩) (by decide) (fun _=>rfl) (fun x r h=>(qnj x.1 x.2.1 x.2.2.1 x.2.2.2.1).trans h)
theorem n46 {T:Told} (H:qad T):qas T Tryd.prog (envL e46):=q5q (l:=e46) ⟨ok34 H,ok44 H,trivial⟩
theorem ok46 {T:Told} (H:qad T):qam T Tryd.prog 46 c46 :=
 qaG H.ty (n46 H) hm (lh:=qhI) (ct:=c46) (dcd:=fun y=>(y.2.1,y.2.2.1)) Tryd.func46 (by kernel_rfl) (by rfl) (q1q (l:=[]) (by kernel_rfl) trivial) (by decide) (fun _=>rfl) (fun x r h=>(qlo x.1 x.2.1 x.2.2.1 x.2.2.2.1).trans h)
theorem n27 {T:Told} (H:qad T):qas T Tryd.prog (envL e27):=q5q (l:=e27) ⟨ok19 H,ok28 H,ok46 H,ok47 H,trivial⟩
theorem qkX {T:Told} (H:qad T):q12q T Tryd.prog 48 (.loop (q3q 5 (q4q Tryd.f27) .skip)) ⟨qb5,qcG,lp qaR K0⟩ :=
 q7q H.ty (n27 H) hm (q1q (l:=[]) (by kernel_rfl) trivial) qkY K0
theorem ok27 {T:Told} (H:qad T):qam T Tryd.prog 27 c27 :=
 qaG H.ty (n27 H) hm (lh:=qe6) (ct:=c27) (dcd:=fun y=>(y.2.1)) Tryd.func27 (by kernel_rfl) (by rfl) (q1q (l:=[(.loop (q3q 5 (q4q Tryd.f27) .skip),⟨qb5,qcG,lp qaR K0⟩)]) (by kernel_rfl) ⟨qkX H,trivial⟩) (by decide) (fun _=>rfl) (fun x r h=>(qkZ x.1 x.2.1 x.2.2.1).trans h)
theorem n17 {T:Told} (H:qad T):qas T Tryd.prog (envL e17):=q5q (l:=e17) ⟨ok27 H,ok34 H,trivial⟩
theorem ok17 {T:Told} (H:qad T):qam T Tryd.prog 17 c17 :=
 qaG H.ty (n17 H) hm (lh:=qiA) (ct:=c17) (dcd:=fun y=>(y.2.1,y.2.2.1)) Tryd.func17 (by kernel_rfl) (by rfl) (q1q (l:=[]) (by kernel_rfl) trivial) (by decide) (fun _=>rfl) (fun x r h=>(qms x.1 x.2.1 x.2.2.1 x.2.2.2.1).trans h)
theorem n6 {T:Told} (H:qad T):qas T Tryd.prog (envL e6):=q5q (l:=e6) ⟨ok15 H,ok16 H,ok17 H,ok18 H,ok19 H,trivial⟩
theorem qjs {r} (h:c6.F ()=r):qbf=r:=by
 subst h
 delta c6
 exact(@F_in [] _ _ (fun _=>qbf) _ _ () _ rfl).symm
theorem qjq (x) (r:c6.T) (h:c6.F x=some r):fnF tb (envL e6) Tryd.f6 qdX c6.ps c6.rs (T:=c6.T) (fun y=>(y.2.1)) x=some r:=by
 cases x;exact qjr.trans (qjs h)
theorem ok6 {T:Told} (H:qad T):qam T Tryd.prog 6 c6 :=
 qaG H.ty (n6 H) hm (lh:=qdX) (ct:=c6) (dcd:=fun y=>(y.2.1)) Tryd.func6 (by kernel_rfl) (by rfl) (q1q (l:=[]) (by kernel_rfl) trivial) (by decide) (fun _=>rfl) (fun x r h=>qjq x r h)
theorem ok7 {T:Told} (H:qad T):qam T Tryd.prog 7 c7:=qwx (ok8 H)
theorem n14 {T:Told} (H:qad T):qas T Tryd.prog (envL e14):=q5q (l:=e14) trivial
theorem ok14 {T:Told} (H:qad T):qam T Tryd.prog 14 c14 :=
 qaG H.ty (n14 H) hm (lh:=qfe) (ct:=c14) (dcd:=fun y=>(y.2.1)) Tryd.func14 (by kernel_rfl) (by rfl) (q1q (l:=[]) (by kernel_rfl) trivial) (by decide) (fun _=>rfl) (fun x r h=>(qiI x.1).trans h)
theorem n5 {T:Told} (H:qad T):qas T Tryd.prog (envL e5):=q5q (l:=e5) ⟨ok14 H,trivial⟩
theorem qki {T:Told} (H:qad T):q12q T Tryd.prog 67 (.loop (q3q 7 (q4q Tryd.f5) .skip)) ⟨qb0,qcs,lp qaC K0⟩ :=
 q7q H.ty (n5 H) hm (q1q (l:=[]) (by kernel_rfl) trivial) qkk K0
theorem qkj {T:Told} (H:qad T):q12q T Tryd.prog 67 (.loop (q3q 3 (q4q Tryd.f5) .skip)) ⟨qb1,qct,lp qaD K0⟩ :=
 q7q H.ty (n5 H) hm (q1q (l:=[(.loop (q3q 7 (q4q Tryd.f5) .skip),⟨qb0,qcs,lp qaC K0⟩)]) (by kernel_rfl) ⟨qki H,trivial⟩) qkl K0
theorem ok5 {T:Told} (H:qad T):qam T Tryd.prog 5 c5 :=
 qaG H.ty (n5 H) hm (lh:=qdm) (ct:=c5) (dcd:=fun y=>(y.2.1)) Tryd.func5 (by kernel_rfl) (by rfl) (q1q (l:=[(.loop (q3q 3 (q4q Tryd.f5) .skip),⟨qb1,qct,lp qaD K0⟩)]) (by kernel_rfl) ⟨qkj H,trivial⟩) (by decide) (fun _=>rfl) (fun x r h=>(qkm x.1).trans h)
theorem n43 {T:Told} (H:qad T):qas T Tryd.prog (envL e43):=q5q (l:=e43) trivial
theorem ok43 {T:Told} (H:qad T):qam T Tryd.prog 43 c43 :=
 qaG H.ty (n43 H) hm (lh:=qfd) (ct:=c43) (dcd:=fun y=>(y.2.1)) Tryd.func43 (by kernel_rfl) (by rfl) (q1q (l:=[]) (by kernel_rfl) trivial) (by decide) (fun _=>rfl) (fun x r h=>(qiH x.1).trans h)
theorem n23 {T:Told} (H:qad T):qas T Tryd.prog (envL e23):=q5q (l:=e23) ⟨ok43 H,trivial⟩
theorem qkf {T:Told} (H:qad T):q12q T Tryd.prog 32 (.loop (q3q 3 (q4q Tryd.f23) .skip)) ⟨qbZ,qcr,lp qaM K0⟩ :=
 q7q H.ty (n23 H) hm (q1q (l:=[]) (by kernel_rfl) trivial) qkg K0
theorem ok23 {T:Told} (H:qad T):qam T Tryd.prog 23 c23 :=
 qaG H.ty (n23 H) hm (lh:=qeC) (ct:=c23) (dcd:=fun y=>(y.2.1)) Tryd.func23 (by kernel_rfl) (by rfl) (q1q (l:=[(.loop (q3q 3 (q4q Tryd.f23) .skip),⟨qbZ,qcr,lp qaM K0⟩)]) (by kernel_rfl) ⟨qkf H,trivial⟩) (by decide) (fun _=>rfl) (fun x r h=>(qkh x.1 x.2.1).trans h)
theorem n10 {T:Told} (H:qad T):qas T Tryd.prog (envL e10):=q5q (l:=e10) ⟨ok5 H,ok23 H,trivial⟩
theorem ok10 {T:Told} (H:qad T):qam T Tryd.prog 10 c10 :=
 qaG H.ty (n10 H) hm (lh:=qfW) (ct:=c10) (dcd:=fun y=>(y.2.1,y.2.2.1)) Tryd.func10 (by kernel_rfl) (by rfl) (q1q (l:=[]) (by kernel_rfl) trivial) (by decide) (fun _=>rfl) (fun x r h=>(qjt x.1 x.2.1).trans h)
theorem n24 {T:Told} (H:qad T):qas T Tryd.prog (envL e24):=q5q (l:=e24) ⟨ok34 H,ok44 H,trivial⟩
theorem ok24 {T:Told} (H:qad T):qam T Tryd.prog 24 c24 :=
 qaG H.ty (n24 H) hm (lh:=qg3) (ct:=c24) (dcd:=fun y=>(y.2.1,y.2.2.1)) Tryd.func24 (by kernel_rfl) (by rfl) (q1q (l:=[]) (by kernel_rfl) trivial) (by decide) (fun _=>rfl) (fun x r h=>(qkI x.1 x.2.1).trans h)
theorem n25 {T:Told} (H:qad T):qas T Tryd.prog (envL e25):=q5q (l:=e25) ⟨ok45 H,trivial⟩
theorem qlz {T:Told} (H:qad T):q12q T Tryd.prog 22 (.loop (q3q 6 (q4q Tryd.f25) .skip)) ⟨qci,qc7,lp qbb K0⟩ :=
 q7q tyO (n25 H) hm (q1q (l:=[]) (by kernel_rfl) trivial) qlB K0
theorem qlA {T:Told} (H:qad T):q12q T Tryd.prog 22 (.loop (q3q 3 (q4q Tryd.f25) .skip)) ⟨qcj,qc8,lp qbc K0⟩ :=
 q7q tyO (n25 H) hm (q1q (l:=[(.loop (q3q 6 (q4q Tryd.f25) .skip),⟨qci,qc7,lp qbb K0⟩)]) (by kernel_rfl) ⟨qlz H,trivial⟩) qlC K0
theorem ok25 {T:Told} (H:qad T):qam T Tryd.prog 25 c25 :=
 qaG tyO (n25 H) hm (lh:=qd7) (ct:=c25) (dcd:=fun y=>(y.2.1)) Tryd.func25 (by kernel_rfl) (by rfl) (q1q (l:=[(.loop (q3q 3 (q4q Tryd.f25) .skip),⟨qcj,qc8,lp qbc K0⟩)]) (by kernel_rfl) ⟨qlA H,trivial⟩) (by decide) (fun _=>rfl) (fun x r h=>(qlD x.1).trans h)
theorem ok26 {T:Told} (H:qad T):qam T Tryd.prog 26 c26:=quC (ok8 H)
theorem qAa {T:Told} (H:qad T):qas T Tryd.prog (envL qxC):=q5q (l:=qxC) ⟨ok45 H,ok48 H,trivial⟩
theorem qm9 {T:Told} (H:qad T):q12q T Tryd.prog 18 (.loop (q3q 3 (q4q Tryd.f29) .skip)) ⟨qc0,qdO,lp qbD K0⟩ :=
 q7q H.ty (qAa H) hm (q1q (l:=[]) (by kernel_rfl) trivial) qna K0
theorem qz4 {T:Told} (H:qad T):qam T Tryd.prog 29 qwk :=
 qaG H.ty (qAa H) hm (lh:=qgC) (ct:=qwk) (dcd:=fun y=>(y.1.1,y.2.1)) Tryd.func29 (by kernel_rfl) (by rfl) (q1q (l:=[(.loop (q3q 3 (q4q Tryd.f29) .skip),⟨qc0,qdO,lp qbD K0⟩)]) (by kernel_rfl) ⟨qm9 H,trivial⟩) (by decide) (fun _=>rfl) (fun x r h=>(qnb x.1).trans h)
theorem n11 {T:Told} (H:qad T):qas T Tryd.prog (envL e11):=q5q (l:=e11) ⟨ok24 H,ok25 H,ok26 H,ok27 H,ok28 H,qz4 H,trivial⟩
theorem qj9 {T:Told} (H:qad T):q12q T Tryd.prog 91 (.loop (q3q 11 (q4q Tryd.f11) .skip)) ⟨qbY,qco,lp qaL K0⟩ :=
 q7q tyO (n11 H) hm (q1q (l:=[]) (by kernel_rfl) trivial) qkb K0
theorem qk0 {T:Told} (H:qad T):q12q T Tryd.prog 91 (.loop (q3q 7 (q4q Tryd.f11) .skip)) ⟨qb6,qcH,lp qaS K0⟩ :=
 q7q tyO (n11 H) hm (q1q (l:=[(.loop (q3q 11 (q4q Tryd.f11) .skip),⟨qbY,qco,lp qaL K0⟩)]) (by kernel_rfl) ⟨qj9 H,trivial⟩) qk1 K0
theorem qj8 {T:Told} (H:qad T):q12q T Tryd.prog 91 (.loop (q3q 18 (q4q Tryd.f11) .skip)) ⟨qbX,qcn,lp qaK K0⟩ :=
 q7q tyO (n11 H) hm (q1q (l:=[]) (by kernel_rfl) trivial) qka K0
theorem ok11 {T:Told} (H:qad T):qam T Tryd.prog 11 c11 :=
 qaG tyO (n11 H) hm (lh:=qcI) (ct:=c11) (dcd:=fun y=>(y.2.1,y.2.2.1)) Tryd.func11 (by kernel_rfl) (by rfl) (q1q (l:=[(.loop (q3q 7 (q4q Tryd.f11) .skip),⟨qb6,qcH,lp qaS K0⟩),(.loop (q3q 18 (q4q Tryd.f11) .skip),⟨qbX,qcn,lp qaK K0⟩)]) (by kernel_rfl) ⟨qk0 H,qj8 H,trivial⟩) (by decide) (fun _=>rfl) (fun x r h=>(qk2 x.1 x.2.1).trans h)
theorem n12 {T:Told} (H:qad T):qas T Tryd.prog (envL e12):=q5q (l:=e12) ⟨ok8 H,trivial⟩
theorem ok12 {T:Told} (H:qad T):qam T Tryd.prog 12 c12 :=
 qaG H.ty (n12 H) hm (lh:=qgU) (ct:=c12) (dcd:=fun y=>(y.2.1)) Tryd.func12 (by kernel_rfl) (by rfl) (q1q (l:=[]) (by kernel_rfl) trivial) (by decide) (fun _=>rfl) (fun x r h=>(qke x.1 x.2.1).trans h)
theorem n4 {T:Told} (H:qad T):qas T Tryd.prog (envL e4):=q5q (l:=e4) ⟨ok6 H,ok7 H,ok10 H,ok11 H,ok12 H,ok13 H,trivial⟩
theorem qfS {T:Told} (H:qad T):q12q T Tryd.prog 100 (.loop (q3q 14 (q4q Tryd.f4) .skip)) ⟨qay,qaH,lp qae K0⟩ :=
 q7q H.ty (n4 H) hm (q1q (l:=[]) (by kernel_rfl) trivial) qfU K0
theorem qfT {T:Told} (H:qad T):q12q T Tryd.prog 100 (.loop (q3q 11 (q4q Tryd.f4) .skip)) ⟨qaz,qaI,lp qaf K0⟩ :=
 q7q H.ty (n4 H) hm (q1q (l:=[(.loop (q3q 14 (q4q Tryd.f4) .skip),⟨qay,qaH,lp qae K0⟩)]) (by kernel_rfl) ⟨qfS H,trivial⟩) qfV K0
theorem ok4 {T:Told} (H:qad T):qam T Tryd.prog 4 c4 :=
 qaG H.ty (n4 H) hm (lh:=qbm) (ct:=c4) (dcd:=fun y=>(y.2.1)) Tryd.func4 (by kernel_rfl) (by rfl) (q1q (l:=[(.loop (q3q 11 (q4q Tryd.f4) .skip),⟨qaz,qaI,lp qaf K0⟩)]) (by kernel_rfl) ⟨qfT H,trivial⟩) (by decide) (fun _=>rfl) (fun x r h=>(qf5 x.1 x.2.1).trans h)
end Go.Proofs.YtfoedjifcmfogaaDoor.X
