/- Own work: part of the proof; the first line of each part says what it tells. -/
import Derived.Test.YtemlifeamdpjeaaGreatDoorLa10
import Derived.Test.YtemlifeamdpjeaaGreatDoorLa13


namespace Go.Proofs.YtemlifeamdpjeaaGreatDoor.X
open Go
set_option linter.unusedVariables false
set_option linter.unusedSimpArgs false
set_option maxRecDepth 100000
theorem F_in {ps:List (Ty×PM)} {rs:List (Ty×Bool)} {T:Type} {F:HL (fsts ps)→Option T} {enc:T→HL (qjt ps)×HL (fsts rs)} {wi:Option Wir} (x:HL (fsts ps)) {r:Option T} (h:F x=r):(Ctr.mk ps rs T F enc wi).F x=r:=h
theorem hm:Tryz.prog.follows .mixedOrders=true:=by kernel_rfl
structure qaa (T:Told):Prop where
 ty:TbOk Tryz.prog tb
 h121:qag T Tryz.prog 121 c121
 h130:qag T Tryz.prog 130 c130
theorem n27 {T:Told} (H:qaa T):qai T Tryz.prog (envL e27):=q5q (l:=e27) trivial
theorem ok27 {T:Told} (H:qaa T):qag T Tryz.prog 27 c27 :=
 qaq H.ty (n27 H) hm (lh:=qg7) (ct:=c27) (dcd:=fun y=>(y.2.1)) Tryz.func27 (by kernel_rfl) (by rfl) (q1q (l:=[]) (by kernel_rfl) trivial) (by decide) (fun _=>rfl) (fun x r h=>(qlc x.1).trans h)
theorem n10 {T:Told} (H:qaa T):qai T Tryz.prog (envL e10):=q5q (l:=e10) ⟨ok27 H,trivial⟩
theorem qnA {T:Told} (H:qaa T):q12q T Tryz.prog 67 (.loop (q3q 7 (q4q Tryz.f10) .skip)) ⟨qcn,qc6,lp qaJ K0⟩ :=
 q7q H.ty (n10 H) hm (q1q (l:=[]) (by kernel_rfl) trivial) qnC K0
theorem qnB {T:Told} (H:qaa T):q12q T Tryz.prog 67 (.loop (q3q 3 (q4q Tryz.f10) .skip)) ⟨qco,qc7,lp qaK K0⟩ :=
 q7q H.ty (n10 H) hm (q1q (l:=[(.loop (q3q 7 (q4q Tryz.f10) .skip),⟨qcn,qc6,lp qaJ K0⟩)]) (by kernel_rfl) ⟨qnA H,trivial⟩) qnD K0
theorem ok10 {T:Told} (H:qaa T):qag T Tryz.prog 10 c10 :=
 qaq H.ty (n10 H) hm (lh:=qej) (ct:=c10) (dcd:=fun y=>(y.2.1)) Tryz.func10 (by kernel_rfl) (by rfl) (q1q (l:=[(.loop (q3q 3 (q4q Tryz.f10) .skip),⟨qco,qc7,lp qaK K0⟩)]) (by kernel_rfl) ⟨qnB H,trivial⟩) (by decide) (fun _=>rfl) (fun x r h=>(qnE x.1).trans h)
theorem n28 {T:Told} (H:qaa T):qai T Tryz.prog (envL e28):=q5q (l:=e28) trivial
theorem ok28 {T:Told} (H:qaa T):qag T Tryz.prog 28 c28 :=
 qaq H.ty (n28 H) hm (lh:=qg6) (ct:=c28) (dcd:=fun y=>(y.2.1)) Tryz.func28 (by kernel_rfl) (by rfl) (q1q (l:=[]) (by kernel_rfl) trivial) (by decide) (fun _=>rfl) (fun x r h=>(qlb x.1).trans h)
theorem n11 {T:Told} (H:qaa T):qai T Tryz.prog (envL e11):=q5q (l:=e11) ⟨ok28 H,trivial⟩
theorem qnx {T:Told} (H:qaa T):q12q T Tryz.prog 32 (.loop (q3q 3 (q4q Tryz.f11) .skip)) ⟨qcm,qc5,lp qaV K0⟩ :=
 q7q H.ty (n11 H) hm (q1q (l:=[]) (by kernel_rfl) trivial) qny K0
theorem ok11 {T:Told} (H:qaa T):qag T Tryz.prog 11 c11 :=
 qaq H.ty (n11 H) hm (lh:=qf3) (ct:=c11) (dcd:=fun y=>(y.2.1)) Tryz.func11 (by kernel_rfl) (by rfl) (q1q (l:=[(.loop (q3q 3 (q4q Tryz.f11) .skip),⟨qcm,qc5,lp qaV K0⟩)]) (by kernel_rfl) ⟨qnx H,trivial⟩) (by decide) (fun _=>rfl) (fun x r h=>(qnz x.1 x.2.1).trans h)
theorem n4 {T:Told} (H:qaa T):qai T Tryz.prog (envL e4):=q5q (l:=e4) ⟨ok10 H,ok11 H,trivial⟩
theorem ok4 {T:Told} (H:qaa T):qag T Tryz.prog 4 c4 :=
 qaq H.ty (n4 H) hm (lh:=qh5) (ct:=c4) (dcd:=fun y=>(y.2.1,y.2.2.1)) Tryz.func4 (by kernel_rfl) (by rfl) (q1q (l:=[]) (by kernel_rfl) trivial) (by decide) (fun _=>rfl) (fun x r h=>(qmm x.1 x.2.1).trans h)
theorem n78 {T:Told} (H:qaa T):qai T Tryz.prog (envL e78):=q5q (l:=e78) trivial
theorem qs7 {T:Told} (H:qaa T):q12q T Tryz.prog 72 (.loop (q3q 9 (q4q Tryz.f78) .skip)) ⟨qfm,qgH,lp qb5 K0⟩ :=
 q7q H.ty (n78 H) hm (q1q (l:=[]) (by kernel_rfl) trivial) qs9 K0
theorem qs8 {T:Told} (H:qaa T):q12q T Tryz.prog 72 (.loop (q3q 4 (q4q Tryz.f78) .skip)) ⟨qfn,qgI,lp qbl K0⟩ :=
 q7q H.ty (n78 H) hm (q1q (l:=[(.loop (q3q 9 (q4q Tryz.f78) .skip),⟨qfm,qgH,lp qb5 K0⟩)]) (by kernel_rfl) ⟨qs7 H,trivial⟩) qta K0
theorem ok78 {T:Told} (H:qaa T):qag T Tryz.prog 78 c78 :=
 qaq H.ty (n78 H) hm (lh:=qin) (ct:=c78) (dcd:=fun y=>(y.2.1)) Tryz.func78 (by kernel_rfl) (by rfl) (q1q (l:=[(.loop (q3q 4 (q4q Tryz.f78) .skip),⟨qfn,qgI,lp qbl K0⟩)]) (by kernel_rfl) ⟨qs8 H,trivial⟩) (by decide) (fun _=>rfl) (fun x r h=>(qtb x.1).trans h)
theorem n79 {T:Told} (H:qaa T):qai T Tryz.prog (envL e79):=q5q (l:=e79) trivial
theorem qqm {T:Told} (H:qaa T):q12q T Tryz.prog 52 (.loop (q3q 2 (q4q Tryz.f79) .skip)) ⟨qdN,qeQ,lp qa9 K0⟩ :=
 q7q H.ty (n79 H) hm (q1q (l:=[]) (by kernel_rfl) trivial) qqn K0
theorem ok79 {T:Told} (H:qaa T):qag T Tryz.prog 79 c79 :=
 qaq H.ty (n79 H) hm (lh:=qiK) (ct:=c79) (dcd:=fun y=>(y.2.1,y.2.2.1)) Tryz.func79 (by kernel_rfl) (by rfl) (q1q (l:=[(.loop (q3q 2 (q4q Tryz.f79) .skip),⟨qdN,qeQ,lp qa9 K0⟩)]) (by kernel_rfl) ⟨qqm H,trivial⟩) (by decide) (fun _=>rfl) (fun x r h=>(qqo x.1 x.2.1).trans h)
theorem n80 {T:Told} (H:qaa T):qai T Tryz.prog (envL e80):=q5q (l:=e80) trivial
theorem qrv {T:Told} (H:qaa T):q12q T Tryz.prog 103 (.loop (q3q 3 (q4q Tryz.f80) .skip)) ⟨qeu,qfA,lp qbU K0⟩ :=
 q7q H.ty (n80 H) hm (q1q (l:=[]) (by kernel_rfl) trivial) qrw K0
theorem qqi {T:Told} (H:qaa T):q12q T Tryz.prog 103 (.loop (q3q 10 (q4q Tryz.f80) .skip)) ⟨qdM,qeP,lp qaW K0⟩ :=
 q7q H.ty (n80 H) hm (q1q (l:=[]) (by kernel_rfl) trivial) qql K0
theorem qqh {T:Told} (H:qaa T):q12q T Tryz.prog 103 (.loop (q3q 17 (q4q Tryz.f80) .skip)) ⟨qdL,qeO,lp qbV K0⟩ :=
 q7q H.ty (n80 H) hm (q1q (l:=[]) (by kernel_rfl) trivial) qqk K0
theorem qqg {T:Told} (H:qaa T):q12q T Tryz.prog 103 (.loop (q3q 25 (q4q Tryz.f80) .skip)) ⟨qdK,qeN,lp qa8 K0⟩ :=
 q7q H.ty (n80 H) hm (q1q (l:=[]) (by kernel_rfl) trivial) qqj K0
theorem ok80 {T:Told} (H:qaa T):qag T Tryz.prog 80 c80 :=
 qaq H.ty (n80 H) hm (lh:=qet) (ct:=c80) (dcd:=fun y=>(y.2.1,y.2.2.1)) Tryz.func80 (by kernel_rfl) (by rfl) (q1q (l:=[(.loop (q3q 3 (q4q Tryz.f80) .skip),⟨qeu,qfA,lp qbU K0⟩),(.loop (q3q 10 (q4q Tryz.f80) .skip),⟨qdM,qeP,lp qaW K0⟩),(.loop (q3q 17 (q4q Tryz.f80) .skip),⟨qdL,qeO,lp qbV K0⟩),(.loop (q3q 25 (q4q Tryz.f80) .skip),⟨qdK,qeN,lp qa8 K0⟩)]) (by kernel_rfl) ⟨qrv H,qqi H,qqh H,qqg H,trivial⟩) (by decide) (fun _=>rfl) (fun x r h=>(qrx x.1).trans h)
theorem n55 {T:Told} (H:qaa T):qai T Tryz.prog (envL e55):=q5q (l:=e55) trivial
theorem qvY {T:Told} (H:qaa T):q12q T Tryz.prog 23 (.loop (q3q 2 (q4q Tryz.f55) .skip)) ⟨qhl,qiT,lp qef K0⟩ :=
 q7q H.ty (n55 H) hm (q1q (l:=[]) (by kernel_rfl) trivial) qvZ K0
theorem ok55 {T:Told} (H:qaa T):qag T Tryz.prog 55 c55 :=
 qaq H.ty (n55 H) hm (lh:=qnf) (ct:=c55) (dcd:=fun y=>(y.2.1)) Tryz.func55 (by kernel_rfl) (by rfl) (q1q (l:=[(.loop (q3q 2 (q4q Tryz.f55) .skip),⟨qhl,qiT,lp qef K0⟩)]) (by kernel_rfl) ⟨qvY H,trivial⟩) (by decide) (fun _=>rfl) (fun x r h=>(qv0 x.1).trans h)
theorem n30 {T:Told} (H:qaa T):qai T Tryz.prog (envL e30):=q5q (l:=e30) ⟨ok55 H,trivial⟩
theorem ok30 {T:Told} (H:qaa T):qag T Tryz.prog 30 c30 :=
 qaq H.ty (n30 H) hm (lh:=quL) (ct:=c30) (dcd:=fun y=>(y.2.1)) Tryz.func30 (by kernel_rfl) (by rfl) (q1q (l:=[]) (by kernel_rfl) trivial) (by decide) (fun _=>rfl) (fun x r h=>(qzv x.1).trans h)
theorem n13 {T:Told} (H:qaa T):qai T Tryz.prog (envL e13):=q5q (l:=e13) ⟨ok30 H,trivial⟩
theorem ok13 {T:Told} (H:qaa T):qag T Tryz.prog 13 c13 :=
 qaq H.ty (n13 H) hm (lh:=qnY) (ct:=c13) (dcd:=fun y=>(y.2.1)) Tryz.func13 (by kernel_rfl) (by rfl) (q1q (l:=[]) (by kernel_rfl) trivial) (by decide) (fun _=>rfl) (fun x r h=>(qsP ).trans h)
theorem n56 {T:Told} (H:qaa T):qai T Tryz.prog (envL e56):=q5q (l:=e56) ⟨ok55 H,trivial⟩
theorem quM {T:Told} (H:qaa T):q12q T Tryz.prog 24 (.loop (q3q 3 (q4q Tryz.f56) .skip)) ⟨qgn,qhX,lp qdr K0⟩ :=
 q7q H.ty (n56 H) hm (q1q (l:=[]) (by kernel_rfl) trivial) quN K0
theorem ok56 {T:Told} (H:qaa T):qag T Tryz.prog 56 c56 :=
 qaq H.ty (n56 H) hm (lh:=qlI) (ct:=c56) (dcd:=fun y=>(y.2.1)) Tryz.func56 (by kernel_rfl) (by rfl) (q1q (l:=[(.loop (q3q 3 (q4q Tryz.f56) .skip),⟨qgn,qhX,lp qdr K0⟩)]) (by kernel_rfl) ⟨quM H,trivial⟩) (by decide) (fun _=>rfl) (fun x r h=>(quO x.1).trans h)
theorem n120 {T:Told} (H:qaa T):qai T Tryz.prog (envL e120):=q5q (l:=e120) ⟨ok56 H,trivial⟩
theorem qEU {T:Told} (H:qaa T):qag T Tryz.prog 120 c120 :=
 qaq H.ty (n120 H) hm (lh:=quK) (ct:=c120) (dcd:=fun y=>(y.2.1,y.2.2.1)) Tryz.func120 (by kernel_rfl) (by rfl) (q1q (l:=[]) (by kernel_rfl) trivial) (by decide) (fun _=>rfl) (fun x r h=>(qzu x.1).trans h)
theorem n96 {T:Told} (H:qaa T):qai T Tryz.prog (envL e96):=q5q (l:=e96) ⟨ok30 H,qEU H,trivial⟩
theorem qs2 {T:Told} (H:qaa T):q12q T Tryz.prog 27 (.loop (q3q 3 (q4q Tryz.f96) .skip)) ⟨qfj,qgG,lp qdq K0⟩ :=
 q7q H.ty (n96 H) hm (q1q (l:=[]) (by kernel_rfl) trivial) qs3 K0
theorem ok96 {T:Told} (H:qaa T):qag T Tryz.prog 96 c96 :=
 qaq H.ty (n96 H) hm (lh:=qkH) (ct:=c96) (dcd:=fun y=>(y.2.1)) Tryz.func96 (by kernel_rfl) (by rfl) (q1q (l:=[(.loop (q3q 3 (q4q Tryz.f96) .skip),⟨qfj,qgG,lp qdq K0⟩)]) (by kernel_rfl) ⟨qs2 H,trivial⟩) (by decide) (fun _=>rfl) (fun x r h=>(qs4 x.1 x.2.1).trans h)
theorem n97 {T:Told} (H:qaa T):qai T Tryz.prog (envL e97):=q5q (l:=e97) ⟨H.h121,trivial⟩
theorem quv {T:Told} (H:qaa T):q12q T Tryz.prog 24 (.loop (q3q 3 (q4q Tryz.f97) .skip)) ⟨qgh,qhR,lp qd7 K0⟩ :=
 q7q H.ty (n97 H) hm (q1q (l:=[]) (by kernel_rfl) trivial) quw K0
theorem ok97 {T:Told} (H:qaa T):qag T Tryz.prog 97 c97 :=
 qaq H.ty (n97 H) hm (lh:=qlz) (ct:=c97) (dcd:=fun y=>(y.2.1)) Tryz.func97 (by kernel_rfl) (by rfl) (q1q (l:=[(.loop (q3q 3 (q4q Tryz.f97) .skip),⟨qgh,qhR,lp qd7 K0⟩)]) (by kernel_rfl) ⟨quv H,trivial⟩) (by decide) (fun _=>rfl) (fun x r h=>(qux x.1).trans h)
theorem n105 {T:Told} (H:qaa T):qai T Tryz.prog (envL e105):=q5q (l:=e105) trivial
theorem qzs {T:Told} (H:qaa T):qag T Tryz.prog 105 c105 :=
 qaq H.ty (n105 H) hm (lh:=qqW) (ct:=c105) (dcd:=fun y=>(y.2.1)) Tryz.func105 (by kernel_rfl) (by rfl) (q1q (l:=[]) (by kernel_rfl) trivial) (by decide) (fun _=>rfl) (fun x r h=>(qv8 x.1 x.2.1).trans h)
theorem n98 {T:Told} (H:qaa T):qai T Tryz.prog (envL e98):=q5q (l:=e98) ⟨ok55 H,qzs H,trivial⟩
theorem qxT {T:Told} (H:qaa T):q12q T Tryz.prog 50 (.loop (q3q 6 (q4q Tryz.f98) .skip)) ⟨qiB,qj1,lp qfh K0⟩ :=
 q7q H.ty (n98 H) hm (q1q (l:=[]) (by kernel_rfl) trivial) qxU K0
theorem ok98 {T:Told} (H:qaa T):qag T Tryz.prog 98 c98 :=
 qaq H.ty (n98 H) hm (lh:=qoU) (ct:=c98) (dcd:=fun y=>(y.2.1)) Tryz.func98 (by kernel_rfl) (by rfl) (q1q (l:=[(.loop (q3q 6 (q4q Tryz.f98) .skip),⟨qiB,qj1,lp qfh K0⟩)]) (by kernel_rfl) ⟨qxT H,trivial⟩) (by decide) (fun _=>rfl) (fun x r h=>(qxV x.1 x.2.1).trans h)
theorem n99 {T:Told} (H:qaa T):qai T Tryz.prog (envL e99):=q5q (l:=e99) trivial
theorem quB {T:Told} (H:qaa T):q12q T Tryz.prog 45 (.loop (q3q 6 (q4q Tryz.f99) .skip)) ⟨qgj,qhT,lp qcT K0⟩ :=
 q7q H.ty (n99 H) hm (q1q (l:=[]) (by kernel_rfl) trivial) quC K0
theorem ok99 {T:Told} (H:qaa T):qag T Tryz.prog 99 c99 :=
 qaq H.ty (n99 H) hm (lh:=qlC) (ct:=c99) (dcd:=fun y=>(y.2.1)) Tryz.func99 (by kernel_rfl) (by rfl) (q1q (l:=[(.loop (q3q 6 (q4q Tryz.f99) .skip),⟨qgj,qhT,lp qcT K0⟩)]) (by kernel_rfl) ⟨quB H,trivial⟩) (by decide) (fun _=>rfl) (fun x r h=>(quD x.1 x.2.1).trans h)
theorem n100 {T:Told} (H:qaa T):qai T Tryz.prog (envL e100):=q5q (l:=e100) ⟨ok55 H,trivial⟩
theorem qxW {T:Told} (H:qaa T):q12q T Tryz.prog 51 (.loop (q3q 4 (q4q Tryz.f100) .skip)) ⟨qiC,qj2,lp qfi K0⟩ :=
 q7q H.ty (n100 H) hm (q1q (l:=[]) (by kernel_rfl) trivial) qxX K0
theorem qEi {T:Told} (H:qaa T):qag T Tryz.prog 100 c100 :=
 qaq H.ty (n100 H) hm (lh:=qoV) (ct:=c100) (dcd:=fun y=>(y.2.1)) Tryz.func100 (by kernel_rfl) (by rfl) (q1q (l:=[(.loop (q3q 4 (q4q Tryz.f100) .skip),⟨qiC,qj2,lp qfi K0⟩)]) (by kernel_rfl) ⟨qxW H,trivial⟩) (by decide) (fun _=>rfl) (fun x r h=>(qxY x.1 x.2.1).trans h)
theorem n103 {T:Told} (H:qaa T):qai T Tryz.prog (envL e103):=q5q (l:=e103) ⟨ok55 H,trivial⟩
theorem quy {T:Told} (H:qaa T):q12q T Tryz.prog 38 (.loop (q3q 4 (q4q Tryz.f103) .skip)) ⟨qgi,qhS,lp qd8 K0⟩ :=
 q7q H.ty (n103 H) hm (q1q (l:=[]) (by kernel_rfl) trivial) quz K0
theorem qE3 {T:Told} (H:qaa T):qag T Tryz.prog 103 c103 :=
 qaq H.ty (n103 H) hm (lh:=qlA) (ct:=c103) (dcd:=fun y=>(y.2.1,y.2.2.1)) Tryz.func103 (by kernel_rfl) (by rfl) (q1q (l:=[(.loop (q3q 4 (q4q Tryz.f103) .skip),⟨qgi,qhS,lp qd8 K0⟩)]) (by kernel_rfl) ⟨quy H,trivial⟩) (by decide) (fun _=>rfl) (fun x r h=>(quA x.1 x.2.1).trans h)
theorem n122 {T:Told} (H:qaa T):qai T Tryz.prog (envL e122):=q5q (l:=e122) ⟨H.h130,trivial⟩
theorem qET {T:Told} (H:qaa T):qag T Tryz.prog 122 c122 :=
 qaq H.ty (n122 H) hm (lh:=qg8) (ct:=c122) (dcd:=fun y=>(y.2.1)) Tryz.func122 (by kernel_rfl) (by rfl) (q1q (l:=[]) (by kernel_rfl) trivial) (by decide) (fun _=>rfl) (fun x r h=>(qld x.1).trans h)
theorem n131 {T:Told} (H:qaa T):qai T Tryz.prog (envL e131):=q5q (l:=e131) ⟨qzs H,trivial⟩
theorem qv1 {T:Told} (H:qaa T):q12q T Tryz.prog 46 (.loop (q3q 3 (q4q Tryz.f131) .skip)) ⟨qhm,qiU,lp qeZ K0⟩ :=
 q7q H.ty (n131 H) hm (q1q (l:=[]) (by kernel_rfl) trivial) qv2 K0
theorem qEO {T:Told} (H:qaa T):qag T Tryz.prog 131 c131 :=
 qaq H.ty (n131 H) hm (lh:=qng) (ct:=c131) (dcd:=fun y=>(y.1.1,y.2.1)) Tryz.func131 (by kernel_rfl) (by rfl) (q1q (l:=[(.loop (q3q 3 (q4q Tryz.f131) .skip),⟨qhm,qiU,lp qeZ K0⟩)]) (by kernel_rfl) ⟨qv1 H,trivial⟩) (by decide) (fun _=>rfl) (fun x r h=>(qv3 x.1 x.2.1 x.2.2.1).trans h)
theorem n132 {T:Told} (H:qaa T):qai T Tryz.prog (envL e132):=q5q (l:=e132) ⟨qzs H,trivial⟩
theorem qv9 {T:Told} (H:qaa T):q12q T Tryz.prog 29 (.loop (q3q 2 (q4q Tryz.f132) .skip)) ⟨qho,qiX,lp qe0 K0⟩ :=
 q7q H.ty (n132 H) hm (q1q (l:=[]) (by kernel_rfl) trivial) qwa K0
theorem qEN {T:Told} (H:qaa T):qag T Tryz.prog 132 c132 :=
 qaq H.ty (n132 H) hm (lh:=qni) (ct:=c132) (dcd:=fun y=>(y.1.1)) Tryz.func132 (by kernel_rfl) (by rfl) (q1q (l:=[(.loop (q3q 2 (q4q Tryz.f132) .skip),⟨qho,qiX,lp qe0 K0⟩)]) (by kernel_rfl) ⟨qv9 H,trivial⟩) (by decide) (fun _=>rfl) (fun x r h=>(qwb x.1 x.2.1).trans h)
theorem n123 {T:Told} (H:qaa T):qai T Tryz.prog (envL e123):=q5q (l:=e123) ⟨qEO H,qEN H,trivial⟩
theorem quH {T:Told} (H:qaa T):q12q T Tryz.prog 77 (.loop (q3q 4 (q4q Tryz.f123) .skip)) ⟨qgl,qhW,lp qbJ K0⟩ :=
 q7q H.ty (n123 H) hm (q1q (l:=[]) (by kernel_rfl) trivial) quI K0
theorem qES {T:Told} (H:qaa T):qag T Tryz.prog 123 c123 :=
 qaq H.ty (n123 H) hm (lh:=qlE) (ct:=c123) (dcd:=fun y=>(y.1.1,y.2.1)) Tryz.func123 (by kernel_rfl) (by rfl) (q1q (l:=[(.loop (q3q 4 (q4q Tryz.f123) .skip),⟨qgl,qhW,lp qbJ K0⟩)]) (by kernel_rfl) ⟨quH H,trivial⟩) (by decide) (fun _=>rfl) (fun x r h=>(quJ x.1 x.2.1).trans h)
theorem n104 {T:Told} (H:qaa T):qai T Tryz.prog (envL e104):=q5q (l:=e104) ⟨ok55 H,ok98 H,qEi H,qET H,qES H,trivial⟩
theorem qv5 {T:Told} (H:qaa T):q12q T Tryz.prog 64 (.loop (q3q 7 (q4q Tryz.f104) .skip)) ⟨qhn,qiW,lp qeh K0⟩ :=
 q7q H.ty (n104 H) hm (q1q (l:=[]) (by kernel_rfl) trivial) qv6 K0
theorem qE2 {T:Told} (H:qaa T):qag T Tryz.prog 104 c104 :=
 qaq H.ty (n104 H) hm (lh:=qnh) (ct:=c104) (dcd:=fun y=>(y.2.1,y.2.2.1)) Tryz.func104 (by kernel_rfl) (by rfl) (q1q (l:=[(.loop (q3q 7 (q4q Tryz.f104) .skip),⟨qhn,qiW,lp qeh K0⟩)]) (by kernel_rfl) ⟨qv5 H,trivial⟩) (by decide) (fun _=>rfl) (fun x r h=>(qv7 x.1 x.2.1).trans h)
theorem n59 {T:Told} (H:qaa T):qai T Tryz.prog (envL e59):=q5q (l:=e59) ⟨ok30 H,ok56 H,ok99 H,qE3 H,qE2 H,trivial⟩
theorem ok59 {T:Told} (H:qaa T):qag T Tryz.prog 59 c59 :=
 qaq H.ty (n59 H) hm (lh:=qok) (ct:=c59) (dcd:=fun y=>(y.2.1,y.2.2.1,y.2.2.2.1)) Tryz.func59 (by kernel_rfl) (by rfl) (q1q (l:=[]) (by kernel_rfl) trivial) (by decide) (fun _=>rfl) (fun x r h=>(qs5 x.1 x.2.1).trans h)
theorem n101 {T:Told} (H:qaa T):qai T Tryz.prog (envL e101):=q5q (l:=e101) ⟨ok59 H,trivial⟩
theorem qE4 {T:Told} (H:qaa T):qag T Tryz.prog 101 c101 :=
 qaq H.ty (n101 H) hm (lh:=qqV) (ct:=c101) (dcd:=fun y=>(y.2.1,y.2.2.1)) Tryz.func101 (by kernel_rfl) (by rfl) (q1q (l:=[]) (by kernel_rfl) trivial) (by decide) (fun _=>rfl) (fun x r h=>(qv4 x.1 x.2.1).trans h)
theorem n102 {T:Told} (H:qaa T):qai T Tryz.prog (envL e102):=q5q (l:=e102) ⟨ok55 H,qzs H,trivial⟩
theorem quE {T:Told} (H:qaa T):q12q T Tryz.prog 39 (.loop (q3q 4 (q4q Tryz.f102) .skip)) ⟨qgk,qhV,lp qd9 K0⟩ :=
 q7q H.ty (n102 H) hm (q1q (l:=[]) (by kernel_rfl) trivial) quF K0
theorem qEh {T:Told} (H:qaa T):qag T Tryz.prog 102 c102 :=
 qaq H.ty (n102 H) hm (lh:=qlD) (ct:=c102) (dcd:=fun y=>(y.2.1)) Tryz.func102 (by kernel_rfl) (by rfl) (q1q (l:=[(.loop (q3q 4 (q4q Tryz.f102) .skip),⟨qgk,qhV,lp qd9 K0⟩)]) (by kernel_rfl) ⟨quE H,trivial⟩) (by decide) (fun _=>rfl) (fun x r h=>(quG x.1 x.2.1).trans h)
theorem n58 {T:Told} (H:qaa T):qai T Tryz.prog (envL e58):=q5q (l:=e58) ⟨ok56 H,ok96 H,ok97 H,ok98 H,ok99 H,qEi H,qE4 H,qEh H,trivial⟩
theorem qwc {T:Told} (H:qaa T):q12q T Tryz.prog 86 (.loop (q3q 10 (q4q Tryz.f58) .skip)) ⟨qhp,qiY,lp qb3 K0⟩ :=
 q7q H.ty (n58 H) hm (q1q (l:=[]) (by kernel_rfl) trivial) qwd K0
theorem ok58 {T:Told} (H:qaa T):qag T Tryz.prog 58 c58 :=
 qaq H.ty (n58 H) hm (lh:=qoW) (ct:=c58) (dcd:=fun y=>(y.2.1)) Tryz.func58 (by kernel_rfl) (by rfl) (q1q (l:=[(.loop (q3q 10 (q4q Tryz.f58) .skip),⟨qhp,qiY,lp qb3 K0⟩)]) (by kernel_rfl) ⟨qwc H,trivial⟩) (by decide) (fun _=>rfl) (fun x r h=>(qx5 x.1 x.2.1).trans h)
theorem n32 {T:Told} (H:qaa T):qai T Tryz.prog (envL e32):=q5q (l:=e32) ⟨ok30 H,ok58 H,ok59 H,trivial⟩
theorem ok32 {T:Told} (H:qaa T):qag T Tryz.prog 32 c32 :=
 qaq H.ty (n32 H) hm (lh:=qnX) (ct:=c32) (dcd:=fun y=>(y.2.1)) Tryz.func32 (by kernel_rfl) (by rfl) (q1q (l:=[]) (by kernel_rfl) trivial) (by decide) (fun _=>rfl) (fun x r h=>(qsO x.1 x.2.1).trans h)
theorem n60 {T:Told} (H:qaa T):qai T Tryz.prog (envL e60):=q5q (l:=e60) trivial
theorem ok60 {T:Told} (H:qaa T):qag T Tryz.prog 60 c60 :=
 qaq H.ty (n60 H) hm (lh:=qnJ) (ct:=c60) (dcd:=fun y=>(y.2.1)) Tryz.func60 (by kernel_rfl) (by rfl) (q1q (l:=[]) (by kernel_rfl) trivial) (by decide) (fun _=>rfl) (fun x r h=>(qsu x.1 x.2.1).trans h)
theorem n57 {T:Told} (H:qaa T):qai T Tryz.prog (envL e57):=q5q (l:=e57) ⟨ok56 H,ok60 H,trivial⟩
theorem ok57 {T:Told} (H:qaa T):qag T Tryz.prog 57 c57 :=
 qaq H.ty (n57 H) hm (lh:=qmR) (ct:=c57) (dcd:=fun y=>(y.2.1)) Tryz.func57 (by kernel_rfl) (by rfl) (q1q (l:=[]) (by kernel_rfl) trivial) (by decide) (fun _=>rfl) (fun x r h=>(qru x.1).trans h)
theorem n31 {T:Told} (H:qaa T):qai T Tryz.prog (envL e31):=q5q (l:=e31) ⟨ok13 H,ok32 H,ok56 H,ok57 H,trivial⟩
theorem ok31 {T:Told} (H:qaa T):qag T Tryz.prog 31 c31 :=
 qaq H.ty (n31 H) hm (lh:=qmV) (ct:=c31) (dcd:=fun y=>(y.2.1)) Tryz.func31 (by kernel_rfl) (by rfl) (q1q (l:=[]) (by kernel_rfl) trivial) (by decide) (fun _=>rfl) (fun x r h=>(qrE x.1).trans h)
theorem n124 {T:Told} (H:qaa T):qai T Tryz.prog (envL e124):=q5q (l:=e124) ⟨ok57 H,trivial⟩
theorem qEc {T:Told} (H:qaa T):qag T Tryz.prog 124 c124 :=
 qaq H.ty (n124 H) hm (lh:=qnK) (ct:=c124) (dcd:=fun y=>(y.2.1)) Tryz.func124 (by kernel_rfl) (by rfl) (q1q (l:=[]) (by kernel_rfl) trivial) (by decide) (fun _=>rfl) (fun x r h=>(qsv x.1).trans h)
theorem n109 {T:Told} (H:qaa T):qai T Tryz.prog (envL e109):=q5q (l:=e109) ⟨ok31 H,qEc H,trivial⟩
theorem qC4 {T:Told} (H:qaa T):qag T Tryz.prog 109 c109 :=
 qaq H.ty (n109 H) hm (lh:=qnZ) (ct:=c109) (dcd:=fun y=>(y.2.1)) Tryz.func109 (by kernel_rfl) (by rfl) (q1q (l:=[]) (by kernel_rfl) trivial) (by decide) (fun _=>rfl) (fun x r h=>(qsQ x.1).trans h)
theorem n81 {T:Told} (H:qaa T):qai T Tryz.prog (envL e81):=q5q (l:=e81) ⟨qC4 H,trivial⟩
theorem qqp {T:Told} (H:qaa T):q12q T Tryz.prog 19 (.loop (q3q 2 (q4q Tryz.f81) .skip)) ⟨qdO,qeR,lp qba K0⟩ :=
 q7q H.ty (n81 H) hm (q1q (l:=[]) (by kernel_rfl) trivial) qqq K0
theorem ok81 {T:Told} (H:qaa T):qag T Tryz.prog 81 c81 :=
 qaq H.ty (n81 H) hm (lh:=qiL) (ct:=c81) (dcd:=fun y=>(y.2.1,y.2.2.1)) Tryz.func81 (by kernel_rfl) (by rfl) (q1q (l:=[(.loop (q3q 2 (q4q Tryz.f81) .skip),⟨qdO,qeR,lp qba K0⟩)]) (by kernel_rfl) ⟨qqp H,trivial⟩) (by decide) (fun _=>rfl) (fun x r h=>(qqr x.1).trans h)
theorem n61 {T:Told} (H:qaa T):qai T Tryz.prog (envL e61):=q5q (l:=e61) ⟨ok55 H,ok56 H,qzs H,trivial⟩
theorem qx7 {T:Told} (H:qaa T):q12q T Tryz.prog 43 (.loop (q3q 5 (q4q Tryz.f61) .skip)) ⟨qiF,qj7,lp qgo K0⟩ :=
 q7q H.ty (n61 H) hm (q1q (l:=[]) (by kernel_rfl) trivial) qx8 K0
theorem ok61 {T:Told} (H:qaa T):qag T Tryz.prog 61 c61 :=
 qaq H.ty (n61 H) hm (lh:=qoX) (ct:=c61) (dcd:=fun y=>(y.2.1)) Tryz.func61 (by kernel_rfl) (by rfl) (q1q (l:=[(.loop (q3q 5 (q4q Tryz.f61) .skip),⟨qiF,qj7,lp qgo K0⟩)]) (by kernel_rfl) ⟨qx7 H,trivial⟩) (by decide) (fun _=>rfl) (fun x r h=>(qx9 x.1 x.2.1).trans h)
theorem n62 {T:Told} (H:qaa T):qai T Tryz.prog (envL e62):=q5q (l:=e62) ⟨ok56 H,ok99 H,trivial⟩
theorem ok62 {T:Told} (H:qaa T):qag T Tryz.prog 62 c62 :=
 qaq H.ty (n62 H) hm (lh:=qr9) (ct:=c62) (dcd:=fun y=>(y.2.1)) Tryz.func62 (by kernel_rfl) (by rfl) (q1q (l:=[]) (by kernel_rfl) trivial) (by decide) (fun _=>rfl) (fun x r h=>(qx6 x.1 x.2.1).trans h)
theorem n63 {T:Told} (H:qaa T):qai T Tryz.prog (envL e63):=q5q (l:=e63) ⟨ok56 H,ok99 H,qEh H,trivial⟩
theorem ok63 {T:Told} (H:qaa T):qag T Tryz.prog 63 c63 :=
 qaq H.ty (n63 H) hm (lh:=qr8) (ct:=c63) (dcd:=fun y=>(y.2.1,y.2.2.1)) Tryz.func63 (by kernel_rfl) (by rfl) (q1q (l:=[]) (by kernel_rfl) trivial) (by decide) (fun _=>rfl) (fun x r h=>(qxZ x.1 x.2.1).trans h)
theorem n33 {T:Told} (H:qaa T):qai T Tryz.prog (envL e33):=q5q (l:=e33) ⟨ok57 H,ok60 H,ok61 H,ok62 H,ok63 H,trivial⟩
theorem ok33 {T:Told} (H:qaa T):qag T Tryz.prog 33 c33 :=
 qaq H.ty (n33 H) hm (lh:=qpp) (ct:=c33) (dcd:=fun y=>(y.2.1)) Tryz.func33 (by kernel_rfl) (by rfl) (q1q (l:=[]) (by kernel_rfl) trivial) (by decide) (fun _=>rfl) (fun x r h=>(qtG x.1 x.2.1).trans h)
theorem n36 {T:Told} (H:qaa T):qai T Tryz.prog (envL e36):=q5q (l:=e36) ⟨ok55 H,ok56 H,trivial⟩
theorem qx0 {T:Told} (H:qaa T):q12q T Tryz.prog 67 (.loop (q3q 8 (q4q Tryz.f36) .skip)) ⟨qiD,qj5,lp qfk K0⟩ :=
 q7q H.ty (n36 H) hm (q1q (l:=[]) (by kernel_rfl) trivial) qx2 K0
theorem qx1 {T:Told} (H:qaa T):q12q T Tryz.prog 67 (.loop (q3q 4 (q4q Tryz.f36) .skip)) ⟨qiE,qj6,lp qgm K0⟩ :=
 q7q H.ty (n36 H) hm (q1q (l:=[(.loop (q3q 8 (q4q Tryz.f36) .skip),⟨qiD,qj5,lp qfk K0⟩)]) (by kernel_rfl) ⟨qx0 H,trivial⟩) qx3 K0
theorem ok36 {T:Told} (H:qaa T):qag T Tryz.prog 36 c36 :=
 qaq H.ty (n36 H) hm (lh:=qmu) (ct:=c36) (dcd:=fun y=>(y.2.1)) Tryz.func36 (by kernel_rfl) (by rfl) (q1q (l:=[(.loop (q3q 4 (q4q Tryz.f36) .skip),⟨qiE,qj6,lp qgm K0⟩)]) (by kernel_rfl) ⟨qx1 H,trivial⟩) (by decide) (fun _=>rfl) (fun x r h=>(qx4 x.1 x.2.1).trans h)
theorem n34 {T:Told} (H:qaa T):qai T Tryz.prog (envL e34):=q5q (l:=e34) ⟨ok36 H,ok57 H,ok60 H,trivial⟩
theorem ok34 {T:Told} (H:qaa T):qag T Tryz.prog 34 c34 :=
 qaq H.ty (n34 H) hm (lh:=qpn) (ct:=c34) (dcd:=fun y=>(y.2.1)) Tryz.func34 (by kernel_rfl) (by rfl) (q1q (l:=[]) (by kernel_rfl) trivial) (by decide) (fun _=>rfl) (fun x r h=>(qtE x.1 x.2.1).trans h)
theorem n35 {T:Told} (H:qaa T):qai T Tryz.prog (envL e35):=q5q (l:=e35) trivial
theorem ok35 {T:Told} (H:qaa T):qag T Tryz.prog 35 c35 :=
 qaq H.ty (n35 H) hm (lh:=qpu) (ct:=c35) (dcd:=fun y=>(y.2.1)) Tryz.func35 (by kernel_rfl) (by rfl) (q1q (l:=[]) (by kernel_rfl) trivial) (by decide) (fun _=>rfl) (fun x r h=>(qtY x.1).trans h)
theorem n15 {T:Told} (H:qaa T):qai T Tryz.prog (envL e15):=q5q (l:=e15) ⟨ok31 H,ok32 H,ok33 H,ok34 H,ok35 H,ok36 H,trivial⟩
theorem ok15 {T:Told} (H:qaa T):qag T Tryz.prog 15 c15 :=
 qaq H.ty (n15 H) hm (lh:=qpF) (ct:=c15) (dcd:=fun y=>(y.2.1)) Tryz.func15 (by kernel_rfl) (by rfl) (q1q (l:=[]) (by kernel_rfl) trivial) (by decide) (fun _=>rfl) (fun x r h=>(qua x.1 x.2.1).trans h)
theorem n95 {T:Told} (H:qaa T):qai T Tryz.prog (envL e95):=q5q (l:=e95) ⟨ok57 H,ok62 H,trivial⟩
theorem ok95 {T:Told} (H:qaa T):qag T Tryz.prog 95 c95 :=
 qaq H.ty (n95 H) hm (lh:=qpo) (ct:=c95) (dcd:=fun y=>(y.2.1)) Tryz.func95 (by kernel_rfl) (by rfl) (q1q (l:=[]) (by kernel_rfl) trivial) (by decide) (fun _=>rfl) (fun x r h=>(qtF x.1 x.2.1).trans h)
theorem n54 {T:Told} (H:qaa T):qai T Tryz.prog (envL e54):=q5q (l:=e54) ⟨ok31 H,ok34 H,ok35 H,ok95 H,trivial⟩
theorem ok54 {T:Told} (H:qaa T):qag T Tryz.prog 54 c54 :=
 qaq H.ty (n54 H) hm (lh:=qpE) (ct:=c54) (dcd:=fun y=>(y.2.1)) Tryz.func54 (by kernel_rfl) (by rfl) (q1q (l:=[]) (by kernel_rfl) trivial) (by decide) (fun _=>rfl) (fun x r h=>(qt9 x.1 x.2.1).trans h)
theorem n26 {T:Told} (H:qaa T):qai T Tryz.prog (envL e26):=q5q (l:=e26) ⟨ok54 H,trivial⟩
theorem ok26 {T:Told} (H:qaa T):qag T Tryz.prog 26 c26 :=
 qaq H.ty (n26 H) hm (lh:=qn0) (ct:=c26) (dcd:=fun y=>(y.2.1)) Tryz.func26 (by kernel_rfl) (by rfl) (q1q (l:=[]) (by kernel_rfl) trivial) (by decide) (fun _=>rfl) (fun x r h=>(qsS x.1 x.2.1).trans h)
theorem n82 {T:Told} (H:qaa T):qai T Tryz.prog (envL e82):=q5q (l:=e82) ⟨ok15 H,ok26 H,trivial⟩
theorem qsw {T:Told} (H:qaa T):q12q T Tryz.prog 37 (.loop (q3q 2 (q4q Tryz.f82) .skip)) ⟨qfe,qgw,lp qby K0⟩ :=
 q7q H.ty (n82 H) hm (q1q (l:=[]) (by kernel_rfl) trivial) qsx K0
theorem ok82 {T:Told} (H:qaa T):qag T Tryz.prog 82 c82 :=
 qaq H.ty (n82 H) hm (lh:=qki) (ct:=c82) (dcd:=fun y=>(y.2.1,y.2.2.1)) Tryz.func82 (by kernel_rfl) (by rfl) (q1q (l:=[(.loop (q3q 2 (q4q Tryz.f82) .skip),⟨qfe,qgw,lp qby K0⟩)]) (by kernel_rfl) ⟨qsw H,trivial⟩) (by decide) (fun _=>rfl) (fun x r h=>(qsy x.1).trans h)
theorem n83 {T:Told} (H:qaa T):qai T Tryz.prog (envL e83):=q5q (l:=e83) trivial
theorem ok83 {T:Told} (H:qaa T):qag T Tryz.prog 83 c83 :=
 qaq H.ty (n83 H) hm (lh:=qmS) (ct:=c83) (dcd:=fun y=>(y.2.1)) Tryz.func83 (by kernel_rfl) (by rfl) (q1q (l:=[]) (by kernel_rfl) trivial) (by decide) (fun _=>rfl) (fun x r h=>(qry x.1 x.2.1 x.2.2.1).trans h)
theorem n48 {T:Told} (H:qaa T):qai T Tryz.prog (envL e48):=q5q (l:=e48) ⟨ok78 H,ok79 H,ok80 H,ok81 H,ok82 H,ok83 H,trivial⟩
theorem qrz {T:Told} (H:qaa T):q12q T Tryz.prog 63 (.loop (q3q 7 (q4q Tryz.f48) .skip)) ⟨qev,qfB,lp qaC K0⟩ :=
 q7q H.ty (n48 H) hm (q1q (l:=[]) (by kernel_rfl) trivial) qrB K0
theorem qrA {T:Told} (H:qaa T):q12q T Tryz.prog 63 (.loop (q3q 4 (q4q Tryz.f48) .skip)) ⟨qew,qfC,lp qbu K0⟩ :=
 q7q H.ty (n48 H) hm (q1q (l:=[(.loop (q3q 7 (q4q Tryz.f48) .skip),⟨qev,qfB,lp qaC K0⟩)]) (by kernel_rfl) ⟨qrz H,trivial⟩) qrC K0
theorem ok48 {T:Told} (H:qaa T):qag T Tryz.prog 48 c48 :=
 qaq H.ty (n48 H) hm (lh:=qhy) (ct:=c48) (dcd:=fun y=>(y.2.1)) Tryz.func48 (by kernel_rfl) (by rfl) (q1q (l:=[(.loop (q3q 4 (q4q Tryz.f48) .skip),⟨qew,qfC,lp qbu K0⟩)]) (by kernel_rfl) ⟨qrA H,trivial⟩) (by decide) (fun _=>rfl) (fun x r h=>(qrD x.1).trans h)
theorem n23 {T:Told} (H:qaa T):qai T Tryz.prog (envL e23):=q5q (l:=e23) ⟨ok48 H,trivial⟩
theorem ok23 {T:Told} (H:qaa T):qag T Tryz.prog 23 c23 :=
 qaq H.ty (n23 H) hm (lh:=qqs) (ct:=c23) (dcd:=fun y=>(y.2.1)) Tryz.func23 (by kernel_rfl) (by rfl) (q1q (l:=[]) (by kernel_rfl) trivial) (by decide) (fun _=>rfl) (fun x r h=>(qvy x.1).trans h)
theorem n29 {T:Told} (H:qaa T):qai T Tryz.prog (envL e29):=q5q (l:=e29) ⟨ok23 H,trivial⟩
theorem ok29 {T:Told} (H:qaa T):qag T Tryz.prog 29 c29 :=
 qaq H.ty (n29 H) hm (lh:=qnU) (ct:=c29) (dcd:=fun y=>(y.2.1)) Tryz.func29 (by kernel_rfl) (by rfl) (q1q (l:=[]) (by kernel_rfl) trivial) (by decide) (fun _=>rfl) (fun x r h=>(qsL x.1 x.2.1).trans h)
theorem n12 {T:Told} (H:qaa T):qai T Tryz.prog (envL e12):=q5q (l:=e12) ⟨ok29 H,trivial⟩
theorem ok12 {T:Told} (H:qaa T):qag T Tryz.prog 12 c12 :=
 qaq H.ty (n12 H) hm (lh:=qnW) (ct:=c12) (dcd:=fun y=>(y.2.1)) Tryz.func12 (by kernel_rfl) (by rfl) (q1q (l:=[]) (by kernel_rfl) trivial) (by decide) (fun _=>rfl) (fun x r h=>(qsN x.1 x.2.1).trans h)
theorem n14 {T:Told} (H:qaa T):qai T Tryz.prog (envL e14):=q5q (l:=e14) ⟨ok15 H,trivial⟩
theorem ok14 {T:Told} (H:qaa T):qag T Tryz.prog 14 c14 :=
 qgL H.ty (n14 H) hm (lh:=qi7) (ct:=c14) (wi:=w14) (dcd:=fun y=>(y.2.1)) Tryz.func14 (by kernel_rfl) (by rfl) (q1q (l:=[]) (by kernel_rfl) trivial) (fun _=>rfl) rfl (fun x r h=>(qnk x.1 x.2.1 x.2.2.1).trans h)
theorem n37 {T:Told} (H:qaa T):qai T Tryz.prog (envL e37):=q5q (l:=e37) ⟨ok23 H,trivial⟩
theorem ok37 {T:Told} (H:qaa T):qag T Tryz.prog 37 c37 :=
 qaq H.ty (n37 H) hm (lh:=qnQ) (ct:=c37) (dcd:=fun y=>(y.2.1)) Tryz.func37 (by kernel_rfl) (by rfl) (q1q (l:=[]) (by kernel_rfl) trivial) (by decide) (fun _=>rfl) (fun x r h=>(qsA x.1 x.2.1).trans h)
theorem n106 {T:Told} (H:qaa T):qai T Tryz.prog (envL e106):=q5q (l:=e106) ⟨ok54 H,trivial⟩
theorem qE1 {T:Told} (H:qaa T):qag T Tryz.prog 106 c106 :=
 qaq H.ty (n106 H) hm (lh:=qnT) (ct:=c106) (dcd:=fun y=>(y.2.1)) Tryz.func106 (by kernel_rfl) (by rfl) (q1q (l:=[]) (by kernel_rfl) trivial) (by decide) (fun _=>rfl) (fun x r h=>(qsK x.1 x.2.1).trans h)
theorem n64 {T:Told} (H:qaa T):qai T Tryz.prog (envL e64):=q5q (l:=e64) ⟨qE1 H,trivial⟩
theorem ok64 {T:Told} (H:qaa T):qag T Tryz.prog 64 c64 :=
 qaq H.ty (n64 H) hm (lh:=qnV) (ct:=c64) (dcd:=fun y=>(y.2.1)) Tryz.func64 (by kernel_rfl) (by rfl) (q1q (l:=[]) (by kernel_rfl) trivial) (by decide) (fun _=>rfl) (fun x r h=>(qsM x.1 x.2.1).trans h)
theorem n21 {T:Told} (H:qaa T):qai T Tryz.prog (envL e21):=q5q (l:=e21) ⟨ok31 H,ok32 H,ok34 H,ok36 H,trivial⟩
theorem ok21 {T:Told} (H:qaa T):qag T Tryz.prog 21 c21 :=
 qaq H.ty (n21 H) hm (lh:=qpz) (ct:=c21) (dcd:=fun y=>(y.2.1)) Tryz.func21 (by kernel_rfl) (by rfl) (q1q (l:=[]) (by kernel_rfl) trivial) (by decide) (fun _=>rfl) (fun x r h=>(qt6 x.1 x.2.1).trans h)
theorem n65 {T:Told} (H:qaa T):qai T Tryz.prog (envL e65):=q5q (l:=e65) ⟨ok21 H,trivial⟩
theorem qrf {T:Told} (H:qaa T):q12q T Tryz.prog 86 (.loop (q3q 3 (q4q Tryz.f65) .skip)) ⟨qd2,qe5,lp qbx K0⟩ :=
 q7q H.ty (n65 H) hm (q1q (l:=[]) (by kernel_rfl) trivial) qrg K0
theorem ok65 {T:Told} (H:qaa T):qag T Tryz.prog 65 c65 :=
 qaq H.ty (n65 H) hm (lh:=qja) (ct:=c65) (dcd:=fun y=>(y.2.1)) Tryz.func65 (by kernel_rfl) (by rfl) (q1q (l:=[(.loop (q3q 3 (q4q Tryz.f65) .skip),⟨qd2,qe5,lp qbx K0⟩)]) (by kernel_rfl) ⟨qrf H,trivial⟩) (by decide) (fun _=>rfl) (fun x r h=>(qrh x.1 x.2.1 x.2.2.1 x.2.2.2.1).trans h)
theorem n44 {T:Told} (H:qaa T):qai T Tryz.prog (envL e44):=q5q (l:=e44) ⟨ok57 H,ok60 H,trivial⟩
theorem ok44 {T:Told} (H:qaa T):qag T Tryz.prog 44 c44 :=
 qaq H.ty (n44 H) hm (lh:=qpm) (ct:=c44) (dcd:=fun y=>(y.2.1)) Tryz.func44 (by kernel_rfl) (by rfl) (q1q (l:=[]) (by kernel_rfl) trivial) (by decide) (fun _=>rfl) (fun x r h=>(qtD x.1).trans h)
theorem n108 {T:Told} (H:qaa T):qai T Tryz.prog (envL e108):=q5q (l:=e108) ⟨ok32 H,ok44 H,ok57 H,qEc H,trivial⟩
theorem qC5 {T:Told} (H:qaa T):qag T Tryz.prog 108 c108 :=
 qaq H.ty (n108 H) hm (lh:=qn2) (ct:=c108) (dcd:=fun y=>(y.2.1,y.2.2.1)) Tryz.func108 (by kernel_rfl) (by rfl) (q1q (l:=[]) (by kernel_rfl) trivial) (by decide) (fun _=>rfl) (fun x r h=>(qsT x.1 x.2.1).trans h)
theorem n68 {T:Told} (H:qaa T):qai T Tryz.prog (envL e68):=q5q (l:=e68) ⟨ok31 H,ok35 H,qC5 H,trivial⟩
theorem ok68 {T:Told} (H:qaa T):qag T Tryz.prog 68 c68 :=
 qaq H.ty (n68 H) hm (lh:=qpA) (ct:=c68) (dcd:=fun y=>(y.2.1,y.2.2.1)) Tryz.func68 (by kernel_rfl) (by rfl) (q1q (l:=[]) (by kernel_rfl) trivial) (by decide) (fun _=>rfl) (fun x r h=>(qt7 x.1).trans h)
theorem n107 {T:Told} (H:qaa T):qai T Tryz.prog (envL e107):=q5q (l:=e107) ⟨ok21 H,ok68 H,trivial⟩
theorem qEg {T:Told} (H:qaa T):qag T Tryz.prog 107 c107 :=
 qaq H.ty (n107 H) hm (lh:=qpC) (ct:=c107) (dcd:=fun y=>(y.2.1,y.2.2.1)) Tryz.func107 (by kernel_rfl) (by rfl) (q1q (l:=[]) (by kernel_rfl) trivial) (by decide) (fun _=>rfl) (fun x r h=>(qt8 x.1 x.2.1).trans h)
theorem n66 {T:Told} (H:qaa T):qai T Tryz.prog (envL e66):=q5q (l:=e66) ⟨qEg H,trivial⟩
theorem ok66 {T:Told} (H:qaa T):qag T Tryz.prog 66 c66 :=
 qaq H.ty (n66 H) hm (lh:=qm7) (ct:=c66) (dcd:=fun y=>(y.2.1)) Tryz.func66 (by kernel_rfl) (by rfl) (q1q (l:=[]) (by kernel_rfl) trivial) (by decide) (fun _=>rfl) (fun x r h=>(qrN x.1 x.2.1).trans h)
theorem n38 {T:Told} (H:qaa T) (n:Nat) (hr:qag T Tryz.prog 38 (c38 n)):qai T Tryz.prog (envL (e38 n)):=q5q (l:=(e38 n)) ⟨ok31 H,hr,ok64 H,ok65 H,ok66 H,trivial⟩
theorem ok38 {T:Told} (H:qaa T):∀ n,qag T Tryz.prog 38 (c38 n)
 | 0=>qag.never Tryz.func38 (by kernel_rfl) (by rfl) (fun _=>rfl)
 | n+1=>qaq H.ty (n38 H n (ok38 H n)) hm (lh:=qm8 n) (ct:=c38 (n+1)) (dcd:=fun y=>(y.2.1)) Tryz.func38 (by kernel_rfl) (by rfl) (q1q (l:=[]) (by kernel_rfl) trivial) (Nat.le_of_ble_eq_true rfl) (fun _=>rfl) (fun x r h=>(qrO n x.1 x.2.1 x.2.2.1 x.2.2.2.1).trans h)
theorem n16 {T:Told} (H:qaa T):qai T Tryz.prog (envL e16):=q5q (l:=e16) ⟨ok37 H,ok38 H R0,trivial⟩
theorem ok16 {T:Told} (H:qaa T):qag T Tryz.prog 16 c16 :=
 qaq H.ty (n16 H) hm (lh:=qm9) (ct:=c16) (dcd:=fun y=>(y.2.1,y.2.2.1)) Tryz.func16 (by kernel_rfl) (by rfl) (q1q (l:=[]) (by kernel_rfl) trivial) (by decide) (fun _=>rfl) (fun x r h=>(qrP x.1 x.2.1).trans h)
theorem n70 {T:Told} (H:qaa T):qai T Tryz.prog (envL e70):=q5q (l:=e70) ⟨qC4 H,trivial⟩
theorem quh {T:Told} (H:qaa T):q12q T Tryz.prog 23 (.loop (q3q 2 (q4q Tryz.f70) .skip)) ⟨qf9,qhK,lp qdl K0⟩ :=
 q7q H.ty (n70 H) hm (q1q (l:=[]) (by kernel_rfl) trivial) qui K0
theorem ok70 {T:Told} (H:qaa T):qag T Tryz.prog 70 c70 :=
 qaq H.ty (n70 H) hm (lh:=qln) (ct:=c70) (dcd:=fun y=>(y.2.1)) Tryz.func70 (by kernel_rfl) (by rfl) (q1q (l:=[(.loop (q3q 2 (q4q Tryz.f70) .skip),⟨qf9,qhK,lp qdl K0⟩)]) (by kernel_rfl) ⟨quh H,trivial⟩) (by decide) (fun _=>rfl) (fun x r h=>(quj x.1).trans h)
theorem n67 {T:Told} (H:qaa T):qai T Tryz.prog (envL e67):=q5q (l:=e67) ⟨ok31 H,ok70 H,trivial⟩
theorem qsX {T:Told} (H:qaa T):q12q T Tryz.prog 24 (.loop (q3q 3 (q4q Tryz.f67) .skip)) ⟨qfg,qgB,lp qcQ K0⟩ :=
 q7q H.ty (n67 H) hm (q1q (l:=[]) (by kernel_rfl) trivial) qsY K0
theorem ok67 {T:Told} (H:qaa T):qag T Tryz.prog 67 c67 :=
 qaq H.ty (n67 H) hm (lh:=qkq) (ct:=c67) (dcd:=fun y=>(y.2.1)) Tryz.func67 (by kernel_rfl) (by rfl) (q1q (l:=[(.loop (q3q 3 (q4q Tryz.f67) .skip),⟨qfg,qgB,lp qcQ K0⟩)]) (by kernel_rfl) ⟨qsX H,trivial⟩) (by decide) (fun _=>rfl) (fun x r h=>(qsZ x.1).trans h)
theorem n19 {T:Told} (H:qaa T):qai T Tryz.prog (envL e19):=q5q (l:=e19) ⟨ok31 H,ok44 H,trivial⟩
theorem ok19 {T:Told} (H:qaa T):qag T Tryz.prog 19 c19 :=
 qaq H.ty (n19 H) hm (lh:=qpy) (ct:=c19) (dcd:=fun y=>(y.2.1)) Tryz.func19 (by kernel_rfl) (by rfl) (q1q (l:=[]) (by kernel_rfl) trivial) (by decide) (fun _=>rfl) (fun x r h=>(qt5 x.1).trans h)
theorem n69 {T:Told} (H:qaa T):qai T Tryz.prog (envL e69):=q5q (l:=e69) ⟨ok15 H,ok19 H,trivial⟩
theorem ok69 {T:Told} (H:qaa T):qag T Tryz.prog 69 c69 :=
 qaq H.ty (n69 H) hm (lh:=qpw) (ct:=c69) (dcd:=fun y=>(y.2.1)) Tryz.func69 (by kernel_rfl) (by rfl) (q1q (l:=[]) (by kernel_rfl) trivial) (by decide) (fun _=>rfl) (fun x r h=>(qt3 x.1 x.2.1).trans h)
theorem n39 {T:Told} (H:qaa T):qai T Tryz.prog (envL e39):=q5q (l:=e39) ⟨ok21 H,ok67 H,ok68 H,ok69 H,ok70 H,trivial⟩
theorem qqG {T:Told} (H:qaa T):q12q T Tryz.prog 93 (.loop (q3q 13 (q4q Tryz.f39) .skip)) ⟨qdS,qeS,lp qbW K0⟩ :=
 q7q H.ty (n39 H) hm (q1q (l:=[]) (by kernel_rfl) trivial) qqH K0
theorem qrF {T:Told} (H:qaa T):q12q T Tryz.prog 93 (.loop (q3q 9 (q4q Tryz.f39) .skip)) ⟨qeB,qfG,lp qcp K0⟩ :=
 q7q H.ty (n39 H) hm (q1q (l:=[(.loop (q3q 13 (q4q Tryz.f39) .skip),⟨qdS,qeS,lp qbW K0⟩)]) (by kernel_rfl) ⟨qqG H,trivial⟩) qrG K0
theorem ok39 {T:Told} (H:qaa T):qag T Tryz.prog 39 c39 :=
 qaq H.ty (n39 H) hm (lh:=qhz) (ct:=c39) (dcd:=fun y=>(y.2.1,y.2.2.1,y.2.2.2.1)) Tryz.func39 (by kernel_rfl) (by rfl) (q1q (l:=[(.loop (q3q 9 (q4q Tryz.f39) .skip),⟨qeB,qfG,lp qcp K0⟩)]) (by kernel_rfl) ⟨qrF H,trivial⟩) (by decide) (fun _=>rfl) (fun x r h=>(qrH x.1 x.2.1).trans h)
theorem n73 {T:Told} (H:qaa T):qai T Tryz.prog (envL e73):=q5q (l:=e73) ⟨ok30 H,ok60 H,trivial⟩
theorem ok73 {T:Told} (H:qaa T):qag T Tryz.prog 73 c73 :=
 qaq H.ty (n73 H) hm (lh:=qqf) (ct:=c73) (dcd:=fun y=>(y.2.1)) Tryz.func73 (by kernel_rfl) (by rfl) (q1q (l:=[]) (by kernel_rfl) trivial) (by decide) (fun _=>rfl) (fun x r h=>(qvv x.1).trans h)
theorem n45 {T:Told} (H:qaa T):qai T Tryz.prog (envL e45):=q5q (l:=e45) ⟨ok30 H,ok73 H,trivial⟩
theorem ok45 {T:Told} (H:qaa T):qag T Tryz.prog 45 c45 :=
 qaq H.ty (n45 H) hm (lh:=qqD) (ct:=c45) (dcd:=fun y=>(y.2.1)) Tryz.func45 (by kernel_rfl) (by rfl) (q1q (l:=[]) (by kernel_rfl) trivial) (by decide) (fun _=>rfl) (fun x r h=>(qvL x.1).trans h)
theorem n20 {T:Told} (H:qaa T):qai T Tryz.prog (envL e20):=q5q (l:=e20) ⟨ok45 H,trivial⟩
theorem ok20 {T:Told} (H:qaa T):qag T Tryz.prog 20 c20 :=
 qaq H.ty (n20 H) hm (lh:=qpx) (ct:=c20) (dcd:=fun y=>(y.2.1)) Tryz.func20 (by kernel_rfl) (by rfl) (q1q (l:=[]) (by kernel_rfl) trivial) (by decide) (fun _=>rfl) (fun x r h=>(qt4 ).trans h)
theorem n41 {T:Told} (H:qaa T):qai T Tryz.prog (envL e41):=q5q (l:=e41) ⟨ok20 H,trivial⟩
theorem ok41 {T:Told} (H:qaa T):qag T Tryz.prog 41 c41 :=
 qaq H.ty (n41 H) hm (lh:=qk2) (ct:=c41) (dcd:=fun y=>(y.2.1)) Tryz.func41 (by kernel_rfl) (by rfl) (q1q (l:=[]) (by kernel_rfl) trivial) (by decide) (fun _=>rfl) (fun x r h=>(qpV x.1).trans h)
theorem n71 {T:Told} (H:qaa T):qai T Tryz.prog (envL e71):=q5q (l:=e71) ⟨ok13 H,ok15 H,ok21 H,ok67 H,ok70 H,trivial⟩
theorem quk {T:Told} (H:qaa T):q12q T Tryz.prog 73 (.loop (q3q 14 (q4q Tryz.f71) .skip)) ⟨qga,qhM,lp qdm K0⟩ :=
 q7q H.ty (n71 H) hm (q1q (l:=[]) (by kernel_rfl) trivial) qum K0
theorem qvQ {T:Told} (H:qaa T):q12q T Tryz.prog 73 (.loop (q3q 6 (q4q Tryz.f71) .skip)) ⟨qhj,qiP,lp qeb K0⟩ :=
 q7q H.ty (n71 H) hm (q1q (l:=[]) (by kernel_rfl) trivial) qvS K0
theorem qul {T:Told} (H:qaa T):q12q T Tryz.prog 73 (.loop (q3q 11 (q4q Tryz.f71) .skip)) ⟨qgb,qhN,lp qdn K0⟩ :=
 q7q H.ty (n71 H) hm (q1q (l:=[(.loop (q3q 14 (q4q Tryz.f71) .skip),⟨qga,qhM,lp qdm K0⟩)]) (by kernel_rfl) ⟨quk H,trivial⟩) qun K0
theorem ok71 {T:Told} (H:qaa T):qag T Tryz.prog 71 c71 :=
 qaq H.ty (n71 H) hm (lh:=qiQ) (ct:=c71) (dcd:=fun y=>(y.2.1)) Tryz.func71 (by kernel_rfl) (by rfl) (q1q (l:=[(.loop (q3q 6 (q4q Tryz.f71) .skip),⟨qhj,qiP,lp qeb K0⟩),(.loop (q3q 11 (q4q Tryz.f71) .skip),⟨qgb,qhN,lp qdn K0⟩)]) (by kernel_rfl) ⟨qvQ H,qul H,trivial⟩) (by decide) (fun _=>rfl) (fun x r h=>(qvT x.1 x.2.1).trans h)
theorem n40 {T:Told} (H:qaa T):qai T Tryz.prog (envL e40):=q5q (l:=e40) ⟨ok20 H,ok41 H,ok71 H,trivial⟩
theorem qrJ {T:Told} (H:qaa T):q12q T Tryz.prog 21 (.loop (q3q 3 (q4q Tryz.f40) .skip)) ⟨qeC,qfR,lp qcq K0⟩ :=
 q7q H.ty (n40 H) hm (q1q (l:=[]) (by kernel_rfl) trivial) qrK K0
theorem ok40 {T:Told} (H:qaa T):qag T Tryz.prog 40 c40 :=
 qaq H.ty (n40 H) hm (lh:=qjs) (ct:=c40) (dcd:=fun y=>(y.2.1)) Tryz.func40 (by kernel_rfl) (by rfl) (q1q (l:=[(.loop (q3q 3 (q4q Tryz.f40) .skip),⟨qeC,qfR,lp qcq K0⟩)]) (by kernel_rfl) ⟨qrJ H,trivial⟩) (by decide) (fun _=>rfl) (fun x r h=>(qrL x.1).trans h)
theorem n17 {T:Told} (H:qaa T):qai T Tryz.prog (envL e17):=q5q (l:=e17) ⟨ok39 H,ok40 H,ok41 H,trivial⟩
theorem ok17 {T:Told} (H:qaa T):qag T Tryz.prog 17 c17 :=
 qaq H.ty (n17 H) hm (lh:=qka) (ct:=c17) (dcd:=fun y=>(y.2.1,y.2.2.1)) Tryz.func17 (by kernel_rfl) (by rfl) (q1q (l:=[]) (by kernel_rfl) trivial) (by decide) (fun _=>rfl) (fun x r h=>(qo1 x.1 x.2.1).trans h)
theorem n42 {T:Told} (H:qaa T):qai T Tryz.prog (envL e42):=q5q (l:=e42) trivial
theorem ok42 {T:Told} (H:qaa T):qag T Tryz.prog 42 c42 :=
 qgL H.ty (n42 H) hm (lh:=qpq) (ct:=c42) (wi:=w42) (dcd:=fun y=>(y.2.1,y.2.2.1,y.2.2.2.1,y.2.2.2.2.1)) Tryz.func42 (by kernel_rfl) (by rfl) (q1q (l:=[]) (by kernel_rfl) trivial) (fun _=>rfl) rfl (fun x r h=>(qtH ).trans h)
theorem n135 {T:Told} (H:qaa T):qai T Tryz.prog (envL e135):=q5q (l:=e135) ⟨ok34 H,ok73 H,trivial⟩
theorem qoL {T:Told} (H:qaa T):q12q T Tryz.prog 21 (.loop (q3q 4 (q4q Tryz.f135) .skip)) ⟨qcV,qdJ,lp qdI K0⟩ :=
 q7q H.ty (n135 H) hm (q1q (l:=[]) (by kernel_rfl) trivial) qoM K0
theorem qEL {T:Told} (H:qaa T):qag T Tryz.prog 135 c135 :=
 qaq H.ty (n135 H) hm (lh:=qha) (ct:=c135) (dcd:=fun y=>(y.2.1)) Tryz.func135 (by kernel_rfl) (by rfl) (q1q (l:=[(.loop (q3q 4 (q4q Tryz.f135) .skip),⟨qcV,qdJ,lp qdI K0⟩)]) (by kernel_rfl) ⟨qoL H,trivial⟩) (by decide) (fun _=>rfl) (fun x r h=>(qoN ).trans h)
theorem n134 {T:Told} (H:qaa T):qai T Tryz.prog (envL e134):=q5q (l:=e134) ⟨qEL H,trivial⟩
theorem qEM {T:Told} (H:qaa T):qag T Tryz.prog 134 c134 :=
 qgL H.ty (n134 H) hm (lh:=qic) (ct:=c134) (wi:=w134) (dcd:=fun y=>(y.2.1,y.2.2.1,y.2.2.2.1,y.2.2.2.2.1)) Tryz.func134 (by kernel_rfl) (by rfl) (q1q (l:=[]) (by kernel_rfl) trivial) (fun _=>rfl) rfl (fun x r h=>(qmz x.1 x.2.1 x.2.2.1 x.2.2.2.1).trans h)
theorem qER {T:Told} (H:qaa T):qag T Tryz.prog 125 c125:=qDH (qEM H)
theorem n110 {T:Told} (H:qaa T):qai T Tryz.prog (envL e110):=q5q (l:=e110) ⟨ok34 H,qC5 H,qER H,trivial⟩
theorem qE0 {T:Told} (H:qaa T):qag T Tryz.prog 110 c110 :=
 qgL H.ty (n110 H) hm (lh:=qgu) (ct:=c110) (wi:=w110) (dcd:=fun y=>(y.2.1,y.2.2.1,y.2.2.2.1,y.2.2.2.2.1,y.2.2.2.2.2.1)) Tryz.func110 (by kernel_rfl) (by rfl) (q1q (l:=[]) (by kernel_rfl) trivial) (fun _=>rfl) rfl (fun x r h=>(qkh x.1 x.2.1 x.2.2.1 x.2.2.2.1 x.2.2.2.2.1 x.2.2.2.2.2.1 x.2.2.2.2.2.2.1).trans h)
theorem n72 {T:Told} (H:qaa T):qai T Tryz.prog (envL e72):=q5q (l:=e72) ⟨qE0 H,trivial⟩
theorem ok72 {T:Told} (H:qaa T):qag T Tryz.prog 72 c72 :=
 qgL H.ty (n72 H) hm (lh:=qhD) (ct:=c72) (wi:=w72) (dcd:=fun y=>(y.2.1,y.2.2.1,y.2.2.2.1,y.2.2.2.2.1,y.2.2.2.2.2.1,y.2.2.2.2.2.2.1)) Tryz.func72 (by kernel_rfl) (by rfl) (q1q (l:=[]) (by kernel_rfl) trivial) (fun _=>rfl) rfl (fun x r h=>(qlg x.1 x.2.1 x.2.2.1 x.2.2.2.1 x.2.2.2.2.1 x.2.2.2.2.2.1).trans h)
theorem n43 {T:Told} (H:qaa T):qai T Tryz.prog (envL e43):=q5q (l:=e43) ⟨ok72 H,trivial⟩
theorem qnL {T:Told} (H:qaa T):q12q T Tryz.prog 35 (.loop (q3q 7 (q4q Tryz.f43) .skip)) ⟨qcE,qdh,lp qbq K0⟩ :=
 q7q H.ty (n43 H) hm (q1q (l:=[]) (by kernel_rfl) trivial) qnM K0
theorem ok43 {T:Told} (H:qaa T):qag T Tryz.prog 43 c43 :=
 qgL H.ty (n43 H) hm (lh:=qgv) (ct:=c43) (wi:=w43) (dcd:=fun y=>(y.2.1,y.2.2.1,y.2.2.2.1,y.2.2.2.2.1,y.2.2.2.2.2.1,y.2.2.2.2.2.2.1)) Tryz.func43 (by kernel_rfl) (by rfl) (q1q (l:=[(.loop (q3q 7 (q4q Tryz.f43) .skip),⟨qcE,qdh,lp qbq K0⟩)]) (by kernel_rfl) ⟨qnL H,trivial⟩) (fun _=>rfl) rfl (fun x r h=>(qnN x.1 x.2.1 x.2.2.1 x.2.2.2.1 x.2.2.2.2.1).trans h)
theorem n18 {T:Told} (H:qaa T):qai T Tryz.prog (envL e18):=q5q (l:=e18) ⟨ok13 H,ok15 H,ok21 H,ok42 H,ok43 H,trivial⟩
theorem qq0 {T:Told} (H:qaa T):q12q T Tryz.prog 44 (.loop (q3q 8 (q4q Tryz.f18) .skip)) ⟨qdY,qe1,lp qb6 K0⟩ :=
 q7q H.ty (n18 H) hm (q1q (l:=[]) (by kernel_rfl) trivial) qq1 K0
theorem ok18 {T:Told} (H:qaa T):qag T Tryz.prog 18 c18 :=
 qaq H.ty (n18 H) hm (lh:=qi0) (ct:=c18) (dcd:=fun y=>(y.2.1,y.2.2.1)) Tryz.func18 (by kernel_rfl) (by rfl) (q1q (l:=[(.loop (q3q 8 (q4q Tryz.f18) .skip),⟨qdY,qe1,lp qb6 K0⟩)]) (by kernel_rfl) ⟨qq0 H,trivial⟩) (by decide) (fun _=>rfl) (fun x r h=>(qq2 x.1 x.2.1).trans h)
theorem n5 {T:Told} (H:qaa T):qai T Tryz.prog (envL e5):=q5q (l:=e5) ⟨ok12 H,ok13 H,ok14 H,ok15 H,ok16 H,ok17 H,ok18 H,ok19 H,ok20 H,ok21 H,trivial⟩
theorem qo2 {T:Told} (H:qaa T):q12q T Tryz.prog 106 (.loop (q3q 19 (q4q Tryz.f5) .skip)) ⟨qcX,qdZ,lp qaY K0⟩ :=
 q7q H.ty (n5 H) hm (q1q (l:=[]) (by kernel_rfl) trivial) qo5 K0
theorem qo3 {T:Told} (H:qaa T):q12q T Tryz.prog 106 (.loop (q3q 16 (q4q Tryz.f5) .skip)) ⟨qcY,qd0,lp qbm K0⟩ :=
 q7q H.ty (n5 H) hm (q1q (l:=[(.loop (q3q 19 (q4q Tryz.f5) .skip),⟨qcX,qdZ,lp qaY K0⟩)]) (by kernel_rfl) ⟨qo2 H,trivial⟩) qo6 K0
theorem qpW {T:Told} (H:qaa T):q12q T Tryz.prog 106 (.loop (q3q 6 (q4q Tryz.f5) .skip)) ⟨qdf,qem,lp qbz K0⟩ :=
 q7q H.ty (n5 H) hm (q1q (l:=[]) (by kernel_rfl) trivial) qpX K0
theorem qo4 {T:Told} (H:qaa T):q12q T Tryz.prog 106 (.loop (q3q 12 (q4q Tryz.f5) .skip)) ⟨qcZ,qd1,lp qbn K0⟩ :=
 q7q H.ty (n5 H) hm (q1q (l:=[(.loop (q3q 16 (q4q Tryz.f5) .skip),⟨qcY,qd0,lp qbm K0⟩)]) (by kernel_rfl) ⟨qo3 H,trivial⟩) qo7 K0
theorem ok5 {T:Told} (H:qaa T):qag T Tryz.prog 5 c5 :=
 qaq H.ty (n5 H) hm (lh:=qde) (ct:=c5) (dcd:=fun y=>(y.2.1,y.2.2.1)) Tryz.func5 (by kernel_rfl) (by rfl) (q1q (l:=[(.loop (q3q 6 (q4q Tryz.f5) .skip),⟨qdf,qem,lp qbz K0⟩),(.loop (q3q 12 (q4q Tryz.f5) .skip),⟨qcZ,qd1,lp qbn K0⟩)]) (by kernel_rfl) ⟨qpW H,qo4 H,trivial⟩) (by decide) (fun _=>rfl) (fun x r h=>(qpY x.1 x.2.1).trans h)
theorem n46 {T:Told} (H:qaa T):qai T Tryz.prog (envL e46):=q5q (l:=e46) ⟨ok13 H,trivial⟩
theorem qoR {T:Told} (H:qaa T):q12q T Tryz.prog 13 (.loop (q3q 3 (q4q Tryz.f46) .skip)) ⟨qcW,qdT,lp qbg K0⟩ :=
 q7q H.ty (n46 H) hm (q1q (l:=[]) (by kernel_rfl) trivial) qoS K0
theorem ok46 {T:Told} (H:qaa T):qag T Tryz.prog 46 c46 :=
 qaq H.ty (n46 H) hm (lh:=qhk) (ct:=c46) (dcd:=fun y=>(y.2.1)) Tryz.func46 (by kernel_rfl) (by rfl) (q1q (l:=[(.loop (q3q 3 (q4q Tryz.f46) .skip),⟨qcW,qdT,lp qbg K0⟩)]) (by kernel_rfl) ⟨qoR H,trivial⟩) (by decide) (fun _=>rfl) (fun x r h=>(qoT x.1).trans h)
theorem n74 {T:Told} (H:qaa T):qai T Tryz.prog (envL e74):=q5q (l:=e74) ⟨ok20 H,trivial⟩
theorem ok74 {T:Told} (H:qaa T):qag T Tryz.prog 74 c74 :=
 qgL H.ty (n74 H) hm (lh:=qls) (ct:=c74) (wi:=w74) (dcd:=fun y=>(y.2.1)) Tryz.func74 (by kernel_rfl) (by rfl) (q1q (l:=[]) (by kernel_rfl) trivial) (fun _=>rfl) rfl (fun x r h=>(qqO ).trans h)
theorem n111 {T:Told} (H:qaa T):qai T Tryz.prog (envL e111):=q5q (l:=e111) trivial
theorem qlo {T:Told} (H:qaa T):q12q T Tryz.prog 29 (.loop (q3q 4 (q4q Tryz.f111) .skip)) ⟨qbH,qcu,lp qak K0⟩ :=
 q7q H.ty (n111 H) hm (q1q (l:=[]) (by kernel_rfl) trivial) qlp K0
theorem qEf {T:Told} (H:qaa T):qag T Tryz.prog 111 c111 :=
 qgL H.ty (n111 H) hm (lh:=qeV) (ct:=c111) (wi:=w111) (dcd:=fun y=>(y.2.1,y.2.2.1)) Tryz.func111 (by kernel_rfl) (by rfl) (q1q (l:=[(.loop (q3q 4 (q4q Tryz.f111) .skip),⟨qbH,qcu,lp qak K0⟩)]) (by kernel_rfl) ⟨qlo H,trivial⟩) (fun _=>rfl) rfl (fun x r h=>(qlq x.1 x.2.1).trans h)
theorem n112 {T:Told} (H:qaa T):qai T Tryz.prog (envL e112):=q5q (l:=e112) trivial
theorem qk5 {T:Told} (H:qaa T):q12q T Tryz.prog 32 (.loop (q3q 5 (q4q Tryz.f112) .skip)) ⟨qbt,qch,lp qaA K0⟩ :=
 q7q H.ty (n112 H) hm (q1q (l:=[]) (by kernel_rfl) trivial) qk6 K0
theorem qEe {T:Told} (H:qaa T):qag T Tryz.prog 112 c112 :=
 qgL H.ty (n112 H) hm (lh:=qeD) (ct:=c112) (wi:=w112) (dcd:=fun y=>(y.2.1,y.2.2.1)) Tryz.func112 (by kernel_rfl) (by rfl) (q1q (l:=[(.loop (q3q 5 (q4q Tryz.f112) .skip),⟨qbt,qch,lp qaA K0⟩)]) (by kernel_rfl) ⟨qk5 H,trivial⟩) (fun _=>rfl) rfl (fun x r h=>(qk7 x.1).trans h)
theorem n127 {T:Told} (H:qaa T):qai T Tryz.prog (envL e127):=q5q (l:=e127) ⟨ok31 H,ok73 H,qC5 H,trivial⟩
theorem qEa {T:Told} (H:qaa T):qag T Tryz.prog 127 c127 :=
 qaq H.ty (n127 H) hm (lh:=qn3) (ct:=c127) (dcd:=fun y=>(y.2.1)) Tryz.func127 (by kernel_rfl) (by rfl) (q1q (l:=[]) (by kernel_rfl) trivial) (by decide) (fun _=>rfl) (fun x r h=>(qsV x.1 x.2.1).trans h)
theorem n126 {T:Told} (H:qaa T):qai T Tryz.prog (envL e126):=q5q (l:=e126) ⟨ok21 H,ok68 H,ok69 H,qEa H,trivial⟩
theorem qjT {T:Told} (H:qaa T):q12q T Tryz.prog 104 (.loop (q3q 7 (q4q Tryz.f126) .skip)) ⟨qa5,qbF,lp qao K0⟩ :=
 q7q H.ty (n126 H) hm (q1q (l:=[]) (by kernel_rfl) trivial) qjU K0
theorem qEb {T:Told} (H:qaa T):qag T Tryz.prog 126 c126 :=
 qgL H.ty (n126 H) hm (lh:=qdV) (ct:=c126) (wi:=w126) (dcd:=fun y=>(y.2.1,y.2.2.1)) Tryz.func126 (by kernel_rfl) (by rfl) (q1q (l:=[(.loop (q3q 7 (q4q Tryz.f126) .skip),⟨qa5,qbF,lp qao K0⟩)]) (by kernel_rfl) ⟨qjT H,trivial⟩) (fun _=>rfl) rfl (fun x r h=>(qjV x.1 x.2.1).trans h)
theorem n113 {T:Told} (H:qaa T):qai T Tryz.prog (envL e113):=q5q (l:=e113) ⟨qEb H,trivial⟩
theorem qkz {T:Told} (H:qaa T):q12q T Tryz.prog 66 (.loop (q3q 8 (q4q Tryz.f113) .skip)) ⟨qbk,qb1,lp qau K0⟩ :=
 q7q H.ty (n113 H) hm (q1q (l:=[]) (by kernel_rfl) trivial) qkA K0
theorem qEZ {T:Told} (H:qaa T):qag T Tryz.prog 113 c113 :=
 qgL H.ty (n113 H) hm (lh:=qed) (ct:=c113) (wi:=w113) (dcd:=fun y=>(y.2.1,y.2.2.1)) Tryz.func113 (by kernel_rfl) (by rfl) (q1q (l:=[(.loop (q3q 8 (q4q Tryz.f113) .skip),⟨qbk,qb1,lp qau K0⟩)]) (by kernel_rfl) ⟨qkz H,trivial⟩) (fun _=>rfl) rfl (fun x r h=>(qkB x.1 x.2.1).trans h)
theorem n114 {T:Told} (H:qaa T):qai T Tryz.prog (envL e114):=q5q (l:=e114) ⟨ok13 H,ok15 H,ok21 H,ok31 H,qC4 H,qEf H,qEa H,trivial⟩
theorem qjW {T:Told} (H:qaa T):q12q T Tryz.prog 113 (.loop (q3q 10 (q4q Tryz.f114) .skip)) ⟨qa6,qbI,lp qap K0⟩ :=
 q7q H.ty (n114 H) hm (q1q (l:=[]) (by kernel_rfl) trivial) qjX K0
theorem qEY {T:Told} (H:qaa T):qag T Tryz.prog 114 c114 :=
 qgL H.ty (n114 H) hm (lh:=qee) (ct:=c114) (wi:=w114) (dcd:=fun y=>(y.2.1,y.2.2.1)) Tryz.func114 (by kernel_rfl) (by rfl) (q1q (l:=[(.loop (q3q 10 (q4q Tryz.f114) .skip),⟨qa6,qbI,lp qap K0⟩)]) (by kernel_rfl) ⟨qjW H,trivial⟩) (fun _=>rfl) rfl (fun x r h=>(qkC x.1 x.2.1 x.2.2.1 x.2.2.2.1).trans h)
theorem n75 {T:Told} (H:qaa T):qai T Tryz.prog (envL e75):=q5q (l:=e75) ⟨ok21 H,qEf H,qEe H,qEZ H,qEY H,trivial⟩
theorem ok75 {T:Told} (H:qaa T):qag T Tryz.prog 75 c75 :=
 qgL H.ty (n75 H) hm (lh:=qgZ) (ct:=c75) (wi:=w75) (dcd:=fun y=>(y.2.1,y.2.2.1,y.2.2.2.1,y.2.2.2.2.1,y.2.2.2.2.2.1,y.2.2.2.2.2.2.1,y.2.2.2.2.2.2.2.1,y.2.2.2.2.2.2.2.2.1,y.2.2.2.2.2.2.2.2.2.1,y.2.2.2.2.2.2.2.2.2.2.1)) Tryz.func75 (by kernel_rfl) (by rfl) (q1q (l:=[]) (by kernel_rfl) trivial) (fun _=>rfl) rfl (fun x r h=>(qk4 x.1 x.2.1 x.2.2.1 x.2.2.2.1 x.2.2.2.2.1 x.2.2.2.2.2.1 x.2.2.2.2.2.2.1 x.2.2.2.2.2.2.2.1 x.2.2.2.2.2.2.2.2.1 x.2.2.2.2.2.2.2.2.2.1).trans h)
theorem n128 {T:Told} (H:qaa T):qai T Tryz.prog (envL e128):=q5q (l:=e128) ⟨ok13 H,ok15 H,trivial⟩
theorem qtZ {T:Told} (H:qaa T):q12q T Tryz.prog 18 (.loop (q3q 3 (q4q Tryz.f128) .skip)) ⟨qf7,qhI,lp qdj K0⟩ :=
 q7q H.ty (n128 H) hm (q1q (l:=[]) (by kernel_rfl) trivial) qt1 K0
theorem qEQ {T:Told} (H:qaa T):qag T Tryz.prog 128 c128 :=
 qaq H.ty (n128 H) hm (lh:=qlk) (ct:=c128) (dcd:=fun y=>(y.2.1)) Tryz.func128 (by kernel_rfl) (by rfl) (q1q (l:=[(.loop (q3q 3 (q4q Tryz.f128) .skip),⟨qf7,qhI,lp qdj K0⟩)]) (by kernel_rfl) ⟨qtZ H,trivial⟩) (by decide) (fun _=>rfl) (fun x r h=>(qt2 x.1).trans h)
theorem n115 {T:Told} (H:qaa T):qai T Tryz.prog (envL e115):=q5q (l:=e115) ⟨qEb H,qEQ H,trivial⟩
theorem qEX {T:Told} (H:qaa T):qag T Tryz.prog 115 c115 :=
 qgL H.ty (n115 H) hm (lh:=qif) (ct:=c115) (wi:=w115) (dcd:=fun y=>(y.2.1,y.2.2.1,y.2.2.2.1)) Tryz.func115 (by kernel_rfl) (by rfl) (q1q (l:=[]) (by kernel_rfl) trivial) (fun _=>rfl) rfl (fun x r h=>(qmB x.1 x.2.1).trans h)
theorem n76 {T:Told} (H:qaa T):qai T Tryz.prog (envL e76):=q5q (l:=e76) ⟨ok15 H,ok19 H,ok20 H,ok21 H,qEe H,qEX H,trivial⟩
theorem qkw {T:Told} (H:qaa T):q12q T Tryz.prog 69 (.loop (q3q 3 (q4q Tryz.f76) .skip)) ⟨qbj,qbZ,lp qat K0⟩ :=
 q7q H.ty (n76 H) hm (q1q (l:=[]) (by kernel_rfl) trivial) qkx K0
theorem ok76 {T:Told} (H:qaa T):qag T Tryz.prog 76 c76 :=
 qgL H.ty (n76 H) hm (lh:=qec) (ct:=c76) (wi:=w76) (dcd:=fun y=>(y.1.1,y.2.1,y.2.2.1,y.2.2.2.1,y.2.2.2.2.1,y.2.2.2.2.2.1)) Tryz.func76 (by kernel_rfl) (by rfl) (q1q (l:=[(.loop (q3q 3 (q4q Tryz.f76) .skip),⟨qbj,qbZ,lp qat K0⟩)]) (by kernel_rfl) ⟨qkw H,trivial⟩) (fun _=>rfl) rfl (fun x r h=>(qky x.1 x.2.1 x.2.2.1 x.2.2.2.1 x.2.2.2.2.1 x.2.2.2.2.2.1 x.2.2.2.2.2.2.1 x.2.2.2.2.2.2.2.1 x.2.2.2.2.2.2.2.2.1 x.2.2.2.2.2.2.2.2.2.1 x.2.2.2.2.2.2.2.2.2.2.1 x.2.2.2.2.2.2.2.2.2.2.2.1 x.2.2.2.2.2.2.2.2.2.2.2.2.1 x.2.2.2.2.2.2.2.2.2.2.2.2.2.1 x.2.2.2.2.2.2.2.2.2.2.2.2.2.2.1).trans h)
theorem n116 {T:Told} (H:qaa T):qai T Tryz.prog (envL e116):=q5q (l:=e116) trivial
theorem qEW {T:Told} (H:qaa T):qag T Tryz.prog 116 c116 :=
 qgL H.ty (n116 H) hm (lh:=qhP) (ct:=c116) (wi:=w116) (dcd:=fun y=>(y.2.1,y.2.2.1)) Tryz.func116 (by kernel_rfl) (by rfl) (q1q (l:=[]) (by kernel_rfl) trivial) (fun _=>rfl) rfl (fun x r h=>(qlr x.1).trans h)
theorem n77 {T:Told} (H:qaa T):qai T Tryz.prog (envL e77):=q5q (l:=e77) ⟨ok21 H,ok64 H,qEg H,qEW H,trivial⟩
theorem ok77 {T:Told} (H:qaa T):qag T Tryz.prog 77 c77 :=
 qgL H.ty (n77 H) hm (lh:=qgd) (ct:=c77) (wi:=w77) (dcd:=fun y=>(y.1.1,y.2.1,y.2.2.1,y.2.2.2.1,y.2.2.2.2.1,y.2.2.2.2.2.1,y.2.2.2.2.2.2.1,y.2.2.2.2.2.2.2.1,y.2.2.2.2.2.2.2.2.1,y.2.2.2.2.2.2.2.2.2.1,y.2.2.2.2.2.2.2.2.2.2.1,y.2.2.2.2.2.2.2.2.2.2.2.1,y.2.2.2.2.2.2.2.2.2.2.2.2.1,y.2.2.2.2.2.2.2.2.2.2.2.2.2.1,y.2.2.2.2.2.2.2.2.2.2.2.2.2.2.1,y.2.2.2.2.2.2.2.2.2.2.2.2.2.2.2.1,y.2.2.2.2.2.2.2.2.2.2.2.2.2.2.2.2.1)) Tryz.func77 (by kernel_rfl) (by rfl) (q1q (l:=[]) (by kernel_rfl) trivial) (fun _=>rfl) rfl (fun x r h=>(qjQ x.1 x.2.1 x.2.2.1 x.2.2.2.1 x.2.2.2.2.1 x.2.2.2.2.2.1 x.2.2.2.2.2.2.1 x.2.2.2.2.2.2.2.1 x.2.2.2.2.2.2.2.2.1 x.2.2.2.2.2.2.2.2.2.1 x.2.2.2.2.2.2.2.2.2.2.1 x.2.2.2.2.2.2.2.2.2.2.2.1 x.2.2.2.2.2.2.2.2.2.2.2.2.1 x.2.2.2.2.2.2.2.2.2.2.2.2.2.1 x.2.2.2.2.2.2.2.2.2.2.2.2.2.2.1 x.2.2.2.2.2.2.2.2.2.2.2.2.2.2.2.1 x.2.2.2.2.2.2.2.2.2.2.2.2.2.2.2.2.1).trans h)
theorem n47 {T:Told} (H:qaa T):qai T Tryz.prog (envL e47):=q5q (l:=e47) ⟨ok20 H,ok74 H,ok75 H,ok76 H,ok77 H,trivial⟩
theorem qkr {T:Told} (H:qaa T):q12q T Tryz.prog 91 (.loop (q3q 9 (q4q Tryz.f47) .skip)) ⟨qbh,qbX,lp qal K0⟩ :=
 q7q H.ty (n47 H) hm (q1q (l:=[]) (by kernel_rfl) trivial) qkt K0
theorem qks {T:Told} (H:qaa T):q12q T Tryz.prog 91 (.loop (q3q 1 (q4q Tryz.f47) .skip)) ⟨qbi,qbY,lp qas K0⟩ :=
 q7q H.ty (n47 H) hm (q1q (l:=[(.loop (q3q 9 (q4q Tryz.f47) .skip),⟨qbh,qbX,lp qal K0⟩)]) (by kernel_rfl) ⟨qkr H,trivial⟩) qku K0
theorem ok47 {T:Told} (H:qaa T):qag T Tryz.prog 47 c47 :=
 qgL H.ty (n47 H) hm (lh:=qcR) (ct:=c47) (wi:=w47) (dcd:=fun y=>(y.1.1,y.2.1,y.2.2.1,y.2.2.2.1,y.2.2.2.2.1,y.2.2.2.2.2.1)) Tryz.func47 (by kernel_rfl) (by rfl) (q1q (l:=[(.loop (q3q 1 (q4q Tryz.f47) .skip),⟨qbi,qbY,lp qas K0⟩)]) (by kernel_rfl) ⟨qks H,trivial⟩) (fun _=>rfl) rfl (fun x r h=>(qkv x.1 x.2.1 x.2.2.1 x.2.2.2.1 x.2.2.2.2.1 x.2.2.2.2.2.1).trans h)
theorem n22 {T:Told} (H:qaa T):qai T Tryz.prog (envL e22):=q5q (l:=e22) ⟨ok46 H,ok47 H,trivial⟩
theorem qqL {T:Told} (H:qaa T):q12q T Tryz.prog 34 (.loop (q3q 3 (q4q Tryz.f22) .skip)) ⟨qdU,qeU,lp qb0 K0⟩ :=
 q7q H.ty (n22 H) hm (q1q (l:=[]) (by kernel_rfl) trivial) qqM K0
theorem ok22 {T:Told} (H:qaa T):qag T Tryz.prog 22 c22 :=
 qaq H.ty (n22 H) hm (lh:=qiR) (ct:=c22) (dcd:=fun y=>(y.2.1)) Tryz.func22 (by kernel_rfl) (by rfl) (q1q (l:=[(.loop (q3q 3 (q4q Tryz.f22) .skip),⟨qdU,qeU,lp qb0 K0⟩)]) (by kernel_rfl) ⟨qqL H,trivial⟩) (by decide) (fun _=>rfl) (fun x r h=>(qqN x.1 x.2.1 x.2.2.1 x.2.2.2.1).trans h)
theorem n6 {T:Told} (H:qaa T):qai T Tryz.prog (envL e6):=q5q (l:=e6) ⟨ok12 H,ok22 H,trivial⟩
theorem ok6 {T:Told} (H:qaa T):qag T Tryz.prog 6 c6 :=
 qaq H.ty (n6 H) hm (lh:=qjg) (ct:=c6) (dcd:=fun y=>(y.2.1,y.2.2.1)) Tryz.func6 (by kernel_rfl) (by rfl) (q1q (l:=[]) (by kernel_rfl) trivial) (by decide) (fun _=>rfl) (fun x r h=>(qoa x.1 x.2.1).trans h)
theorem n7 {T:Told} (H:qaa T):qai T Tryz.prog (envL e7):=q5q (l:=e7) ⟨ok23 H,trivial⟩
theorem ok7 {T:Told} (H:qaa T):qag T Tryz.prog 7 c7 :=
 qaq H.ty (n7 H) hm (lh:=qjc) (ct:=c7) (dcd:=fun y=>(y.2.1)) Tryz.func7 (by kernel_rfl) (by rfl) (q1q (l:=[]) (by kernel_rfl) trivial) (by decide) (fun _=>rfl) (fun x r h=>(qnw x.1 x.2.1).trans h)
theorem n87 {T:Told} (H:qaa T):qai T Tryz.prog (envL e87):=q5q (l:=e87) trivial
theorem ql5 {T:Told} (H:qaa T):q12q T Tryz.prog 14 (.loop (q3q 2 (q4q Tryz.f87) .skip)) ⟨qbP,qcy,lp qaT K0⟩ :=
 q7q H.ty (n87 H) hm (q1q (l:=[]) (by kernel_rfl) trivial) ql6 K0
theorem ok87 {T:Told} (H:qaa T):qag T Tryz.prog 87 c87 :=
 qaq H.ty (n87 H) hm (lh:=qe6) (ct:=c87) (dcd:=fun y=>(y.2.1)) Tryz.func87 (by kernel_rfl) (by rfl) (q1q (l:=[(.loop (q3q 2 (q4q Tryz.f87) .skip),⟨qbP,qcy,lp qaT K0⟩)]) (by kernel_rfl) ⟨ql5 H,trivial⟩) (by decide) (fun _=>rfl) (fun x r h=>(ql7 x.1).trans h)
theorem n118 {T:Told} (H:qaa T):qai T Tryz.prog (envL e118):=q5q (l:=e118) trivial
theorem qEd {T:Told} (H:qaa T):qag T Tryz.prog 118 c118 :=
 qaq H.ty (n118 H) hm (lh:=qh4) (ct:=c118) (dcd:=fun y=>(y.2.1)) Tryz.func118 (by kernel_rfl) (by rfl) (q1q (l:=[]) (by kernel_rfl) trivial) (by decide) (fun _=>rfl) (fun x r h=>(qlZ x.1 x.2.1).trans h)
theorem n91 {T:Told} (H:qaa T):qai T Tryz.prog (envL e91):=q5q (l:=e91) ⟨qEd H,trivial⟩
theorem qmI {T:Told} (H:qaa T):q12q T Tryz.prog 41 (.loop (q3q 4 (q4q Tryz.f91) .skip)) ⟨qcb,qcN,lp qaD K0⟩ :=
 q7q H.ty (n91 H) hm (q1q (l:=[]) (by kernel_rfl) trivial) qmJ K0
theorem ok91 {T:Told} (H:qaa T):qag T Tryz.prog 91 c91 :=
 qaq H.ty (n91 H) hm (lh:=qfw) (ct:=c91) (dcd:=fun y=>(y.2.1)) Tryz.func91 (by kernel_rfl) (by rfl) (q1q (l:=[(.loop (q3q 4 (q4q Tryz.f91) .skip),⟨qcb,qcN,lp qaD K0⟩)]) (by kernel_rfl) ⟨qmI H,trivial⟩) (by decide) (fun _=>rfl) (fun x r h=>(qmK x.1 x.2.1).trans h)
theorem n119 {T:Told} (H:qaa T):qai T Tryz.prog (envL e119):=q5q (l:=e119) trivial
theorem qmF {T:Told} (H:qaa T):q12q T Tryz.prog 21 (.loop (q3q 2 (q4q Tryz.f119) .skip)) ⟨qca,qcM,lp qaN K0⟩ :=
 q7q H.ty (n119 H) hm (q1q (l:=[]) (by kernel_rfl) trivial) qmG K0
theorem qC3 {T:Told} (H:qaa T):qag T Tryz.prog 119 c119 :=
 qaq H.ty (n119 H) hm (lh:=qfv) (ct:=c119) (dcd:=fun y=>(y.2.1)) Tryz.func119 (by kernel_rfl) (by rfl) (q1q (l:=[(.loop (q3q 2 (q4q Tryz.f119) .skip),⟨qca,qcM,lp qaN K0⟩)]) (by kernel_rfl) ⟨qmF H,trivial⟩) (by decide) (fun _=>rfl) (fun x r h=>(qmH x.1).trans h)
theorem n92 {T:Told} (H:qaa T):qai T Tryz.prog (envL e92):=q5q (l:=e92) ⟨qC3 H,trivial⟩
theorem ql0 {T:Told} (H:qaa T):q12q T Tryz.prog 63 (.loop (q3q 7 (q4q Tryz.f92) .skip)) ⟨qbN,qcw,lp qaG K0⟩ :=
 q7q H.ty (n92 H) hm (q1q (l:=[]) (by kernel_rfl) trivial) ql2 K0
theorem ql1 {T:Told} (H:qaa T):q12q T Tryz.prog 63 (.loop (q3q 3 (q4q Tryz.f92) .skip)) ⟨qbO,qcx,lp qaS K0⟩ :=
 q7q H.ty (n92 H) hm (q1q (l:=[(.loop (q3q 7 (q4q Tryz.f92) .skip),⟨qbN,qcw,lp qaG K0⟩)]) (by kernel_rfl) ⟨ql0 H,trivial⟩) ql3 K0
theorem ok92 {T:Told} (H:qaa T):qag T Tryz.prog 92 c92 :=
 qaq H.ty (n92 H) hm (lh:=qdx) (ct:=c92) (dcd:=fun y=>(y.2.1)) Tryz.func92 (by kernel_rfl) (by rfl) (q1q (l:=[(.loop (q3q 3 (q4q Tryz.f92) .skip),⟨qbO,qcx,lp qaS K0⟩)]) (by kernel_rfl) ⟨ql1 H,trivial⟩) (by decide) (fun _=>rfl) (fun x r h=>(ql4 x.1 x.2.1).trans h)
theorem n51 {T:Told} (H:qaa T):qai T Tryz.prog (envL e51):=q5q (l:=e51) ⟨ok87 H,ok91 H,ok92 H,trivial⟩
theorem qmO {T:Told} (H:qaa T):q12q T Tryz.prog 26 (.loop (q3q 4 (q4q Tryz.f51) .skip)) ⟨qcd,qcP,lp qa0 K0⟩ :=
 q7q H.ty (n51 H) hm (q1q (l:=[]) (by kernel_rfl) trivial) qmP K0
theorem ok51 {T:Told} (H:qaa T):qag T Tryz.prog 51 c51 :=
 qaq H.ty (n51 H) hm (lh:=qfx) (ct:=c51) (dcd:=fun y=>(y.2.1)) Tryz.func51 (by kernel_rfl) (by rfl) (q1q (l:=[(.loop (q3q 4 (q4q Tryz.f51) .skip),⟨qcd,qcP,lp qa0 K0⟩)]) (by kernel_rfl) ⟨qmO H,trivial⟩) (by decide) (fun _=>rfl) (fun x r h=>(qmQ x.1).trans h)
theorem n94 {T:Told} (H:qaa T):qai T Tryz.prog (envL e94):=q5q (l:=e94) trivial
theorem ok94 {T:Told} (H:qaa T):qag T Tryz.prog 94 c94 :=
 qaq H.ty (n94 H) hm (lh:=qih) (ct:=c94) (dcd:=fun y=>(y.2.1)) Tryz.func94 (by kernel_rfl) (by rfl) (q1q (l:=[]) (by kernel_rfl) trivial) (by decide) (fun _=>rfl) (fun x r h=>(qmD x.1 x.2.1).trans h)
theorem n93 {T:Told} (H:qaa T):qai T Tryz.prog (envL e93):=q5q (l:=e93) ⟨ok87 H,ok91 H,ok94 H,trivial⟩
theorem ok93 {T:Told} (H:qaa T):qag T Tryz.prog 93 c93 :=
 qaq H.ty (n93 H) hm (lh:=qh2) (ct:=c93) (dcd:=fun y=>(y.2.1)) Tryz.func93 (by kernel_rfl) (by rfl) (q1q (l:=[]) (by kernel_rfl) trivial) (by decide) (fun _=>rfl) (fun x r h=>(qlX x.1).trans h)
theorem n52 {T:Told} (H:qaa T):qai T Tryz.prog (envL e52):=q5q (l:=e52) ⟨ok87 H,ok93 H,trivial⟩
theorem ok52 {T:Told} (H:qaa T):qag T Tryz.prog 52 c52 :=
 qaq H.ty (n52 H) hm (lh:=qhY) (ct:=c52) (dcd:=fun y=>(y.2.1)) Tryz.func52 (by kernel_rfl) (by rfl) (q1q (l:=[]) (by kernel_rfl) trivial) (by decide) (fun _=>rfl) (fun x r h=>(qlT x.1 x.2.1).trans h)
theorem n53 {T:Told} (H:qaa T):qai T Tryz.prog (envL e53):=q5q (l:=e53) ⟨ok51 H,ok94 H,trivial⟩
theorem ok53 {T:Told} (H:qaa T):qag T Tryz.prog 53 c53 :=
 qaq H.ty (n53 H) hm (lh:=qii) (ct:=c53) (dcd:=fun y=>(y.2.1)) Tryz.func53 (by kernel_rfl) (by rfl) (q1q (l:=[]) (by kernel_rfl) trivial) (by decide) (fun _=>rfl) (fun x r h=>(qmE x.1).trans h)
theorem n25 {T:Told} (H:qaa T):qai T Tryz.prog (envL e25):=q5q (l:=e25) ⟨ok51 H,ok52 H,ok53 H,trivial⟩
theorem ok25 {T:Told} (H:qaa T):qag T Tryz.prog 25 c25 :=
 qaq H.ty (n25 H) hm (lh:=qig) (ct:=c25) (dcd:=fun y=>(y.2.1)) Tryz.func25 (by kernel_rfl) (by rfl) (q1q (l:=[]) (by kernel_rfl) trivial) (by decide) (fun _=>rfl) (fun x r h=>(qmC x.1).trans h)
theorem n84 {T:Told} (H:qaa T):qai T Tryz.prog (envL e84):=q5q (l:=e84) trivial
theorem ql8 {T:Told} (H:qaa T):q12q T Tryz.prog 27 (.loop (q3q 2 (q4q Tryz.f84) .skip)) ⟨qbQ,qcz,lp qaH K0⟩ :=
 q7q H.ty (n84 H) hm (q1q (l:=[]) (by kernel_rfl) trivial) ql9 K0
theorem ok84 {T:Told} (H:qaa T):qag T Tryz.prog 84 c84 :=
 qaq H.ty (n84 H) hm (lh:=qe7) (ct:=c84) (dcd:=fun y=>(y.2.1)) Tryz.func84 (by kernel_rfl) (by rfl) (q1q (l:=[(.loop (q3q 2 (q4q Tryz.f84) .skip),⟨qbQ,qcz,lp qaH K0⟩)]) (by kernel_rfl) ⟨ql8 H,trivial⟩) (by decide) (fun _=>rfl) (fun x r h=>(qma x.1).trans h)
theorem n86 {T:Told} (H:qaa T):qai T Tryz.prog (envL e86):=q5q (l:=e86) trivial
theorem qmd {T:Told} (H:qaa T):q12q T Tryz.prog 41 (.loop (q3q 6 (q4q Tryz.f86) .skip)) ⟨qbS,qcB,lp qax K0⟩ :=
 q7q H.ty (n86 H) hm (q1q (l:=[]) (by kernel_rfl) trivial) qme K0
theorem ok86 {T:Told} (H:qaa T):qag T Tryz.prog 86 c86 :=
 qaq H.ty (n86 H) hm (lh:=qe8) (ct:=c86) (dcd:=fun y=>(y.2.1)) Tryz.func86 (by kernel_rfl) (by rfl) (q1q (l:=[(.loop (q3q 6 (q4q Tryz.f86) .skip),⟨qbS,qcB,lp qax K0⟩)]) (by kernel_rfl) ⟨qmd H,trivial⟩) (by decide) (fun _=>rfl) (fun x r h=>(qmf x.1 x.2.1).trans h)
theorem n129 {T:Told} (H:qaa T):qai T Tryz.prog (envL e129):=q5q (l:=e129) ⟨qEd H,qC3 H,trivial⟩
theorem qmg {T:Told} (H:qaa T):q12q T Tryz.prog 35 (.loop (q3q 4 (q4q Tryz.f129) .skip)) ⟨qbT,qcC,lp qaI K0⟩ :=
 q7q H.ty (n129 H) hm (q1q (l:=[]) (by kernel_rfl) trivial) qmh K0
theorem qEP {T:Told} (H:qaa T):qag T Tryz.prog 129 c129 :=
 qaq H.ty (n129 H) hm (lh:=qe9) (ct:=c129) (dcd:=fun y=>(y.2.1)) Tryz.func129 (by kernel_rfl) (by rfl) (q1q (l:=[(.loop (q3q 4 (q4q Tryz.f129) .skip),⟨qbT,qcC,lp qaI K0⟩)]) (by kernel_rfl) ⟨qmg H,trivial⟩) (by decide) (fun _=>rfl) (fun x r h=>(qmi x.1 x.2.1).trans h)
theorem n117 {T:Told} (H:qaa T):qai T Tryz.prog (envL e117):=q5q (l:=e117) ⟨ok86 H,ok87 H,ok92 H,qC3 H,qEP H,trivial⟩
theorem qmb {T:Told} (H:qaa T):q12q T Tryz.prog 65 (.loop (q3q 12 (q4q Tryz.f117) .skip)) ⟨qbR,qcA,lp qaw K0⟩ :=
 q7q H.ty (n117 H) hm (q1q (l:=[]) (by kernel_rfl) trivial) qmc K0
theorem qmL {T:Told} (H:qaa T):q12q T Tryz.prog 65 (.loop (q3q 4 (q4q Tryz.f117) .skip)) ⟨qcc,qcO,lp qaZ K0⟩ :=
 q7q H.ty (n117 H) hm (q1q (l:=[(.loop (q3q 12 (q4q Tryz.f117) .skip),⟨qbR,qcA,lp qaw K0⟩)]) (by kernel_rfl) ⟨qmb H,trivial⟩) qmM K0
theorem qEV {T:Told} (H:qaa T):qag T Tryz.prog 117 c117 :=
 qaq H.ty (n117 H) hm (lh:=qdF) (ct:=c117) (dcd:=fun y=>(y.2.1,y.2.2.1)) Tryz.func117 (by kernel_rfl) (by rfl) (q1q (l:=[(.loop (q3q 4 (q4q Tryz.f117) .skip),⟨qcc,qcO,lp qaZ K0⟩)]) (by kernel_rfl) ⟨qmL H,trivial⟩) (by decide) (fun _=>rfl) (fun x r h=>(qmN x.1 x.2.1).trans h)
theorem n85 {T:Told} (H:qaa T):qai T Tryz.prog (envL e85):=q5q (l:=e85) ⟨qEV H,trivial⟩
theorem qnt {T:Told} (H:qaa T):q12q T Tryz.prog 19 (.loop (q3q 1 (q4q Tryz.f85) .skip)) ⟨qcl,qc3,lp qbd K0⟩ :=
 q7q H.ty (n85 H) hm (q1q (l:=[]) (by kernel_rfl) trivial) qnu K0
theorem ok85 {T:Told} (H:qaa T):qag T Tryz.prog 85 c85 :=
 qaq H.ty (n85 H) hm (lh:=qf2) (ct:=c85) (dcd:=fun y=>(y.2.1)) Tryz.func85 (by kernel_rfl) (by rfl) (q1q (l:=[(.loop (q3q 1 (q4q Tryz.f85) .skip),⟨qcl,qc3,lp qbd K0⟩)]) (by kernel_rfl) ⟨qnt H,trivial⟩) (by decide) (fun _=>rfl) (fun x r h=>(qnv x.1 x.2.1).trans h)
theorem n49 {T:Told} (H:qaa T):qai T Tryz.prog (envL e49):=q5q (l:=e49) ⟨ok51 H,ok84 H,ok85 H,ok86 H,ok87 H,trivial⟩
theorem ok49 {T:Told} (H:qaa T):qag T Tryz.prog 49 c49 :=
 qaq H.ty (n49 H) hm (lh:=qhZ) (ct:=c49) (dcd:=fun y=>(y.2.1)) Tryz.func49 (by kernel_rfl) (by rfl) (q1q (l:=[]) (by kernel_rfl) trivial) (by decide) (fun _=>rfl) (fun x r h=>(qlU x.1).trans h)
theorem n88 {T:Told} (H:qaa T):qai T Tryz.prog (envL e88):=q5q (l:=e88) ⟨ok86 H,trivial⟩
theorem ok88 {T:Told} (H:qaa T):qag T Tryz.prog 88 c88 :=
 qaq H.ty (n88 H) hm (lh:=qh3) (ct:=c88) (dcd:=fun y=>(y.2.1)) Tryz.func88 (by kernel_rfl) (by rfl) (q1q (l:=[]) (by kernel_rfl) trivial) (by decide) (fun _=>rfl) (fun x r h=>(qlY x.1 x.2.1).trans h)
theorem n89 {T:Told} (H:qaa T):qai T Tryz.prog (envL e89):=q5q (l:=e89) ⟨ok92 H,ok94 H,trivial⟩
theorem ok89 {T:Told} (H:qaa T):qag T Tryz.prog 89 c89 :=
 qaq H.ty (n89 H) hm (lh:=qh1) (ct:=c89) (dcd:=fun y=>(y.2.1)) Tryz.func89 (by kernel_rfl) (by rfl) (q1q (l:=[]) (by kernel_rfl) trivial) (by decide) (fun _=>rfl) (fun x r h=>(qlW x.1 x.2.1).trans h)
theorem n90 {T:Told} (H:qaa T):qai T Tryz.prog (envL e90):=q5q (l:=e90) ⟨ok94 H,trivial⟩
theorem ok90 {T:Told} (H:qaa T):qag T Tryz.prog 90 c90 :=
 qaq H.ty (n90 H) hm (lh:=qjb) (ct:=c90) (dcd:=fun y=>(y.2.1)) Tryz.func90 (by kernel_rfl) (by rfl) (q1q (l:=[]) (by kernel_rfl) trivial) (by decide) (fun _=>rfl) (fun x r h=>(qns x.1).trans h)
theorem n50 {T:Told} (H:qaa T):qai T Tryz.prog (envL e50):=q5q (l:=e50) ⟨ok88 H,ok89 H,ok90 H,trivial⟩
theorem ok50 {T:Told} (H:qaa T):qag T Tryz.prog 50 c50 :=
 qaq H.ty (n50 H) hm (lh:=qh0) (ct:=c50) (dcd:=fun y=>(y.2.1)) Tryz.func50 (by kernel_rfl) (by rfl) (q1q (l:=[]) (by kernel_rfl) trivial) (by decide) (fun _=>rfl) (fun x r h=>(qlV x.1 x.2.1).trans h)
theorem n24 {T:Told} (H:qaa T):qai T Tryz.prog (envL e24):=q5q (l:=e24) ⟨ok25 H,ok49 H,ok50 H,trivial⟩
theorem ok24 {T:Told} (H:qaa T):qag T Tryz.prog 24 c24 :=
 qaq H.ty (n24 H) hm (lh:=qjm) (ct:=c24) (dcd:=fun y=>(y.2.1)) Tryz.func24 (by kernel_rfl) (by rfl) (q1q (l:=[]) (by kernel_rfl) trivial) (by decide) (fun _=>rfl) (fun x r h=>(qox x.1 x.2.1).trans h)
theorem n8 {T:Told} (H:qaa T):qai T Tryz.prog (envL e8):=q5q (l:=e8) ⟨ok24 H,ok25 H,trivial⟩
theorem ok8 {T:Told} (H:qaa T):qag T Tryz.prog 8 c8 :=
 qaq H.ty (n8 H) hm (lh:=qjl) (ct:=c8) (dcd:=fun y=>(y.2.1)) Tryz.func8 (by kernel_rfl) (by rfl) (q1q (l:=[]) (by kernel_rfl) trivial) (by decide) (fun _=>rfl) (fun x r h=>(qow x.1 x.2.1).trans h)
theorem n9 {T:Told} (H:qaa T):qai T Tryz.prog (envL e9):=q5q (l:=e9) ⟨ok18 H,ok20 H,ok26 H,trivial⟩
theorem qml {r} (h:c9.F ()=r):qcH=r:=by
 subst h
 delta c9
 exact(@F_in [] _ _ (fun _=>qcH) _ _ () _ rfl).symm
theorem qmj (x) (r:c9.T) (h:c9.F x=some r):fnF tb (envL e9) Tryz.f9 qfa c9.ps c9.rs (T:=c9.T) (fun y=>(y.2.1)) x=some r:=by
 cases x
 exact qmk.trans (qml h)
theorem ok9 {T:Told} (H:qaa T):qag T Tryz.prog 9 c9 :=
 qaq H.ty (n9 H) hm (lh:=qfa) (ct:=c9) (dcd:=fun y=>(y.2.1)) Tryz.func9 (by kernel_rfl) (by rfl) (q1q (l:=[]) (by kernel_rfl) trivial) (by decide) (fun _=>rfl) (fun x r h=>qmj x r h)
theorem n3 {T:Told} (H:qaa T):qai T Tryz.prog (envL e3):=q5q (l:=e3) ⟨ok4 H,ok5 H,ok6 H,ok7 H,ok8 H,ok9 H,trivial⟩
theorem qit {T:Told} (H:qaa T):q12q T Tryz.prog 62 (.loop (q3q 7 (q4q Tryz.f3) .skip)) ⟨qaL,qa3,lp qaf K0⟩ :=
 q7q H.ty (n3 H) hm (q1q (l:=[]) (by kernel_rfl) trivial) qiu K0
theorem ok3 {T:Told} (H:qaa T):qag T Tryz.prog 3 c3 :=
 qaq H.ty (n3 H) hm (lh:=qcS) (ct:=c3) (dcd:=fun y=>(y.2.1)) Tryz.func3 (by kernel_rfl) (by rfl) (q1q (l:=[(.loop (q3q 7 (q4q Tryz.f3) .skip),⟨qaL,qa3,lp qaf K0⟩)]) (by kernel_rfl) ⟨qit H,trivial⟩) (by decide) (fun _=>rfl) (fun x r h=>(qiv x.1 x.2.1).trans h)
end Go.Proofs.YtemlifeamdpjeaaGreatDoor.X
