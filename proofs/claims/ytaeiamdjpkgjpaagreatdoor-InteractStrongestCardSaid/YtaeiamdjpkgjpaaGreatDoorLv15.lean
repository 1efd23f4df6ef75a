/- Own work: part of the proof; the first line of each part says what it tells. -/
import Derived.Test.YtaeiamdjpkgjpaaGreatDoorLv11
import Derived.Test.YtaeiamdjpkgjpaaGreatDoorLv14


namespace Go.Proofs.YtaeiamdjpkgjpaaGreatDoor.X
open Go
set_option linter.unusedVariables false
set_option linter.unusedSimpArgs false
set_option maxRecDepth 100000
theorem F_in {ps:List (Ty×PM)} {rs:List (Ty×Bool)} {T:Type} {F:HL (fsts ps)->Option T} {enc:T->HL (qi4 ps)×HL (fsts rs)} {wi:Option Wir} (x:HL (fsts ps)) {r:Option T} (h:F x=r):(Ctr.mk ps rs T F enc wi).F x=r:=h
theorem hm:Tryz.prog.follows .mixedOrders=true:=by kernel_rfl
structure qab (T:Told):Prop where
 ty:TbOk Tryz.prog tb
 h122:qai T Tryz.prog 122 c122
 h129:qai T Tryz.prog 129 c129
theorem tyO:TbOk Tryz.prog tbO:=qxB (by kernel_rfl)
theorem n48 {T:Told} (H:qab T):qak T Tryz.prog (envL e48):=q5q (l:=e48) trivial
theorem ok48 {T:Told} (H:qab T):qai T Tryz.prog 48 c48 :=
 qax H.ty (n48 H) hm (lh:=qgZ) (ct:=c48) (dcd:=fun y=>(y.2.1)) Tryz.func48 (by kernel_rfl) (by rfl) (q1q (l:=[]) (by kernel_rfl) trivial) (by decide) (fun _=>rfl) (fun x r h=>(qkJ x.1).trans h)
theorem n23 {T:Told} (H:qab T):qak T Tryz.prog (envL e23):=q5q (l:=e23) ⟨ok48 H,trivial⟩
theorem qm3 {T:Told} (H:qab T):q12q T Tryz.prog 67 (.loop (q3q 7 (q4q Tryz.f23) .skip)) ⟨qcA,qds,lp qaV K0⟩ :=
 q7q H.ty (n23 H) hm (q1q (l:=[]) (by kernel_rfl) trivial) qm5 K0
theorem qm4 {T:Told} (H:qab T):q12q T Tryz.prog 67 (.loop (q3q 3 (q4q Tryz.f23) .skip)) ⟨qcB,qdt,lp qaW K0⟩ :=
 q7q H.ty (n23 H) hm (q1q (l:=[(.loop (q3q 7 (q4q Tryz.f23) .skip),⟨qcA,qds,lp qaV K0⟩)]) (by kernel_rfl) ⟨qm3 H,trivial⟩) qm6 K0
theorem ok23 {T:Told} (H:qab T):qai T Tryz.prog 23 c23 :=
 qax H.ty (n23 H) hm (lh:=qeq) (ct:=c23) (dcd:=fun y=>(y.2.1)) Tryz.func23 (by kernel_rfl) (by rfl) (q1q (l:=[(.loop (q3q 3 (q4q Tryz.f23) .skip),⟨qcB,qdt,lp qaW K0⟩)]) (by kernel_rfl) ⟨qm4 H,trivial⟩) (by decide) (fun _=>rfl) (fun x r h=>(qm7 x.1).trans h)
theorem n49 {T:Told} (H:qab T):qak T Tryz.prog (envL e49):=q5q (l:=e49) trivial
theorem ok49 {T:Told} (H:qab T):qai T Tryz.prog 49 c49 :=
 qax H.ty (n49 H) hm (lh:=qgY) (ct:=c49) (dcd:=fun y=>(y.2.1)) Tryz.func49 (by kernel_rfl) (by rfl) (q1q (l:=[]) (by kernel_rfl) trivial) (by decide) (fun _=>rfl) (fun x r h=>(qkI x.1).trans h)
theorem n24 {T:Told} (H:qab T):qak T Tryz.prog (envL e24):=q5q (l:=e24) ⟨ok49 H,trivial⟩
theorem qm0 {T:Told} (H:qab T):q12q T Tryz.prog 32 (.loop (q3q 3 (q4q Tryz.f24) .skip)) ⟨qcz,qdr,lp qa6 K0⟩ :=
 q7q H.ty (n24 H) hm (q1q (l:=[]) (by kernel_rfl) trivial) qm1 K0
theorem ok24 {T:Told} (H:qab T):qai T Tryz.prog 24 c24 :=
 qax H.ty (n24 H) hm (lh:=qfT) (ct:=c24) (dcd:=fun y=>(y.2.1)) Tryz.func24 (by kernel_rfl) (by rfl) (q1q (l:=[(.loop (q3q 3 (q4q Tryz.f24) .skip),⟨qcz,qdr,lp qa6 K0⟩)]) (by kernel_rfl) ⟨qm0 H,trivial⟩) (by decide) (fun _=>rfl) (fun x r h=>(qm2 x.1 x.2.1).trans h)
theorem n6 {T:Told} (H:qab T):qak T Tryz.prog (envL e6):=q5q (l:=e6) ⟨ok23 H,ok24 H,trivial⟩
theorem ok6 {T:Told} (H:qab T):qai T Tryz.prog 6 c6 :=
 qax H.ty (n6 H) hm (lh:=qhJ) (ct:=c6) (dcd:=fun y=>(y.2.1,y.2.2.1)) Tryz.func6 (by kernel_rfl) (by rfl) (q1q (l:=[]) (by kernel_rfl) trivial) (by decide) (fun _=>rfl) (fun x r h=>(ql1 x.1 x.2.1).trans h)
theorem n74 {T:Told} (H:qab T):qak T Tryz.prog (envL e74):=q5q (l:=e74) trivial
theorem qr8 {T:Told} (H:qab T):q12q T Tryz.prog 72 (.loop (q3q 9 (q4q Tryz.f74) .skip)) ⟨qfi,qgr,lp qck K0⟩ :=
 q7q H.ty (n74 H) hm (q1q (l:=[]) (by kernel_rfl) trivial) qsa K0
theorem qr9 {T:Told} (H:qab T):q12q T Tryz.prog 72 (.loop (q3q 4 (q4q Tryz.f74) .skip)) ⟨qfj,qgs,lp qby K0⟩ :=
 q7q H.ty (n74 H) hm (q1q (l:=[(.loop (q3q 9 (q4q Tryz.f74) .skip),⟨qfi,qgr,lp qck K0⟩)]) (by kernel_rfl) ⟨qr8 H,trivial⟩) qsb K0
theorem ok74 {T:Told} (H:qab T):qai T Tryz.prog 74 c74 :=
 qax H.ty (n74 H) hm (lh:=qh0) (ct:=c74) (dcd:=fun y=>(y.2.1)) Tryz.func74 (by kernel_rfl) (by rfl) (q1q (l:=[(.loop (q3q 4 (q4q Tryz.f74) .skip),⟨qfj,qgs,lp qby K0⟩)]) (by kernel_rfl) ⟨qr9 H,trivial⟩) (by decide) (fun _=>rfl) (fun x r h=>(qsc x.1).trans h)
theorem n75 {T:Told} (H:qab T):qak T Tryz.prog (envL e75):=q5q (l:=e75) trivial
theorem qpC {T:Told} (H:qab T):q12q T Tryz.prog 52 (.loop (q3q 2 (q4q Tryz.f75) .skip)) ⟨qdY,qeR,lp qbo K0⟩ :=
 q7q H.ty (n75 H) hm (q1q (l:=[]) (by kernel_rfl) trivial) qpD K0
theorem ok75 {T:Told} (H:qab T):qai T Tryz.prog 75 c75 :=
 qax H.ty (n75 H) hm (lh:=qin) (ct:=c75) (dcd:=fun y=>(y.2.1,y.2.2.1)) Tryz.func75 (by kernel_rfl) (by rfl) (q1q (l:=[(.loop (q3q 2 (q4q Tryz.f75) .skip),⟨qdY,qeR,lp qbo K0⟩)]) (by kernel_rfl) ⟨qpC H,trivial⟩) (by decide) (fun _=>rfl) (fun x r h=>(qpE x.1 x.2.1).trans h)
theorem n76 {T:Told} (H:qab T):qak T Tryz.prog (envL e76):=q5q (l:=e76) trivial
theorem qqG {T:Told} (H:qab T):q12q T Tryz.prog 103 (.loop (q3q 3 (q4q Tryz.f76) .skip)) ⟨qey,qfv,lp qb8 K0⟩ :=
 q7q H.ty (n76 H) hm (q1q (l:=[]) (by kernel_rfl) trivial) qqH K0
theorem qpy {T:Told} (H:qab T):q12q T Tryz.prog 103 (.loop (q3q 10 (q4q Tryz.f76) .skip)) ⟨qdX,qeQ,lp qa8 K0⟩ :=
 q7q H.ty (n76 H) hm (q1q (l:=[]) (by kernel_rfl) trivial) qpB K0
theorem qpx {T:Told} (H:qab T):q12q T Tryz.prog 103 (.loop (q3q 17 (q4q Tryz.f76) .skip)) ⟨qdW,qeP,lp qb9 K0⟩ :=
 q7q H.ty (n76 H) hm (q1q (l:=[]) (by kernel_rfl) trivial) qpA K0
theorem qpw {T:Told} (H:qab T):q12q T Tryz.prog 103 (.loop (q3q 25 (q4q Tryz.f76) .skip)) ⟨qdV,qeO,lp qbn K0⟩ :=
 q7q H.ty (n76 H) hm (q1q (l:=[]) (by kernel_rfl) trivial) qpz K0
theorem ok76 {T:Told} (H:qab T):qai T Tryz.prog 76 c76 :=
 qax H.ty (n76 H) hm (lh:=qex) (ct:=c76) (dcd:=fun y=>(y.2.1,y.2.2.1)) Tryz.func76 (by kernel_rfl) (by rfl) (q1q (l:=[(.loop (q3q 3 (q4q Tryz.f76) .skip),⟨qey,qfv,lp qb8 K0⟩),(.loop (q3q 10 (q4q Tryz.f76) .skip),⟨qdX,qeQ,lp qa8 K0⟩),(.loop (q3q 17 (q4q Tryz.f76) .skip),⟨qdW,qeP,lp qb9 K0⟩),(.loop (q3q 25 (q4q Tryz.f76) .skip),⟨qdV,qeO,lp qbn K0⟩)]) (by kernel_rfl) ⟨qqG H,qpy H,qpx H,qpw H,trivial⟩) (by decide) (fun _=>rfl) (fun x r h=>(qqI x.1).trans h)
theorem n66 {T:Told} (H:qab T):qak T Tryz.prog (envL e66):=q5q (l:=e66) trivial
theorem quB {T:Told} (H:qab T):q12q T Tryz.prog 23 (.loop (q3q 2 (q4q Tryz.f66) .skip)) ⟨qg7,qix,lp qen K0⟩ :=
 q7q H.ty (n66 H) hm (q1q (l:=[]) (by kernel_rfl) trivial) quC K0
theorem ok66 {T:Told} (H:qab T):qai T Tryz.prog 66 c66 :=
 qax H.ty (n66 H) hm (lh:=qmK) (ct:=c66) (dcd:=fun y=>(y.2.1)) Tryz.func66 (by kernel_rfl) (by rfl) (q1q (l:=[(.loop (q3q 2 (q4q Tryz.f66) .skip),⟨qg7,qix,lp qen K0⟩)]) (by kernel_rfl) ⟨quB H,trivial⟩) (by decide) (fun _=>rfl) (fun x r h=>(quD x.1).trans h)
theorem n40 {T:Told} (H:qab T):qak T Tryz.prog (envL e40):=q5q (l:=e40) ⟨ok66 H,trivial⟩
theorem ok40 {T:Told} (H:qab T):qai T Tryz.prog 40 c40 :=
 qax H.ty (n40 H) hm (lh:=qtz) (ct:=c40) (dcd:=fun y=>(y.2.1)) Tryz.func40 (by kernel_rfl) (by rfl) (q1q (l:=[]) (by kernel_rfl) trivial) (by decide) (fun _=>rfl) (fun x r h=>(qya x.1).trans h)
theorem n16 {T:Told} (H:qab T):qak T Tryz.prog (envL e16):=q5q (l:=e16) ⟨ok40 H,trivial⟩
theorem ok16 {T:Told} (H:qab T):qai T Tryz.prog 16 c16 :=
 qax H.ty (n16 H) hm (lh:=qnm) (ct:=c16) (dcd:=fun y=>(y.2.1)) Tryz.func16 (by kernel_rfl) (by rfl) (q1q (l:=[]) (by kernel_rfl) trivial) (by decide) (fun _=>rfl) (fun x r h=>(qrT ).trans h)
theorem n60 {T:Told} (H:qab T):qak T Tryz.prog (envL e60):=q5q (l:=e60) ⟨ok66 H,trivial⟩
theorem qtA {T:Told} (H:qab T):q12q T Tryz.prog 24 (.loop (q3q 3 (q4q Tryz.f60) .skip)) ⟨qf9,qhw,lp qdC K0⟩ :=
 q7q H.ty (n60 H) hm (q1q (l:=[]) (by kernel_rfl) trivial) qtB K0
theorem ok60 {T:Told} (H:qab T):qai T Tryz.prog 60 c60 :=
 qax H.ty (n60 H) hm (lh:=qlg) (ct:=c60) (dcd:=fun y=>(y.2.1)) Tryz.func60 (by kernel_rfl) (by rfl) (q1q (l:=[(.loop (q3q 3 (q4q Tryz.f60) .skip),⟨qf9,qhw,lp qdC K0⟩)]) (by kernel_rfl) ⟨qtA H,trivial⟩) (by decide) (fun _=>rfl) (fun x r h=>(qtC x.1).trans h)
theorem n92 {T:Told} (H:qab T):qak T Tryz.prog (envL e92):=q5q (l:=e92) trivial
theorem qtp {T:Told} (H:qab T):q12q T Tryz.prog 45 (.loop (q3q 6 (q4q Tryz.f92) .skip)) ⟨qf5,qhs,lp qc6 K0⟩ :=
 q7q H.ty (n92 H) hm (q1q (l:=[]) (by kernel_rfl) trivial) qtq K0
theorem ok92 {T:Told} (H:qab T):qai T Tryz.prog 92 c92 :=
 qax H.ty (n92 H) hm (lh:=qla) (ct:=c92) (dcd:=fun y=>(y.2.1)) Tryz.func92 (by kernel_rfl) (by rfl) (q1q (l:=[(.loop (q3q 6 (q4q Tryz.f92) .skip),⟨qf5,qhs,lp qc6 K0⟩)]) (by kernel_rfl) ⟨qtp H,trivial⟩) (by decide) (fun _=>rfl) (fun x r h=>(qtr x.1 x.2.1).trans h)
theorem n121 {T:Told} (H:qab T):qak T Tryz.prog (envL e121):=q5q (l:=e121) ⟨ok60 H,trivial⟩
theorem qDn {T:Told} (H:qab T):qai T Tryz.prog 121 c121 :=
 qax H.ty (n121 H) hm (lh:=qty) (ct:=c121) (dcd:=fun y=>(y.2.1,y.2.2.1)) Tryz.func121 (by kernel_rfl) (by rfl) (q1q (l:=[]) (by kernel_rfl) trivial) (by decide) (fun _=>rfl) (fun x r h=>(qx9 x.1).trans h)
theorem n97 {T:Told} (H:qab T):qak T Tryz.prog (envL e97):=q5q (l:=e97) ⟨ok40 H,qDn H,trivial⟩
theorem qr3 {T:Told} (H:qab T):q12q T Tryz.prog 27 (.loop (q3q 3 (q4q Tryz.f97) .skip)) ⟨qff,qgq,lp qdB K0⟩ :=
 q7q H.ty (n97 H) hm (q1q (l:=[]) (by kernel_rfl) trivial) qr4 K0
theorem ok97 {T:Told} (H:qab T):qai T Tryz.prog 97 c97 :=
 qax H.ty (n97 H) hm (lh:=qkf) (ct:=c97) (dcd:=fun y=>(y.2.1)) Tryz.func97 (by kernel_rfl) (by rfl) (q1q (l:=[(.loop (q3q 3 (q4q Tryz.f97) .skip),⟨qff,qgq,lp qdB K0⟩)]) (by kernel_rfl) ⟨qr3 H,trivial⟩) (by decide) (fun _=>rfl) (fun x r h=>(qr5 x.1 x.2.1).trans h)
theorem n98 {T:Told} (H:qab T):qak T Tryz.prog (envL e98):=q5q (l:=e98) ⟨H.h122,trivial⟩
theorem qtj {T:Told} (H:qab T):q12q T Tryz.prog 24 (.loop (q3q 3 (q4q Tryz.f98) .skip)) ⟨qf3,qhq,lp qeh K0⟩ :=
 q7q H.ty (n98 H) hm (q1q (l:=[]) (by kernel_rfl) trivial) qtk K0
theorem ok98 {T:Told} (H:qab T):qai T Tryz.prog 98 c98 :=
 qax H.ty (n98 H) hm (lh:=qk7) (ct:=c98) (dcd:=fun y=>(y.2.1)) Tryz.func98 (by kernel_rfl) (by rfl) (q1q (l:=[(.loop (q3q 3 (q4q Tryz.f98) .skip),⟨qf3,qhq,lp qeh K0⟩)]) (by kernel_rfl) ⟨qtj H,trivial⟩) (by decide) (fun _=>rfl) (fun x r h=>(qtl x.1).trans h)
theorem n105 {T:Told} (H:qab T):qak T Tryz.prog (envL e105):=q5q (l:=e105) trivial
theorem qx7 {T:Told} (H:qab T):qai T Tryz.prog 105 c105 :=
 qax H.ty (n105 H) hm (lh:=qqd) (ct:=c105) (dcd:=fun y=>(y.2.1)) Tryz.func105 (by kernel_rfl) (by rfl) (q1q (l:=[]) (by kernel_rfl) trivial) (by decide) (fun _=>rfl) (fun x r h=>(quL x.1 x.2.1).trans h)
theorem n99 {T:Told} (H:qab T):qak T Tryz.prog (envL e99):=q5q (l:=e99) ⟨ok66 H,qx7 H,trivial⟩
theorem qww {T:Told} (H:qab T):q12q T Tryz.prog 50 (.loop (q3q 6 (q4q Tryz.f99) .skip)) ⟨qig,qjG,lp qfd K0⟩ :=
 q7q H.ty (n99 H) hm (q1q (l:=[]) (by kernel_rfl) trivial) qwx K0
theorem ok99 {T:Told} (H:qab T):qai T Tryz.prog 99 c99 :=
 qax H.ty (n99 H) hm (lh:=qoc) (ct:=c99) (dcd:=fun y=>(y.2.1)) Tryz.func99 (by kernel_rfl) (by rfl) (q1q (l:=[(.loop (q3q 6 (q4q Tryz.f99) .skip),⟨qig,qjG,lp qfd K0⟩)]) (by kernel_rfl) ⟨qww H,trivial⟩) (by decide) (fun _=>rfl) (fun x r h=>(qwy x.1 x.2.1).trans h)
theorem n100 {T:Told} (H:qab T):qak T Tryz.prog (envL e100):=q5q (l:=e100) ⟨ok66 H,trivial⟩
theorem qwz {T:Told} (H:qab T):q12q T Tryz.prog 51 (.loop (q3q 4 (q4q Tryz.f100) .skip)) ⟨qih,qjH,lp qfe K0⟩ :=
 q7q H.ty (n100 H) hm (q1q (l:=[]) (by kernel_rfl) trivial) qwA K0
theorem qCJ {T:Told} (H:qab T):qai T Tryz.prog 100 c100 :=
 qax H.ty (n100 H) hm (lh:=qod) (ct:=c100) (dcd:=fun y=>(y.2.1)) Tryz.func100 (by kernel_rfl) (by rfl) (q1q (l:=[(.loop (q3q 4 (q4q Tryz.f100) .skip),⟨qih,qjH,lp qfe K0⟩)]) (by kernel_rfl) ⟨qwz H,trivial⟩) (by decide) (fun _=>rfl) (fun x r h=>(qwB x.1 x.2.1).trans h)
theorem n103 {T:Told} (H:qab T):qak T Tryz.prog (envL e103):=q5q (l:=e103) ⟨ok66 H,trivial⟩
theorem qtm {T:Told} (H:qab T):q12q T Tryz.prog 38 (.loop (q3q 4 (q4q Tryz.f103) .skip)) ⟨qf4,qhr,lp qei K0⟩ :=
 q7q H.ty (n103 H) hm (q1q (l:=[]) (by kernel_rfl) trivial) qtn K0
theorem qDx {T:Told} (H:qab T):qai T Tryz.prog 103 c103 :=
 qax H.ty (n103 H) hm (lh:=qk8) (ct:=c103) (dcd:=fun y=>(y.2.1,y.2.2.1)) Tryz.func103 (by kernel_rfl) (by rfl) (q1q (l:=[(.loop (q3q 4 (q4q Tryz.f103) .skip),⟨qf4,qhr,lp qei K0⟩)]) (by kernel_rfl) ⟨qtm H,trivial⟩) (by decide) (fun _=>rfl) (fun x r h=>(qto x.1 x.2.1).trans h)
theorem n123 {T:Told} (H:qab T):qak T Tryz.prog (envL e123):=q5q (l:=e123) ⟨H.h129,trivial⟩
theorem qDm {T:Told} (H:qab T):qai T Tryz.prog 123 c123 :=
 qax H.ty (n123 H) hm (lh:=qg0) (ct:=c123) (dcd:=fun y=>(y.2.1)) Tryz.func123 (by kernel_rfl) (by rfl) (q1q (l:=[]) (by kernel_rfl) trivial) (by decide) (fun _=>rfl) (fun x r h=>(qkK x.1).trans h)
theorem n130 {T:Told} (H:qab T):qak T Tryz.prog (envL e130):=q5q (l:=e130) ⟨qx7 H,trivial⟩
theorem quE {T:Told} (H:qab T):q12q T Tryz.prog 46 (.loop (q3q 3 (q4q Tryz.f130) .skip)) ⟨qg8,qiy,lp qe0 K0⟩ :=
 q7q H.ty (n130 H) hm (q1q (l:=[]) (by kernel_rfl) trivial) quF K0
theorem qDj {T:Told} (H:qab T):qai T Tryz.prog 130 c130 :=
 qax H.ty (n130 H) hm (lh:=qmL) (ct:=c130) (dcd:=fun y=>(y.1.1,y.2.1)) Tryz.func130 (by kernel_rfl) (by rfl) (q1q (l:=[(.loop (q3q 3 (q4q Tryz.f130) .skip),⟨qg8,qiy,lp qe0 K0⟩)]) (by kernel_rfl) ⟨quE H,trivial⟩) (by decide) (fun _=>rfl) (fun x r h=>(quG x.1 x.2.1 x.2.2.1).trans h)
theorem n131 {T:Told} (H:qab T):qak T Tryz.prog (envL e131):=q5q (l:=e131) ⟨qx7 H,trivial⟩
theorem quM {T:Told} (H:qab T):q12q T Tryz.prog 29 (.loop (q3q 2 (q4q Tryz.f131) .skip)) ⟨qha,qiB,lp qe1 K0⟩ :=
 q7q H.ty (n131 H) hm (q1q (l:=[]) (by kernel_rfl) trivial) quN K0
theorem qDi {T:Told} (H:qab T):qai T Tryz.prog 131 c131 :=
 qax H.ty (n131 H) hm (lh:=qmN) (ct:=c131) (dcd:=fun y=>(y.1.1)) Tryz.func131 (by kernel_rfl) (by rfl) (q1q (l:=[(.loop (q3q 2 (q4q Tryz.f131) .skip),⟨qha,qiB,lp qe1 K0⟩)]) (by kernel_rfl) ⟨quM H,trivial⟩) (by decide) (fun _=>rfl) (fun x r h=>(quO x.1 x.2.1).trans h)
theorem n124 {T:Told} (H:qab T):qak T Tryz.prog (envL e124):=q5q (l:=e124) ⟨qDj H,qDi H,trivial⟩
theorem qtv {T:Told} (H:qab T):q12q T Tryz.prog 77 (.loop (q3q 4 (q4q Tryz.f124) .skip)) ⟨qf7,qhv,lp qbV K0⟩ :=
 q7q H.ty (n124 H) hm (q1q (l:=[]) (by kernel_rfl) trivial) qtw K0
theorem qDl {T:Told} (H:qab T):qai T Tryz.prog 124 c124 :=
 qax H.ty (n124 H) hm (lh:=qlc) (ct:=c124) (dcd:=fun y=>(y.1.1,y.2.1)) Tryz.func124 (by kernel_rfl) (by rfl) (q1q (l:=[(.loop (q3q 4 (q4q Tryz.f124) .skip),⟨qf7,qhv,lp qbV K0⟩)]) (by kernel_rfl) ⟨qtv H,trivial⟩) (by decide) (fun _=>rfl) (fun x r h=>(qtx x.1 x.2.1).trans h)
theorem n104 {T:Told} (H:qab T):qak T Tryz.prog (envL e104):=q5q (l:=e104) ⟨ok66 H,ok99 H,qCJ H,qDm H,qDl H,trivial⟩
theorem quI {T:Told} (H:qab T):q12q T Tryz.prog 64 (.loop (q3q 7 (q4q Tryz.f104) .skip)) ⟨qg9,qiA,lp qep K0⟩ :=
 q7q H.ty (n104 H) hm (q1q (l:=[]) (by kernel_rfl) trivial) quJ K0
theorem qDw {T:Told} (H:qab T):qai T Tryz.prog 104 c104 :=
 qax H.ty (n104 H) hm (lh:=qmM) (ct:=c104) (dcd:=fun y=>(y.2.1,y.2.2.1)) Tryz.func104 (by kernel_rfl) (by rfl) (q1q (l:=[(.loop (q3q 7 (q4q Tryz.f104) .skip),⟨qg9,qiA,lp qep K0⟩)]) (by kernel_rfl) ⟨quI H,trivial⟩) (by decide) (fun _=>rfl) (fun x r h=>(quK x.1 x.2.1).trans h)
theorem n68 {T:Told} (H:qab T):qak T Tryz.prog (envL e68):=q5q (l:=e68) ⟨ok40 H,ok60 H,ok92 H,qDx H,qDw H,trivial⟩
theorem ok68 {T:Told} (H:qab T):qai T Tryz.prog 68 c68 :=
 qax H.ty (n68 H) hm (lh:=qnF) (ct:=c68) (dcd:=fun y=>(y.2.1,y.2.2.1,y.2.2.2.1)) Tryz.func68 (by kernel_rfl) (by rfl) (q1q (l:=[]) (by kernel_rfl) trivial) (by decide) (fun _=>rfl) (fun x r h=>(qr6 x.1 x.2.1).trans h)
theorem n101 {T:Told} (H:qab T):qak T Tryz.prog (envL e101):=q5q (l:=e101) ⟨ok68 H,trivial⟩
theorem qDy {T:Told} (H:qab T):qai T Tryz.prog 101 c101 :=
 qax H.ty (n101 H) hm (lh:=qqc) (ct:=c101) (dcd:=fun y=>(y.2.1,y.2.2.1)) Tryz.func101 (by kernel_rfl) (by rfl) (q1q (l:=[]) (by kernel_rfl) trivial) (by decide) (fun _=>rfl) (fun x r h=>(quH x.1 x.2.1).trans h)
theorem n102 {T:Told} (H:qab T):qak T Tryz.prog (envL e102):=q5q (l:=e102) ⟨ok66 H,qx7 H,trivial⟩
theorem qts {T:Told} (H:qab T):q12q T Tryz.prog 39 (.loop (q3q 4 (q4q Tryz.f102) .skip)) ⟨qf6,qhu,lp qej K0⟩ :=
 q7q H.ty (n102 H) hm (q1q (l:=[]) (by kernel_rfl) trivial) qtt K0
theorem qCI {T:Told} (H:qab T):qai T Tryz.prog 102 c102 :=
 qax H.ty (n102 H) hm (lh:=qlb) (ct:=c102) (dcd:=fun y=>(y.2.1)) Tryz.func102 (by kernel_rfl) (by rfl) (q1q (l:=[(.loop (q3q 4 (q4q Tryz.f102) .skip),⟨qf6,qhu,lp qej K0⟩)]) (by kernel_rfl) ⟨qts H,trivial⟩) (by decide) (fun _=>rfl) (fun x r h=>(qtu x.1 x.2.1).trans h)
theorem n67 {T:Told} (H:qab T):qak T Tryz.prog (envL e67):=q5q (l:=e67) ⟨ok60 H,ok92 H,ok97 H,ok98 H,ok99 H,qCJ H,qDy H,qCI H,trivial⟩
theorem quP {T:Told} (H:qab T):q12q T Tryz.prog 86 (.loop (q3q 10 (q4q Tryz.f67) .skip)) ⟨qhb,qiC,lp qci K0⟩ :=
 q7q H.ty (n67 H) hm (q1q (l:=[]) (by kernel_rfl) trivial) quQ K0
theorem ok67 {T:Told} (H:qab T):qai T Tryz.prog 67 c67 :=
 qax H.ty (n67 H) hm (lh:=qoe) (ct:=c67) (dcd:=fun y=>(y.2.1)) Tryz.func67 (by kernel_rfl) (by rfl) (q1q (l:=[(.loop (q3q 10 (q4q Tryz.f67) .skip),⟨qhb,qiC,lp qci K0⟩)]) (by kernel_rfl) ⟨quP H,trivial⟩) (by decide) (fun _=>rfl) (fun x r h=>(qwI x.1 x.2.1).trans h)
theorem n41 {T:Told} (H:qab T):qak T Tryz.prog (envL e41):=q5q (l:=e41) ⟨ok40 H,ok67 H,ok68 H,trivial⟩
theorem ok41 {T:Told} (H:qab T):qai T Tryz.prog 41 c41 :=
 qax H.ty (n41 H) hm (lh:=qnl) (ct:=c41) (dcd:=fun y=>(y.2.1)) Tryz.func41 (by kernel_rfl) (by rfl) (q1q (l:=[]) (by kernel_rfl) trivial) (by decide) (fun _=>rfl) (fun x r h=>(qrS x.1 x.2.1).trans h)
theorem n63 {T:Told} (H:qab T):qak T Tryz.prog (envL e63):=q5q (l:=e63) trivial
theorem ok63 {T:Told} (H:qab T):qai T Tryz.prog 63 c63 :=
 qax H.ty (n63 H) hm (lh:=qna) (ct:=c63) (dcd:=fun y=>(y.2.1)) Tryz.func63 (by kernel_rfl) (by rfl) (q1q (l:=[]) (by kernel_rfl) trivial) (by decide) (fun _=>rfl) (fun x r h=>(qrA x.1 x.2.1).trans h)
theorem n61 {T:Told} (H:qab T):qak T Tryz.prog (envL e61):=q5q (l:=e61) ⟨ok60 H,ok63 H,trivial⟩
theorem ok61 {T:Told} (H:qab T):qai T Tryz.prog 61 c61 :=
 qax H.ty (n61 H) hm (lh:=qmw) (ct:=c61) (dcd:=fun y=>(y.2.1)) Tryz.func61 (by kernel_rfl) (by rfl) (q1q (l:=[]) (by kernel_rfl) trivial) (by decide) (fun _=>rfl) (fun x r h=>(qqF x.1).trans h)
theorem n35 {T:Told} (H:qab T):qak T Tryz.prog (envL e35):=q5q (l:=e35) ⟨ok16 H,ok41 H,ok60 H,ok61 H,trivial⟩
theorem ok35 {T:Told} (H:qab T):qai T Tryz.prog 35 c35 :=
 qax H.ty (n35 H) hm (lh:=qmA) (ct:=c35) (dcd:=fun y=>(y.2.1)) Tryz.func35 (by kernel_rfl) (by rfl) (q1q (l:=[]) (by kernel_rfl) trivial) (by decide) (fun _=>rfl) (fun x r h=>(qqP x.1).trans h)
theorem n80 {T:Told} (H:qab T):qak T Tryz.prog (envL e80):=q5q (l:=e80) ⟨ok61 H,trivial⟩
theorem ok80 {T:Told} (H:qab T):qai T Tryz.prog 80 c80 :=
 qax H.ty (n80 H) hm (lh:=qnb) (ct:=c80) (dcd:=fun y=>(y.2.1)) Tryz.func80 (by kernel_rfl) (by rfl) (q1q (l:=[]) (by kernel_rfl) trivial) (by decide) (fun _=>rfl) (fun x r h=>(qrB x.1).trans h)
theorem n110 {T:Told} (H:qab T):qak T Tryz.prog (envL e110):=q5q (l:=e110) ⟨ok35 H,ok80 H,trivial⟩
theorem qCH {T:Told} (H:qab T):qai T Tryz.prog 110 c110 :=
 qax H.ty (n110 H) hm (lh:=qno) (ct:=c110) (dcd:=fun y=>(y.2.1)) Tryz.func110 (by kernel_rfl) (by rfl) (q1q (l:=[]) (by kernel_rfl) trivial) (by decide) (fun _=>rfl) (fun x r h=>(qrU x.1).trans h)
theorem n77 {T:Told} (H:qab T):qak T Tryz.prog (envL e77):=q5q (l:=e77) ⟨qCH H,trivial⟩
theorem qpF {T:Told} (H:qab T):q12q T Tryz.prog 19 (.loop (q3q 2 (q4q Tryz.f77) .skip)) ⟨qdZ,qeS,lp qbp K0⟩ :=
 q7q H.ty (n77 H) hm (q1q (l:=[]) (by kernel_rfl) trivial) qpG K0
theorem ok77 {T:Told} (H:qab T):qai T Tryz.prog 77 c77 :=
 qax H.ty (n77 H) hm (lh:=qio) (ct:=c77) (dcd:=fun y=>(y.2.1,y.2.2.1)) Tryz.func77 (by kernel_rfl) (by rfl) (q1q (l:=[(.loop (q3q 2 (q4q Tryz.f77) .skip),⟨qdZ,qeS,lp qbp K0⟩)]) (by kernel_rfl) ⟨qpF H,trivial⟩) (by decide) (fun _=>rfl) (fun x r h=>(qpH x.1).trans h)
theorem n62 {T:Told} (H:qab T):qak T Tryz.prog (envL e62):=q5q (l:=e62) ⟨ok60 H,ok92 H,trivial⟩
theorem ok62 {T:Told} (H:qab T):qai T Tryz.prog 62 c62 :=
 qax H.ty (n62 H) hm (lh:=qrf) (ct:=c62) (dcd:=fun y=>(y.2.1)) Tryz.func62 (by kernel_rfl) (by rfl) (q1q (l:=[]) (by kernel_rfl) trivial) (by decide) (fun _=>rfl) (fun x r h=>(qwJ x.1 x.2.1).trans h)
theorem n36 {T:Told} (H:qab T):qak T Tryz.prog (envL e36):=q5q (l:=e36) ⟨ok61 H,ok62 H,trivial⟩
theorem ok36 {T:Told} (H:qab T):qai T Tryz.prog 36 c36 :=
 qax H.ty (n36 H) hm (lh:=qoE) (ct:=c36) (dcd:=fun y=>(y.2.1)) Tryz.func36 (by kernel_rfl) (by rfl) (q1q (l:=[]) (by kernel_rfl) trivial) (by decide) (fun _=>rfl) (fun x r h=>(qsE x.1 x.2.1).trans h)
theorem n43 {T:Told} (H:qab T):qak T Tryz.prog (envL e43):=q5q (l:=e43) ⟨ok60 H,ok66 H,trivial⟩
theorem qwD {T:Told} (H:qab T):q12q T Tryz.prog 67 (.loop (q3q 8 (q4q Tryz.f43) .skip)) ⟨qii,qjK,lp qfg K0⟩ :=
 q7q H.ty (n43 H) hm (q1q (l:=[]) (by kernel_rfl) trivial) qwF K0
theorem qwE {T:Told} (H:qab T):q12q T Tryz.prog 67 (.loop (q3q 4 (q4q Tryz.f43) .skip)) ⟨qij,qjL,lp qf8 K0⟩ :=
 q7q H.ty (n43 H) hm (q1q (l:=[(.loop (q3q 8 (q4q Tryz.f43) .skip),⟨qii,qjK,lp qfg K0⟩)]) (by kernel_rfl) ⟨qwD H,trivial⟩) qwG K0
theorem ok43 {T:Told} (H:qab T):qai T Tryz.prog 43 c43 :=
 qax H.ty (n43 H) hm (lh:=qma) (ct:=c43) (dcd:=fun y=>(y.2.1)) Tryz.func43 (by kernel_rfl) (by rfl) (q1q (l:=[(.loop (q3q 4 (q4q Tryz.f43) .skip),⟨qij,qjL,lp qf8 K0⟩)]) (by kernel_rfl) ⟨qwE H,trivial⟩) (by decide) (fun _=>rfl) (fun x r h=>(qwH x.1 x.2.1).trans h)
theorem n37 {T:Told} (H:qab T):qak T Tryz.prog (envL e37):=q5q (l:=e37) ⟨ok43 H,ok61 H,ok63 H,trivial⟩
theorem ok37 {T:Told} (H:qab T):qai T Tryz.prog 37 c37 :=
 qax H.ty (n37 H) hm (lh:=qoD) (ct:=c37) (dcd:=fun y=>(y.2.1)) Tryz.func37 (by kernel_rfl) (by rfl) (q1q (l:=[]) (by kernel_rfl) trivial) (by decide) (fun _=>rfl) (fun x r h=>(qsD x.1 x.2.1).trans h)
theorem n38 {T:Told} (H:qab T):qak T Tryz.prog (envL e38):=q5q (l:=e38) trivial
theorem ok38 {T:Told} (H:qab T):qai T Tryz.prog 38 c38 :=
 qax H.ty (n38 H) hm (lh:=qoK) (ct:=c38) (dcd:=fun y=>(y.2.1)) Tryz.func38 (by kernel_rfl) (by rfl) (q1q (l:=[]) (by kernel_rfl) trivial) (by decide) (fun _=>rfl) (fun x r h=>(qsT x.1).trans h)
theorem n13 {T:Told} (H:qab T):qak T Tryz.prog (envL e13):=q5q (l:=e13) ⟨ok35 H,ok36 H,ok37 H,ok38 H,trivial⟩
theorem ok13 {T:Told} (H:qab T):qai T Tryz.prog 13 c13 :=
 qax H.ty (n13 H) hm (lh:=qoT) (ct:=c13) (dcd:=fun y=>(y.2.1)) Tryz.func13 (by kernel_rfl) (by rfl) (q1q (l:=[]) (by kernel_rfl) trivial) (by decide) (fun _=>rfl) (fun x r h=>(qs5 x.1 x.2.1).trans h)
theorem n17 {T:Told} (H:qab T):qak T Tryz.prog (envL e17):=q5q (l:=e17) ⟨ok13 H,trivial⟩
theorem ok17 {T:Told} (H:qab T):qai T Tryz.prog 17 c17 :=
 qax H.ty (n17 H) hm (lh:=qnp) (ct:=c17) (dcd:=fun y=>(y.2.1)) Tryz.func17 (by kernel_rfl) (by rfl) (q1q (l:=[]) (by kernel_rfl) trivial) (by decide) (fun _=>rfl) (fun x r h=>(qrW x.1 x.2.1).trans h)
theorem n69 {T:Told} (H:qab T):qak T Tryz.prog (envL e69):=q5q (l:=e69) ⟨ok60 H,ok66 H,qx7 H,trivial⟩
theorem qwK {T:Told} (H:qab T):q12q T Tryz.prog 43 (.loop (q3q 5 (q4q Tryz.f69) .skip)) ⟨qik,qjM,lp qga K0⟩ :=
 q7q H.ty (n69 H) hm (q1q (l:=[]) (by kernel_rfl) trivial) qwL K0
theorem ok69 {T:Told} (H:qab T):qai T Tryz.prog 69 c69 :=
 qax H.ty (n69 H) hm (lh:=qof) (ct:=c69) (dcd:=fun y=>(y.2.1)) Tryz.func69 (by kernel_rfl) (by rfl) (q1q (l:=[(.loop (q3q 5 (q4q Tryz.f69) .skip),⟨qik,qjM,lp qga K0⟩)]) (by kernel_rfl) ⟨qwK H,trivial⟩) (by decide) (fun _=>rfl) (fun x r h=>(qwM x.1 x.2.1).trans h)
theorem n70 {T:Told} (H:qab T):qak T Tryz.prog (envL e70):=q5q (l:=e70) ⟨ok60 H,ok92 H,qCI H,trivial⟩
theorem ok70 {T:Told} (H:qab T):qai T Tryz.prog 70 c70 :=
 qax H.ty (n70 H) hm (lh:=qre) (ct:=c70) (dcd:=fun y=>(y.2.1,y.2.2.1)) Tryz.func70 (by kernel_rfl) (by rfl) (q1q (l:=[]) (by kernel_rfl) trivial) (by decide) (fun _=>rfl) (fun x r h=>(qwC x.1 x.2.1).trans h)
theorem n42 {T:Told} (H:qab T):qak T Tryz.prog (envL e42):=q5q (l:=e42) ⟨ok61 H,ok62 H,ok63 H,ok69 H,ok70 H,trivial⟩
theorem ok42 {T:Told} (H:qab T):qai T Tryz.prog 42 c42 :=
 qax H.ty (n42 H) hm (lh:=qoF) (ct:=c42) (dcd:=fun y=>(y.2.1)) Tryz.func42 (by kernel_rfl) (by rfl) (q1q (l:=[]) (by kernel_rfl) trivial) (by decide) (fun _=>rfl) (fun x r h=>(qsF x.1 x.2.1).trans h)
theorem n19 {T:Told} (H:qab T):qak T Tryz.prog (envL e19):=q5q (l:=e19) ⟨ok35 H,ok37 H,ok38 H,ok41 H,ok42 H,ok43 H,trivial⟩
theorem ok19 {T:Told} (H:qab T):qai T Tryz.prog 19 c19 :=
 qax H.ty (n19 H) hm (lh:=qoU) (ct:=c19) (dcd:=fun y=>(y.2.1)) Tryz.func19 (by kernel_rfl) (by rfl) (q1q (l:=[]) (by kernel_rfl) trivial) (by decide) (fun _=>rfl) (fun x r h=>(qs6 x.1 x.2.1).trans h)
theorem n78 {T:Told} (H:qab T):qak T Tryz.prog (envL e78):=q5q (l:=e78) ⟨ok17 H,ok19 H,trivial⟩
theorem qrC {T:Told} (H:qab T):q12q T Tryz.prog 37 (.loop (q3q 2 (q4q Tryz.f78) .skip)) ⟨qe9,qgg,lp qbL K0⟩ :=
 q7q H.ty (n78 H) hm (q1q (l:=[]) (by kernel_rfl) trivial) qrD K0
theorem ok78 {T:Told} (H:qab T):qai T Tryz.prog 78 c78 :=
 qax H.ty (n78 H) hm (lh:=qjW) (ct:=c78) (dcd:=fun y=>(y.2.1,y.2.2.1)) Tryz.func78 (by kernel_rfl) (by rfl) (q1q (l:=[(.loop (q3q 2 (q4q Tryz.f78) .skip),⟨qe9,qgg,lp qbL K0⟩)]) (by kernel_rfl) ⟨qrC H,trivial⟩) (by decide) (fun _=>rfl) (fun x r h=>(qrE x.1).trans h)
theorem n79 {T:Told} (H:qab T):qak T Tryz.prog (envL e79):=q5q (l:=e79) trivial
theorem ok79 {T:Told} (H:qab T):qai T Tryz.prog 79 c79 :=
 qax H.ty (n79 H) hm (lh:=qmx) (ct:=c79) (dcd:=fun y=>(y.2.1)) Tryz.func79 (by kernel_rfl) (by rfl) (q1q (l:=[]) (by kernel_rfl) trivial) (by decide) (fun _=>rfl) (fun x r h=>(qqJ x.1 x.2.1 x.2.2.1).trans h)
theorem n50 {T:Told} (H:qab T):qak T Tryz.prog (envL e50):=q5q (l:=e50) ⟨ok74 H,ok75 H,ok76 H,ok77 H,ok78 H,ok79 H,trivial⟩
theorem qqK {T:Told} (H:qab T):q12q T Tryz.prog 63 (.loop (q3q 7 (q4q Tryz.f50) .skip)) ⟨qez,qfw,lp qaH K0⟩ :=
 q7q H.ty (n50 H) hm (q1q (l:=[]) (by kernel_rfl) trivial) qqM K0
theorem qqL {T:Told} (H:qab T):q12q T Tryz.prog 63 (.loop (q3q 4 (q4q Tryz.f50) .skip)) ⟨qeA,qfx,lp qbJ K0⟩ :=
 q7q H.ty (n50 H) hm (q1q (l:=[(.loop (q3q 7 (q4q Tryz.f50) .skip),⟨qez,qfw,lp qaH K0⟩)]) (by kernel_rfl) ⟨qqK H,trivial⟩) qqN K0
theorem ok50 {T:Told} (H:qab T):qai T Tryz.prog 50 c50 :=
 qax H.ty (n50 H) hm (lh:=qhg) (ct:=c50) (dcd:=fun y=>(y.2.1)) Tryz.func50 (by kernel_rfl) (by rfl) (q1q (l:=[(.loop (q3q 4 (q4q Tryz.f50) .skip),⟨qeA,qfx,lp qbJ K0⟩)]) (by kernel_rfl) ⟨qqL H,trivial⟩) (by decide) (fun _=>rfl) (fun x r h=>(qqO x.1).trans h)
theorem n25 {T:Told} (H:qab T):qak T Tryz.prog (envL e25):=q5q (l:=e25) ⟨ok50 H,trivial⟩
theorem ok25 {T:Told} (H:qab T):qai T Tryz.prog 25 c25 :=
 qax H.ty (n25 H) hm (lh:=qpI) (ct:=c25) (dcd:=fun y=>(y.2.1)) Tryz.func25 (by kernel_rfl) (by rfl) (q1q (l:=[]) (by kernel_rfl) trivial) (by decide) (fun _=>rfl) (fun x r h=>(quh x.1).trans h)
theorem n44 {T:Told} (H:qab T):qak T Tryz.prog (envL e44):=q5q (l:=e44) ⟨ok25 H,trivial⟩
theorem ok44 {T:Told} (H:qab T):qai T Tryz.prog 44 c44 :=
 qax H.ty (n44 H) hm (lh:=qnh) (ct:=c44) (dcd:=fun y=>(y.2.1)) Tryz.func44 (by kernel_rfl) (by rfl) (q1q (l:=[]) (by kernel_rfl) trivial) (by decide) (fun _=>rfl) (fun x r h=>(qrP x.1 x.2.1).trans h)
theorem n29 {T:Told} (H:qab T):qak T Tryz.prog (envL e29):=q5q (l:=e29) ⟨ok44 H,trivial⟩
theorem ok29 {T:Told} (H:qab T):qai T Tryz.prog 29 c29 :=
 qax H.ty (n29 H) hm (lh:=qnj) (ct:=c29) (dcd:=fun y=>(y.2.1)) Tryz.func29 (by kernel_rfl) (by rfl) (q1q (l:=[]) (by kernel_rfl) trivial) (by decide) (fun _=>rfl) (fun x r h=>(qrR x.1 x.2.1).trans h)
theorem n73 {T:Told} (H:qab T):qak T Tryz.prog (envL e73):=q5q (l:=e73) ⟨ok61 H,ok63 H,trivial⟩
theorem ok73 {T:Told} (H:qab T):qai T Tryz.prog 73 c73 :=
 qax H.ty (n73 H) hm (lh:=qoC) (ct:=c73) (dcd:=fun y=>(y.2.1)) Tryz.func73 (by kernel_rfl) (by rfl) (q1q (l:=[]) (by kernel_rfl) trivial) (by decide) (fun _=>rfl) (fun x r h=>(qsC x.1).trans h)
theorem n47 {T:Told} (H:qab T):qak T Tryz.prog (envL e47):=q5q (l:=e47) ⟨ok35 H,ok73 H,trivial⟩
theorem ok47 {T:Told} (H:qab T):qai T Tryz.prog 47 c47 :=
 qax H.ty (n47 H) hm (lh:=qoO) (ct:=c47) (dcd:=fun y=>(y.2.1)) Tryz.func47 (by kernel_rfl) (by rfl) (q1q (l:=[]) (by kernel_rfl) trivial) (by decide) (fun _=>rfl) (fun x r h=>(qs0 x.1).trans h)
theorem n22 {T:Told} (H:qab T):qak T Tryz.prog (envL e22):=q5q (l:=e22) ⟨ok19 H,ok47 H,trivial⟩
theorem ok22 {T:Told} (H:qab T):qai T Tryz.prog 22 c22 :=
 qax H.ty (n22 H) hm (lh:=qoL) (ct:=c22) (dcd:=fun y=>(y.2.1)) Tryz.func22 (by kernel_rfl) (by rfl) (q1q (l:=[]) (by kernel_rfl) trivial) (by decide) (fun _=>rfl) (fun x r h=>(qsY x.1 x.2.1).trans h)
theorem n51 {T:Told} (H:qab T):qak T Tryz.prog (envL e51):=q5q (l:=e51) ⟨ok40 H,ok63 H,trivial⟩
theorem ok51 {T:Told} (H:qab T):qai T Tryz.prog 51 c51 :=
 qax H.ty (n51 H) hm (lh:=qpv) (ct:=c51) (dcd:=fun y=>(y.2.1)) Tryz.func51 (by kernel_rfl) (by rfl) (q1q (l:=[]) (by kernel_rfl) trivial) (by decide) (fun _=>rfl) (fun x r h=>(qug x.1).trans h)
theorem n52 {T:Told} (H:qab T):qak T Tryz.prog (envL e52):=q5q (l:=e52) ⟨ok41 H,ok61 H,ok73 H,ok80 H,trivial⟩
theorem ok52 {T:Told} (H:qab T):qai T Tryz.prog 52 c52 :=
 qax H.ty (n52 H) hm (lh:=qnr) (ct:=c52) (dcd:=fun y=>(y.2.1,y.2.2.1)) Tryz.func52 (by kernel_rfl) (by rfl) (q1q (l:=[]) (by kernel_rfl) trivial) (by decide) (fun _=>rfl) (fun x r h=>(qrX x.1 x.2.1).trans h)
theorem n28 {T:Told} (H:qab T):qak T Tryz.prog (envL e28):=q5q (l:=e28) ⟨ok35 H,ok51 H,ok52 H,trivial⟩
theorem ok28 {T:Told} (H:qab T):qai T Tryz.prog 28 c28 :=
 qax H.ty (n28 H) hm (lh:=qnt) (ct:=c28) (dcd:=fun y=>(y.2.1)) Tryz.func28 (by kernel_rfl) (by rfl) (q1q (l:=[]) (by kernel_rfl) trivial) (by decide) (fun _=>rfl) (fun x r h=>(qrY x.1 x.2.1).trans h)
theorem n64 {T:Told} (H:qab T):qak T Tryz.prog (envL e64):=q5q (l:=e64) ⟨ok16 H,trivial⟩
theorem qn8 {T:Told} (H:qab T):q12q T Tryz.prog 13 (.loop (q3q 3 (q4q Tryz.f64) .skip)) ⟨qdd,qd2,lp qbt K0⟩ :=
 q7q H.ty (n64 H) hm (q1q (l:=[]) (by kernel_rfl) trivial) qn9 K0
theorem ok64 {T:Told} (H:qab T):qai T Tryz.prog 64 c64 :=
 qax H.ty (n64 H) hm (lh:=qg5) (ct:=c64) (dcd:=fun y=>(y.2.1)) Tryz.func64 (by kernel_rfl) (by rfl) (q1q (l:=[(.loop (q3q 3 (q4q Tryz.f64) .skip),⟨qdd,qd2,lp qbt K0⟩)]) (by kernel_rfl) ⟨qn8 H,trivial⟩) (by decide) (fun _=>rfl) (fun x r h=>(qoa x.1).trans h)
theorem n27 {T:Told} (H:qab T):qak T Tryz.prog (envL e27):=q5q (l:=e27) ⟨ok40 H,ok51 H,trivial⟩
theorem ok27 {T:Told} (H:qab T):qai T Tryz.prog 27 c27 :=
 qax H.ty (n27 H) hm (lh:=qpX) (ct:=c27) (dcd:=fun y=>(y.2.1)) Tryz.func27 (by kernel_rfl) (by rfl) (q1q (l:=[]) (by kernel_rfl) trivial) (by decide) (fun _=>rfl) (fun x r h=>(quu x.1).trans h)
theorem n26 {T:Told} (H:qab T):qak T Tryz.prog (envL e26):=q5q (l:=e26) ⟨ok27 H,trivial⟩
theorem ok26 {T:Told} (H:qab T):qai T Tryz.prog 26 c26 :=
 qax H.ty (n26 H) hm (lh:=qoM) (ct:=c26) (dcd:=fun y=>(y.2.1)) Tryz.func26 (by kernel_rfl) (by rfl) (q1q (l:=[]) (by kernel_rfl) trivial) (by decide) (fun _=>rfl) (fun x r h=>(qsZ ).trans h)
theorem n93 {T:Told} (H:qab T):qak T Tryz.prog (envL e93):=q5q (l:=e93) ⟨ok26 H,trivial⟩
theorem ok93 {T:Told} (H:qab T):qai T Tryz.prog 93 c93 :=
 qjQ H.ty (n93 H) hm (lh:=qkZ) (ct:=c93) (wi:=w93) (dcd:=fun y=>(y.2.1)) Tryz.func93 (by kernel_rfl) (by rfl) (q1q (l:=[]) (by kernel_rfl) trivial) (fun _=>rfl) rfl (fun x r h=>(qp5 ).trans h)
theorem n54 {T:Told} (H:qab T):qak T Tryz.prog (envL e54):=q5q (l:=e54) ⟨ok35 H,ok37 H,ok41 H,ok43 H,trivial⟩
theorem ok54 {T:Told} (H:qab T):qai T Tryz.prog 54 c54 :=
 qax H.ty (n54 H) hm (lh:=qoP) (ct:=c54) (dcd:=fun y=>(y.2.1)) Tryz.func54 (by kernel_rfl) (by rfl) (q1q (l:=[]) (by kernel_rfl) trivial) (by decide) (fun _=>rfl) (fun x r h=>(qs1 x.1 x.2.1).trans h)
theorem n114 {T:Told} (H:qab T):qak T Tryz.prog (envL e114):=q5q (l:=e114) trivial
theorem qkV {T:Told} (H:qab T):q12q T Tryz.prog 29 (.loop (q3q 4 (q4q Tryz.f114) .skip)) ⟨qbT,qcC,lp qam K0⟩ :=
 q7q H.ty (n114 H) hm (q1q (l:=[]) (by kernel_rfl) trivial) qkW K0
theorem qCF {T:Told} (H:qab T):qai T Tryz.prog 114 c114 :=
 qjQ H.ty (n114 H) hm (lh:=qeW) (ct:=c114) (wi:=w114) (dcd:=fun y=>(y.2.1,y.2.2.1)) Tryz.func114 (by kernel_rfl) (by rfl) (q1q (l:=[(.loop (q3q 4 (q4q Tryz.f114) .skip),⟨qbT,qcC,lp qam K0⟩)]) (by kernel_rfl) ⟨qkV H,trivial⟩) (fun _=>rfl) rfl (fun x r h=>(qkX x.1 x.2.1).trans h)
theorem n115 {T:Told} (H:qab T):qak T Tryz.prog (envL e115):=q5q (l:=e115) trivial
theorem qkD {T:Told} (H:qab T):q12q T Tryz.prog 32 (.loop (q3q 5 (q4q Tryz.f115) .skip)) ⟨qbI,qct,lp qaF K0⟩ :=
 q7q H.ty (n115 H) hm (q1q (l:=[]) (by kernel_rfl) trivial) qkE K0
theorem qCE {T:Told} (H:qab T):qai T Tryz.prog 115 c115 :=
 qjQ H.ty (n115 H) hm (lh:=qeF) (ct:=c115) (wi:=w115) (dcd:=fun y=>(y.2.1,y.2.2.1)) Tryz.func115 (by kernel_rfl) (by rfl) (q1q (l:=[(.loop (q3q 5 (q4q Tryz.f115) .skip),⟨qbI,qct,lp qaF K0⟩)]) (by kernel_rfl) ⟨qkD H,trivial⟩) (fun _=>rfl) rfl (fun x r h=>(qkF x.1).trans h)
theorem n128 {T:Told} (H:qab T):qak T Tryz.prog (envL e128):=q5q (l:=e128) ⟨ok35 H,ok38 H,ok52 H,trivial⟩
theorem qCC {T:Told} (H:qab T):qai T Tryz.prog 128 c128 :=
 qax H.ty (n128 H) hm (lh:=qoR) (ct:=c128) (dcd:=fun y=>(y.2.1,y.2.2.1)) Tryz.func128 (by kernel_rfl) (by rfl) (q1q (l:=[]) (by kernel_rfl) trivial) (by decide) (fun _=>rfl) (fun x r h=>(qs2 x.1).trans h)
theorem n127 {T:Told} (H:qab T):qak T Tryz.prog (envL e127):=q5q (l:=e127) ⟨ok22 H,ok28 H,ok54 H,qCC H,trivial⟩
theorem qjx {T:Told} (H:qab T):q12q T Tryz.prog 104 (.loop (q3q 7 (q4q Tryz.f127) .skip)) ⟨qbk,qbR,lp qap K0⟩ :=
 q7q H.ty (n127 H) hm (q1q (l:=[]) (by kernel_rfl) trivial) qjy K0
theorem qCD {T:Told} (H:qab T):qai T Tryz.prog 127 c127 :=
 qjQ H.ty (n127 H) hm (lh:=qd4) (ct:=c127) (wi:=w127) (dcd:=fun y=>(y.2.1,y.2.2.1)) Tryz.func127 (by kernel_rfl) (by rfl) (q1q (l:=[(.loop (q3q 7 (q4q Tryz.f127) .skip),⟨qbk,qbR,lp qap K0⟩)]) (by kernel_rfl) ⟨qjx H,trivial⟩) (fun _=>rfl) rfl (fun x r h=>(qjz x.1 x.2.1).trans h)
theorem n116 {T:Told} (H:qab T):qak T Tryz.prog (envL e116):=q5q (l:=e116) ⟨qCD H,trivial⟩
theorem qj8 {T:Told} (H:qab T):q12q T Tryz.prog 66 (.loop (q3q 8 (q4q Tryz.f116) .skip)) ⟨qbx,qcg,lp qaA K0⟩ :=
 q7q H.ty (n116 H) hm (q1q (l:=[]) (by kernel_rfl) trivial) qj9 K0
theorem qDs {T:Told} (H:qab T):qai T Tryz.prog 116 c116 :=
 qjQ H.ty (n116 H) hm (lh:=qel) (ct:=c116) (wi:=w116) (dcd:=fun y=>(y.2.1,y.2.2.1)) Tryz.func116 (by kernel_rfl) (by rfl) (q1q (l:=[(.loop (q3q 8 (q4q Tryz.f116) .skip),⟨qbx,qcg,lp qaA K0⟩)]) (by kernel_rfl) ⟨qj8 H,trivial⟩) (fun _=>rfl) rfl (fun x r h=>(qka x.1 x.2.1).trans h)
theorem n117 {T:Told} (H:qab T):qak T Tryz.prog (envL e117):=q5q (l:=e117) ⟨ok16 H,ok19 H,ok28 H,ok35 H,ok54 H,qCH H,qCF H,trivial⟩
theorem qjA {T:Told} (H:qab T):q12q T Tryz.prog 113 (.loop (q3q 10 (q4q Tryz.f117) .skip)) ⟨qbl,qbU,lp qaq K0⟩ :=
 q7q H.ty (n117 H) hm (q1q (l:=[]) (by kernel_rfl) trivial) qjB K0
theorem qDr {T:Told} (H:qab T):qai T Tryz.prog 117 c117 :=
 qjQ H.ty (n117 H) hm (lh:=qem) (ct:=c117) (wi:=w117) (dcd:=fun y=>(y.2.1,y.2.2.1)) Tryz.func117 (by kernel_rfl) (by rfl) (q1q (l:=[(.loop (q3q 10 (q4q Tryz.f117) .skip),⟨qbl,qbU,lp qaq K0⟩)]) (by kernel_rfl) ⟨qjA H,trivial⟩) (fun _=>rfl) rfl (fun x r h=>(qkb x.1 x.2.1 x.2.2.1 x.2.2.2.1).trans h)
theorem n94 {T:Told} (H:qab T):qak T Tryz.prog (envL e94):=q5q (l:=e94) ⟨ok54 H,qCF H,qCE H,qDs H,qDr H,trivial⟩
theorem ok94 {T:Told} (H:qab T):qai T Tryz.prog 94 c94 :=
 qjQ H.ty (n94 H) hm (lh:=qgR) (ct:=c94) (wi:=w94) (dcd:=fun y=>(y.2.1,y.2.2.1,y.2.2.2.1,y.2.2.2.2.1,y.2.2.2.2.2.1,y.2.2.2.2.2.2.1,y.2.2.2.2.2.2.2.1,y.2.2.2.2.2.2.2.2.1,y.2.2.2.2.2.2.2.2.2.1,y.2.2.2.2.2.2.2.2.2.2.1)) Tryz.func94 (by kernel_rfl) (by rfl) (q1q (l:=[]) (by kernel_rfl) trivial) (fun _=>rfl) rfl (fun x r h=>(qkC x.1 x.2.1 x.2.2.1 x.2.2.2.1 x.2.2.2.2.1 x.2.2.2.2.2.1 x.2.2.2.2.2.2.1 x.2.2.2.2.2.2.2.1 x.2.2.2.2.2.2.2.2.1 x.2.2.2.2.2.2.2.2.2.1).trans h)
theorem n18 {T:Told} (H:qab T):qak T Tryz.prog (envL e18):=q5q (l:=e18) ⟨ok16 H,ok19 H,trivial⟩
theorem qsU {T:Told} (H:qab T):q12q T Tryz.prog 18 (.loop (q3q 3 (q4q Tryz.f18) .skip)) ⟨qfW,qhl,lp qdy K0⟩ :=
 q7q H.ty (n18 H) hm (q1q (l:=[]) (by kernel_rfl) trivial) qsW K0
theorem ok18 {T:Told} (H:qab T):qai T Tryz.prog 18 c18 :=
 qax H.ty (n18 H) hm (lh:=qkT) (ct:=c18) (dcd:=fun y=>(y.2.1)) Tryz.func18 (by kernel_rfl) (by rfl) (q1q (l:=[(.loop (q3q 3 (q4q Tryz.f18) .skip),⟨qfW,qhl,lp qdy K0⟩)]) (by kernel_rfl) ⟨qsU H,trivial⟩) (by decide) (fun _=>rfl) (fun x r h=>(qsX x.1).trans h)
theorem n118 {T:Told} (H:qab T):qak T Tryz.prog (envL e118):=q5q (l:=e118) ⟨ok18 H,qCD H,trivial⟩
theorem qDq {T:Told} (H:qab T):qai T Tryz.prog 118 c118 :=
 qjQ H.ty (n118 H) hm (lh:=qhR) (ct:=c118) (wi:=w118) (dcd:=fun y=>(y.2.1,y.2.2.1,y.2.2.2.1)) Tryz.func118 (by kernel_rfl) (by rfl) (q1q (l:=[]) (by kernel_rfl) trivial) (fun _=>rfl) rfl (fun x r h=>(qmg x.1 x.2.1).trans h)
theorem n95 {T:Told} (H:qab T):qak T Tryz.prog (envL e95):=q5q (l:=e95) ⟨ok19 H,ok26 H,ok47 H,ok54 H,qCE H,qDq H,trivial⟩
theorem qj5 {T:Told} (H:qab T):q12q T Tryz.prog 69 (.loop (q3q 3 (q4q Tryz.f95) .skip)) ⟨qbw,qce,lp qas K0⟩ :=
 q7q H.ty (n95 H) hm (q1q (l:=[]) (by kernel_rfl) trivial) qj6 K0
theorem ok95 {T:Told} (H:qab T):qai T Tryz.prog 95 c95 :=
 qjQ H.ty (n95 H) hm (lh:=qek) (ct:=c95) (wi:=w95) (dcd:=fun y=>(y.1.1,y.2.1,y.2.2.1,y.2.2.2.1,y.2.2.2.2.1,y.2.2.2.2.2.1)) Tryz.func95 (by kernel_rfl) (by rfl) (q1q (l:=[(.loop (q3q 3 (q4q Tryz.f95) .skip),⟨qbw,qce,lp qas K0⟩)]) (by kernel_rfl) ⟨qj5 H,trivial⟩) (fun _=>rfl) rfl (fun x r h=>(qj7 x.1 x.2.1 x.2.2.1 x.2.2.2.1 x.2.2.2.2.1 x.2.2.2.2.2.1 x.2.2.2.2.2.2.1 x.2.2.2.2.2.2.2.1 x.2.2.2.2.2.2.2.2.1 x.2.2.2.2.2.2.2.2.2.1 x.2.2.2.2.2.2.2.2.2.2.1 x.2.2.2.2.2.2.2.2.2.2.2.1 x.2.2.2.2.2.2.2.2.2.2.2.2.1 x.2.2.2.2.2.2.2.2.2.2.2.2.2.1 x.2.2.2.2.2.2.2.2.2.2.2.2.2.2.1).trans h)
theorem n106 {T:Told} (H:qab T):qak T Tryz.prog (envL e106):=q5q (l:=e106) ⟨ok13 H,trivial⟩
theorem qDv {T:Told} (H:qab T):qai T Tryz.prog 106 c106 :=
 qax H.ty (n106 H) hm (lh:=qng) (ct:=c106) (dcd:=fun y=>(y.2.1)) Tryz.func106 (by kernel_rfl) (by rfl) (q1q (l:=[]) (by kernel_rfl) trivial) (by decide) (fun _=>rfl) (fun x r h=>(qrO x.1 x.2.1).trans h)
theorem n109 {T:Told} (H:qab T):qak T Tryz.prog (envL e109):=q5q (l:=e109) ⟨qDv H,trivial⟩
theorem qDu {T:Told} (H:qab T):qai T Tryz.prog 109 c109 :=
 qax H.ty (n109 H) hm (lh:=qni) (ct:=c109) (dcd:=fun y=>(y.2.1)) Tryz.func109 (by kernel_rfl) (by rfl) (q1q (l:=[]) (by kernel_rfl) trivial) (by decide) (fun _=>rfl) (fun x r h=>(qrQ x.1 x.2.1).trans h)
theorem n119 {T:Told} (H:qab T):qak T Tryz.prog (envL e119):=q5q (l:=e119) ⟨ok54 H,qCC H,trivial⟩
theorem qDp {T:Told} (H:qab T):qai T Tryz.prog 119 c119 :=
 qax H.ty (n119 H) hm (lh:=qoS) (ct:=c119) (dcd:=fun y=>(y.2.1,y.2.2.1)) Tryz.func119 (by kernel_rfl) (by rfl) (q1q (l:=[]) (by kernel_rfl) trivial) (by decide) (fun _=>rfl) (fun x r h=>(qs4 x.1 x.2.1).trans h)
theorem n120 {T:Told} (H:qab T):qak T Tryz.prog (envL e120):=q5q (l:=e120) trivial
theorem qDo {T:Told} (H:qab T):qai T Tryz.prog 120 c120 :=
 qjQ H.ty (n120 H) hm (lh:=qho) (ct:=c120) (wi:=w120) (dcd:=fun y=>(y.2.1,y.2.2.1)) Tryz.func120 (by kernel_rfl) (by rfl) (q1q (l:=[]) (by kernel_rfl) trivial) (fun _=>rfl) rfl (fun x r h=>(qkY x.1).trans h)
theorem n96 {T:Told} (H:qab T):qak T Tryz.prog (envL e96):=q5q (l:=e96) ⟨ok54 H,qDu H,qDp H,qDo H,trivial⟩
theorem ok96 {T:Told} (H:qab T):qai T Tryz.prog 96 c96 :=
 qjQ H.ty (n96 H) hm (lh:=qfX) (ct:=c96) (wi:=w96) (dcd:=fun y=>(y.1.1,y.2.1,y.2.2.1,y.2.2.2.1,y.2.2.2.2.1,y.2.2.2.2.2.1,y.2.2.2.2.2.2.1,y.2.2.2.2.2.2.2.1,y.2.2.2.2.2.2.2.2.1,y.2.2.2.2.2.2.2.2.2.1,y.2.2.2.2.2.2.2.2.2.2.1,y.2.2.2.2.2.2.2.2.2.2.2.1,y.2.2.2.2.2.2.2.2.2.2.2.2.1,y.2.2.2.2.2.2.2.2.2.2.2.2.2.1,y.2.2.2.2.2.2.2.2.2.2.2.2.2.2.1,y.2.2.2.2.2.2.2.2.2.2.2.2.2.2.2.1,y.2.2.2.2.2.2.2.2.2.2.2.2.2.2.2.2.1)) Tryz.func96 (by kernel_rfl) (by rfl) (q1q (l:=[]) (by kernel_rfl) trivial) (fun _=>rfl) rfl (fun x r h=>(qju x.1 x.2.1 x.2.2.1 x.2.2.2.1 x.2.2.2.2.1 x.2.2.2.2.2.1 x.2.2.2.2.2.2.1 x.2.2.2.2.2.2.2.1 x.2.2.2.2.2.2.2.2.1 x.2.2.2.2.2.2.2.2.2.1 x.2.2.2.2.2.2.2.2.2.2.1 x.2.2.2.2.2.2.2.2.2.2.2.1 x.2.2.2.2.2.2.2.2.2.2.2.2.1 x.2.2.2.2.2.2.2.2.2.2.2.2.2.1 x.2.2.2.2.2.2.2.2.2.2.2.2.2.2.1 x.2.2.2.2.2.2.2.2.2.2.2.2.2.2.2.1 x.2.2.2.2.2.2.2.2.2.2.2.2.2.2.2.2.1).trans h)
theorem n65 {T:Told} (H:qab T):qak T Tryz.prog (envL e65):=q5q (l:=e65) ⟨ok26 H,ok93 H,ok94 H,ok95 H,ok96 H,trivial⟩
theorem qj0 {T:Told} (H:qab T):q12q T Tryz.prog 91 (.loop (q3q 9 (q4q Tryz.f65) .skip)) ⟨qbu,qcc,lp qan K0⟩ :=
 q7q H.ty (n65 H) hm (q1q (l:=[]) (by kernel_rfl) trivial) qj2 K0
theorem qj1 {T:Told} (H:qab T):q12q T Tryz.prog 91 (.loop (q3q 1 (q4q Tryz.f65) .skip)) ⟨qbv,qcd,lp qar K0⟩ :=
 q7q H.ty (n65 H) hm (q1q (l:=[(.loop (q3q 9 (q4q Tryz.f65) .skip),⟨qbu,qcc,lp qan K0⟩)]) (by kernel_rfl) ⟨qj0 H,trivial⟩) qj3 K0
theorem ok65 {T:Told} (H:qab T):qai T Tryz.prog 65 c65 :=
 qjQ H.ty (n65 H) hm (lh:=qc5) (ct:=c65) (wi:=w65) (dcd:=fun y=>(y.1.1,y.2.1,y.2.2.1,y.2.2.2.1,y.2.2.2.2.1,y.2.2.2.2.2.1)) Tryz.func65 (by kernel_rfl) (by rfl) (q1q (l:=[(.loop (q3q 1 (q4q Tryz.f65) .skip),⟨qbv,qcd,lp qar K0⟩)]) (by kernel_rfl) ⟨qj1 H,trivial⟩) (fun _=>rfl) rfl (fun x r h=>(qj4 x.1 x.2.1 x.2.2.1 x.2.2.2.1 x.2.2.2.2.1 x.2.2.2.2.2.1).trans h)
theorem n39 {T:Told} (H:qab T):qak T Tryz.prog (envL e39):=q5q (l:=e39) ⟨ok64 H,ok65 H,trivial⟩
theorem qp2 {T:Told} (H:qab T):q12q T Tryz.prog 34 (.loop (q3q 3 (q4q Tryz.f39) .skip)) ⟨qd3,qeV,lp qcf K0⟩ :=
 q7q H.ty (n39 H) hm (q1q (l:=[]) (by kernel_rfl) trivial) qp3 K0
theorem ok39 {T:Told} (H:qab T):qai T Tryz.prog 39 c39 :=
 qax H.ty (n39 H) hm (lh:=qiu) (ct:=c39) (dcd:=fun y=>(y.2.1)) Tryz.func39 (by kernel_rfl) (by rfl) (q1q (l:=[(.loop (q3q 3 (q4q Tryz.f39) .skip),⟨qd3,qeV,lp qcf K0⟩)]) (by kernel_rfl) ⟨qp2 H,trivial⟩) (by decide) (fun _=>rfl) (fun x r h=>(qp4 x.1 x.2.1 x.2.2.1 x.2.2.2.1).trans h)
theorem n53 {T:Told} (H:qab T):qak T Tryz.prog (envL e53):=q5q (l:=e53) ⟨ok29 H,ok39 H,trivial⟩
theorem ok53 {T:Told} (H:qab T):qai T Tryz.prog 53 c53 :=
 qax H.ty (n53 H) hm (lh:=qjC) (ct:=c53) (dcd:=fun y=>(y.2.1,y.2.2.1)) Tryz.func53 (by kernel_rfl) (by rfl) (q1q (l:=[]) (by kernel_rfl) trivial) (by decide) (fun _=>rfl) (fun x r h=>(qob x.1 x.2.1 x.2.2.1 x.2.2.2.1).trans h)
theorem n30 {T:Told} (H:qab T):qak T Tryz.prog (envL e30):=q5q (l:=e30) ⟨ok22 H,ok28 H,ok53 H,ok54 H,trivial⟩
theorem qnL {T:Told} (H:qab T):q12q T Tryz.prog 48 (.loop (q3q 5 (q4q Tryz.f30) .skip)) ⟨qcQ,qdD,lp qbd K0⟩ :=
 q7q H.ty (n30 H) hm (q1q (l:=[]) (by kernel_rfl) trivial) qnM K0
theorem ok30 {T:Told} (H:qab T):qai T Tryz.prog 30 c30 :=
 qax H.ty (n30 H) hm (lh:=qgt) (ct:=c30) (dcd:=fun y=>(y.2.1)) Tryz.func30 (by kernel_rfl) (by rfl) (q1q (l:=[(.loop (q3q 5 (q4q Tryz.f30) .skip),⟨qcQ,qdD,lp qbd K0⟩)]) (by kernel_rfl) ⟨qnL H,trivial⟩) (by decide) (fun _=>rfl) (fun x r h=>(qnN x.1 x.2.1 x.2.2.1).trans h)
theorem n9 {T:Told} (H:qab T):qak T Tryz.prog (envL e9):=q5q (l:=e9) ⟨ok29 H,ok30 H,trivial⟩
theorem ok9 {T:Told} (H:qab T):qai T Tryz.prog 9 c9 :=
 qax H.ty (n9 H) hm (lh:=qkz) (ct:=c9) (dcd:=fun y=>(y.2.1,y.2.2.1)) Tryz.func9 (by kernel_rfl) (by rfl) (q1q (l:=[]) (by kernel_rfl) trivial) (by decide) (fun _=>rfl) (fun x r h=>(qpc x.1 x.2.1 x.2.2.1 x.2.2.2.1).trans h)
theorem n8 {T:Told} (H:qab T):qak T Tryz.prog (envL e8):=q5q (l:=e8) ⟨ok9 H,ok17 H,ok26 H,ok27 H,ok28 H,trivial⟩
theorem ql0 {r} (h:c8.F ()=r):qbg=r:=by
 subst h
 delta c8
 exact(@F_in [] _ _ (fun _=>qbg) _ _ () _ rfl).symm
theorem qlY (x) (r:c8.T) (h:c8.F x=some r):fnF tb (envL e8) Tryz.f8 qe8 c8.ps c8.rs (T:=c8.T) (fun y=>(y.2.1)) x=some r:=by
 cases x;exact qlZ.trans (ql0 h)
theorem ok8 {T:Told} (H:qab T):qai T Tryz.prog 8 c8 :=
 qax H.ty (n8 H) hm (lh:=qe8) (ct:=c8) (dcd:=fun y=>(y.2.1)) Tryz.func8 (by kernel_rfl) (by rfl) (q1q (l:=[]) (by kernel_rfl) trivial) (by decide) (fun _=>rfl) (fun x r h=>qlY x r h)
theorem n15 {T:Told} (H:qab T):qak T Tryz.prog (envL e15):=q5q (l:=e15) ⟨ok29 H,ok39 H,trivial⟩
theorem ok15 {T:Told} (H:qab T):qai T Tryz.prog 15 c15 :=
 qax H.ty (n15 H) hm (lh:=qiT) (ct:=c15) (dcd:=fun y=>(y.2.1,y.2.2.1)) Tryz.func15 (by kernel_rfl) (by rfl) (q1q (l:=[]) (by kernel_rfl) trivial) (by decide) (fun _=>rfl) (fun x r h=>(qnx x.1 x.2.1).trans h)
theorem qCO {T:Told} (H:qab T):qak T Tryz.prog (envL qAg):=q5q (l:=qAg) ⟨ok16 H,ok19 H,trivial⟩
theorem qpU {T:Told} (H:qab T):q12q T Tryz.prog 18 (.loop (q3q 3 (q4q Tryz.f18) .skip)) ⟨qd1,qeU,lp qcb K0⟩ :=
 q7q H.ty (qCO H) hm (q1q (l:=[]) (by kernel_rfl) trivial) qpV K0
theorem qCB {T:Told} (H:qab T):qai T Tryz.prog 18 qy1 :=
 qax H.ty (qCO H) hm (lh:=qir) (ct:=qy1) (dcd:=fun y=>(y.1.1,y.2.1)) Tryz.func18 (by kernel_rfl) (by rfl) (q1q (l:=[(.loop (q3q 3 (q4q Tryz.f18) .skip),⟨qd1,qeU,lp qcb K0⟩)]) (by kernel_rfl) ⟨qpU H,trivial⟩) (by decide) (fun _=>rfl) (fun x r h=>(qpW x.1).trans h)
theorem n31 {T:Told} (H:qab T):qak T Tryz.prog (envL e31):=q5q (l:=e31) ⟨ok16 H,trivial⟩
theorem qok {T:Told} (H:qab T):q12q T Tryz.prog 22 (.loop (q3q 6 (q4q Tryz.f31) .skip)) ⟨qdf,qd7,lp qbz K0⟩ :=
 q7q tyO (n31 H) hm (q1q (l:=[]) (by kernel_rfl) trivial) qom K0
theorem qol {T:Told} (H:qab T):q12q T Tryz.prog 22 (.loop (q3q 3 (q4q Tryz.f31) .skip)) ⟨qdg,qd8,lp qbA K0⟩ :=
 q7q tyO (n31 H) hm (q1q (l:=[(.loop (q3q 6 (q4q Tryz.f31) .skip),⟨qdf,qd7,lp qbz K0⟩)]) (by kernel_rfl) ⟨qok H,trivial⟩) qon K0
theorem ok31 {T:Told} (H:qab T):qai T Tryz.prog 31 c31 :=
 qax tyO (n31 H) hm (lh:=qfk) (ct:=c31) (dcd:=fun y=>(y.2.1)) Tryz.func31 (by kernel_rfl) (by rfl) (q1q (l:=[(.loop (q3q 3 (q4q Tryz.f31) .skip),⟨qdg,qd8,lp qbA K0⟩)]) (by kernel_rfl) ⟨qol H,trivial⟩) (by decide) (fun _=>rfl) (fun x r h=>(qoo x.1).trans h)
theorem ok32 {T:Told} (H:qab T):qai T Tryz.prog 32 c32:=qxo (ok25 H)
theorem n10 {T:Told} (H:qab T):qak T Tryz.prog (envL e10):=q5q (l:=e10) ⟨ok15 H,qCB H,ok22 H,ok30 H,ok31 H,ok32 H,trivial⟩
theorem qmR {T:Told} (H:qab T):q12q T Tryz.prog 91 (.loop (q3q 11 (q4q Tryz.f10) .skip)) ⟨qcx,qdl,lp qa5 K0⟩ :=
 q7q tyO (n10 H) hm (q1q (l:=[]) (by kernel_rfl) trivial) qmT K0
theorem qnO {T:Told} (H:qab T):q12q T Tryz.prog 91 (.loop (q3q 7 (q4q Tryz.f10) .skip)) ⟨qcR,qdE,lp qbe K0⟩ :=
 q7q tyO (n10 H) hm (q1q (l:=[(.loop (q3q 11 (q4q Tryz.f10) .skip),⟨qcx,qdl,lp qa5 K0⟩)]) (by kernel_rfl) ⟨qmR H,trivial⟩) qnP K0
theorem qmQ {T:Told} (H:qab T):q12q T Tryz.prog 91 (.loop (q3q 18 (q4q Tryz.f10) .skip)) ⟨qcw,qdk,lp qa4 K0⟩ :=
 q7q tyO (n10 H) hm (q1q (l:=[]) (by kernel_rfl) trivial) qmS K0
theorem ok10 {T:Told} (H:qab T):qai T Tryz.prog 10 c10 :=
 qax tyO (n10 H) hm (lh:=qdF) (ct:=c10) (dcd:=fun y=>(y.2.1,y.2.2.1)) Tryz.func10 (by kernel_rfl) (by rfl) (q1q (l:=[(.loop (q3q 7 (q4q Tryz.f10) .skip),⟨qcR,qdE,lp qbe K0⟩),(.loop (q3q 18 (q4q Tryz.f10) .skip),⟨qcw,qdk,lp qa4 K0⟩)]) (by kernel_rfl) ⟨qnO H,qmQ H,trivial⟩) (by decide) (fun _=>rfl) (fun x r h=>(qnQ x.1 x.2.1).trans h)
theorem n84 {T:Told} (H:qab T):qak T Tryz.prog (envL e84):=q5q (l:=e84) trivial
theorem qlK {T:Told} (H:qab T):q12q T Tryz.prog 14 (.loop (q3q 2 (q4q Tryz.f84) .skip)) ⟨qb3,qcI,lp qa2 K0⟩ :=
 q7q H.ty (n84 H) hm (q1q (l:=[]) (by kernel_rfl) trivial) qlL K0
theorem ok84 {T:Told} (H:qab T):qai T Tryz.prog 84 c84 :=
 qax H.ty (n84 H) hm (lh:=qe4) (ct:=c84) (dcd:=fun y=>(y.2.1)) Tryz.func84 (by kernel_rfl) (by rfl) (q1q (l:=[(.loop (q3q 2 (q4q Tryz.f84) .skip),⟨qb3,qcI,lp qa2 K0⟩)]) (by kernel_rfl) ⟨qlK H,trivial⟩) (by decide) (fun _=>rfl) (fun x r h=>(qlM x.1).trans h)
theorem n112 {T:Told} (H:qab T):qak T Tryz.prog (envL e112):=q5q (l:=e112) trivial
theorem qCG {T:Told} (H:qab T):qai T Tryz.prog 112 c112 :=
 qax H.ty (n112 H) hm (lh:=qhI) (ct:=c112) (dcd:=fun y=>(y.2.1)) Tryz.func112 (by kernel_rfl) (by rfl) (q1q (l:=[]) (by kernel_rfl) trivial) (by decide) (fun _=>rfl) (fun x r h=>(qlE x.1 x.2.1).trans h)
theorem n88 {T:Told} (H:qab T):qak T Tryz.prog (envL e88):=q5q (l:=e88) ⟨qCG H,trivial⟩
theorem qmn {T:Told} (H:qab T):q12q T Tryz.prog 41 (.loop (q3q 4 (q4q Tryz.f88) .skip)) ⟨qcp,qc1,lp qaI K0⟩ :=
 q7q H.ty (n88 H) hm (q1q (l:=[]) (by kernel_rfl) trivial) qmo K0
theorem ok88 {T:Told} (H:qab T):qai T Tryz.prog 88 c88 :=
 qax H.ty (n88 H) hm (lh:=qfs) (ct:=c88) (dcd:=fun y=>(y.2.1)) Tryz.func88 (by kernel_rfl) (by rfl) (q1q (l:=[(.loop (q3q 4 (q4q Tryz.f88) .skip),⟨qcp,qc1,lp qaI K0⟩)]) (by kernel_rfl) ⟨qmn H,trivial⟩) (by decide) (fun _=>rfl) (fun x r h=>(qmp x.1 x.2.1).trans h)
theorem n113 {T:Told} (H:qab T):qak T Tryz.prog (envL e113):=q5q (l:=e113) trivial
theorem qmk {T:Told} (H:qab T):q12q T Tryz.prog 21 (.loop (q3q 2 (q4q Tryz.f113) .skip)) ⟨qco,qc0,lp qaY K0⟩ :=
 q7q H.ty (n113 H) hm (q1q (l:=[]) (by kernel_rfl) trivial) qml K0
theorem qBx {T:Told} (H:qab T):qai T Tryz.prog 113 c113 :=
 qax H.ty (n113 H) hm (lh:=qfr) (ct:=c113) (dcd:=fun y=>(y.2.1)) Tryz.func113 (by kernel_rfl) (by rfl) (q1q (l:=[(.loop (q3q 2 (q4q Tryz.f113) .skip),⟨qco,qc0,lp qaY K0⟩)]) (by kernel_rfl) ⟨qmk H,trivial⟩) (by decide) (fun _=>rfl) (fun x r h=>(qmm x.1).trans h)
theorem n89 {T:Told} (H:qab T):qak T Tryz.prog (envL e89):=q5q (l:=e89) ⟨qBx H,trivial⟩
theorem qlF {T:Told} (H:qab T):q12q T Tryz.prog 63 (.loop (q3q 7 (q4q Tryz.f89) .skip)) ⟨qb1,qcG,lp qaP K0⟩ :=
 q7q H.ty (n89 H) hm (q1q (l:=[]) (by kernel_rfl) trivial) qlH K0
theorem qlG {T:Told} (H:qab T):q12q T Tryz.prog 63 (.loop (q3q 3 (q4q Tryz.f89) .skip)) ⟨qb2,qcH,lp qa1 K0⟩ :=
 q7q H.ty (n89 H) hm (q1q (l:=[(.loop (q3q 7 (q4q Tryz.f89) .skip),⟨qb1,qcG,lp qaP K0⟩)]) (by kernel_rfl) ⟨qlF H,trivial⟩) qlI K0
theorem ok89 {T:Told} (H:qab T):qai T Tryz.prog 89 c89 :=
 qax H.ty (n89 H) hm (lh:=qdM) (ct:=c89) (dcd:=fun y=>(y.2.1)) Tryz.func89 (by kernel_rfl) (by rfl) (q1q (l:=[(.loop (q3q 3 (q4q Tryz.f89) .skip),⟨qb2,qcH,lp qa1 K0⟩)]) (by kernel_rfl) ⟨qlG H,trivial⟩) (by decide) (fun _=>rfl) (fun x r h=>(qlJ x.1 x.2.1).trans h)
theorem n57 {T:Told} (H:qab T):qak T Tryz.prog (envL e57):=q5q (l:=e57) ⟨ok84 H,ok88 H,ok89 H,trivial⟩
theorem qmt {T:Told} (H:qab T):q12q T Tryz.prog 26 (.loop (q3q 4 (q4q Tryz.f57) .skip)) ⟨qcr,qc3,lp qbb K0⟩ :=
 q7q H.ty (n57 H) hm (q1q (l:=[]) (by kernel_rfl) trivial) qmu K0
theorem ok57 {T:Told} (H:qab T):qai T Tryz.prog 57 c57 :=
 qax H.ty (n57 H) hm (lh:=qft) (ct:=c57) (dcd:=fun y=>(y.2.1)) Tryz.func57 (by kernel_rfl) (by rfl) (q1q (l:=[(.loop (q3q 4 (q4q Tryz.f57) .skip),⟨qcr,qc3,lp qbb K0⟩)]) (by kernel_rfl) ⟨qmt H,trivial⟩) (by decide) (fun _=>rfl) (fun x r h=>(qmv x.1).trans h)
theorem n91 {T:Told} (H:qab T):qak T Tryz.prog (envL e91):=q5q (l:=e91) trivial
theorem ok91 {T:Told} (H:qab T):qai T Tryz.prog 91 c91 :=
 qax H.ty (n91 H) hm (lh:=qhX) (ct:=c91) (dcd:=fun y=>(y.2.1)) Tryz.func91 (by kernel_rfl) (by rfl) (q1q (l:=[]) (by kernel_rfl) trivial) (by decide) (fun _=>rfl) (fun x r h=>(qmi x.1 x.2.1).trans h)
theorem n90 {T:Told} (H:qab T):qak T Tryz.prog (envL e90):=q5q (l:=e90) ⟨ok84 H,ok88 H,ok91 H,trivial⟩
theorem ok90 {T:Told} (H:qab T):qai T Tryz.prog 90 c90 :=
 qax H.ty (n90 H) hm (lh:=qhG) (ct:=c90) (dcd:=fun y=>(y.2.1)) Tryz.func90 (by kernel_rfl) (by rfl) (q1q (l:=[]) (by kernel_rfl) trivial) (by decide) (fun _=>rfl) (fun x r h=>(qlC x.1).trans h)
theorem n58 {T:Told} (H:qab T):qak T Tryz.prog (envL e58):=q5q (l:=e58) ⟨ok84 H,ok90 H,trivial⟩
theorem ok58 {T:Told} (H:qab T):qai T Tryz.prog 58 c58 :=
 qax H.ty (n58 H) hm (lh:=qhC) (ct:=c58) (dcd:=fun y=>(y.2.1)) Tryz.func58 (by kernel_rfl) (by rfl) (q1q (l:=[]) (by kernel_rfl) trivial) (by decide) (fun _=>rfl) (fun x r h=>(qly x.1 x.2.1).trans h)
theorem n59 {T:Told} (H:qab T):qak T Tryz.prog (envL e59):=q5q (l:=e59) ⟨ok57 H,ok91 H,trivial⟩
theorem ok59 {T:Told} (H:qab T):qai T Tryz.prog 59 c59 :=
 qax H.ty (n59 H) hm (lh:=qhY) (ct:=c59) (dcd:=fun y=>(y.2.1)) Tryz.func59 (by kernel_rfl) (by rfl) (q1q (l:=[]) (by kernel_rfl) trivial) (by decide) (fun _=>rfl) (fun x r h=>(qmj x.1).trans h)
theorem n34 {T:Told} (H:qab T):qak T Tryz.prog (envL e34):=q5q (l:=e34) ⟨ok57 H,ok58 H,ok59 H,trivial⟩
theorem ok34 {T:Told} (H:qab T):qai T Tryz.prog 34 c34 :=
 qax H.ty (n34 H) hm (lh:=qhW) (ct:=c34) (dcd:=fun y=>(y.2.1)) Tryz.func34 (by kernel_rfl) (by rfl) (q1q (l:=[]) (by kernel_rfl) trivial) (by decide) (fun _=>rfl) (fun x r h=>(qmh x.1).trans h)
theorem n81 {T:Told} (H:qab T):qak T Tryz.prog (envL e81):=q5q (l:=e81) trivial
theorem qlN {T:Told} (H:qab T):q12q T Tryz.prog 27 (.loop (q3q 2 (q4q Tryz.f81) .skip)) ⟨qb4,qcJ,lp qaQ K0⟩ :=
 q7q H.ty (n81 H) hm (q1q (l:=[]) (by kernel_rfl) trivial) qlO K0
theorem ok81 {T:Told} (H:qab T):qai T Tryz.prog 81 c81 :=
 qax H.ty (n81 H) hm (lh:=qe5) (ct:=c81) (dcd:=fun y=>(y.2.1)) Tryz.func81 (by kernel_rfl) (by rfl) (q1q (l:=[(.loop (q3q 2 (q4q Tryz.f81) .skip),⟨qb4,qcJ,lp qaQ K0⟩)]) (by kernel_rfl) ⟨qlN H,trivial⟩) (by decide) (fun _=>rfl) (fun x r h=>(qlP x.1).trans h)
theorem n83 {T:Told} (H:qab T):qak T Tryz.prog (envL e83):=q5q (l:=e83) trivial
theorem qlS {T:Told} (H:qab T):q12q T Tryz.prog 41 (.loop (q3q 6 (q4q Tryz.f83) .skip)) ⟨qb6,qcL,lp qaD K0⟩ :=
 q7q H.ty (n83 H) hm (q1q (l:=[]) (by kernel_rfl) trivial) qlT K0
theorem ok83 {T:Told} (H:qab T):qai T Tryz.prog 83 c83 :=
 qax H.ty (n83 H) hm (lh:=qe6) (ct:=c83) (dcd:=fun y=>(y.2.1)) Tryz.func83 (by kernel_rfl) (by rfl) (q1q (l:=[(.loop (q3q 6 (q4q Tryz.f83) .skip),⟨qb6,qcL,lp qaD K0⟩)]) (by kernel_rfl) ⟨qlS H,trivial⟩) (by decide) (fun _=>rfl) (fun x r h=>(qlU x.1 x.2.1).trans h)
theorem n126 {T:Told} (H:qab T):qak T Tryz.prog (envL e126):=q5q (l:=e126) ⟨qCG H,qBx H,trivial⟩
theorem qlV {T:Told} (H:qab T):q12q T Tryz.prog 35 (.loop (q3q 4 (q4q Tryz.f126) .skip)) ⟨qb7,qcM,lp qaR K0⟩ :=
 q7q H.ty (n126 H) hm (q1q (l:=[]) (by kernel_rfl) trivial) qlW K0
theorem qDk {T:Told} (H:qab T):qai T Tryz.prog 126 c126 :=
 qax H.ty (n126 H) hm (lh:=qe7) (ct:=c126) (dcd:=fun y=>(y.2.1)) Tryz.func126 (by kernel_rfl) (by rfl) (q1q (l:=[(.loop (q3q 4 (q4q Tryz.f126) .skip),⟨qb7,qcM,lp qaR K0⟩)]) (by kernel_rfl) ⟨qlV H,trivial⟩) (by decide) (fun _=>rfl) (fun x r h=>(qlX x.1 x.2.1).trans h)
theorem n111 {T:Told} (H:qab T):qak T Tryz.prog (envL e111):=q5q (l:=e111) ⟨ok83 H,ok84 H,ok89 H,qBx H,qDk H,trivial⟩
theorem qlQ {T:Told} (H:qab T):q12q T Tryz.prog 65 (.loop (q3q 12 (q4q Tryz.f111) .skip)) ⟨qb5,qcK,lp qaC K0⟩ :=
 q7q H.ty (n111 H) hm (q1q (l:=[]) (by kernel_rfl) trivial) qlR K0
theorem qmq {T:Told} (H:qab T):q12q T Tryz.prog 65 (.loop (q3q 4 (q4q Tryz.f111) .skip)) ⟨qcq,qc2,lp qba K0⟩ :=
 q7q H.ty (n111 H) hm (q1q (l:=[(.loop (q3q 12 (q4q Tryz.f111) .skip),⟨qb5,qcK,lp qaC K0⟩)]) (by kernel_rfl) ⟨qlQ H,trivial⟩) qmr K0
theorem qDt {T:Told} (H:qab T):qai T Tryz.prog 111 c111 :=
 qax H.ty (n111 H) hm (lh:=qdT) (ct:=c111) (dcd:=fun y=>(y.2.1,y.2.2.1)) Tryz.func111 (by kernel_rfl) (by rfl) (q1q (l:=[(.loop (q3q 4 (q4q Tryz.f111) .skip),⟨qcq,qc2,lp qba K0⟩)]) (by kernel_rfl) ⟨qmq H,trivial⟩) (by decide) (fun _=>rfl) (fun x r h=>(qms x.1 x.2.1).trans h)
theorem n82 {T:Told} (H:qab T):qak T Tryz.prog (envL e82):=q5q (l:=e82) ⟨qDt H,trivial⟩
theorem qmX {T:Told} (H:qab T):q12q T Tryz.prog 19 (.loop (q3q 1 (q4q Tryz.f82) .skip)) ⟨qcy,qdn,lp qbr K0⟩ :=
 q7q H.ty (n82 H) hm (q1q (l:=[]) (by kernel_rfl) trivial) qmY K0
theorem ok82 {T:Told} (H:qab T):qai T Tryz.prog 82 c82 :=
 qax H.ty (n82 H) hm (lh:=qfS) (ct:=c82) (dcd:=fun y=>(y.2.1)) Tryz.func82 (by kernel_rfl) (by rfl) (q1q (l:=[(.loop (q3q 1 (q4q Tryz.f82) .skip),⟨qcy,qdn,lp qbr K0⟩)]) (by kernel_rfl) ⟨qmX H,trivial⟩) (by decide) (fun _=>rfl) (fun x r h=>(qmZ x.1 x.2.1).trans h)
theorem n55 {T:Told} (H:qab T):qak T Tryz.prog (envL e55):=q5q (l:=e55) ⟨ok57 H,ok81 H,ok82 H,ok83 H,ok84 H,trivial⟩
theorem ok55 {T:Told} (H:qab T):qai T Tryz.prog 55 c55 :=
 qax H.ty (n55 H) hm (lh:=qhD) (ct:=c55) (dcd:=fun y=>(y.2.1)) Tryz.func55 (by kernel_rfl) (by rfl) (q1q (l:=[]) (by kernel_rfl) trivial) (by decide) (fun _=>rfl) (fun x r h=>(qlz x.1).trans h)
theorem n85 {T:Told} (H:qab T):qak T Tryz.prog (envL e85):=q5q (l:=e85) ⟨ok83 H,trivial⟩
theorem ok85 {T:Told} (H:qab T):qai T Tryz.prog 85 c85 :=
 qax H.ty (n85 H) hm (lh:=qhH) (ct:=c85) (dcd:=fun y=>(y.2.1)) Tryz.func85 (by kernel_rfl) (by rfl) (q1q (l:=[]) (by kernel_rfl) trivial) (by decide) (fun _=>rfl) (fun x r h=>(qlD x.1 x.2.1).trans h)
theorem n86 {T:Told} (H:qab T):qak T Tryz.prog (envL e86):=q5q (l:=e86) ⟨ok89 H,ok91 H,trivial⟩
theorem ok86 {T:Told} (H:qab T):qai T Tryz.prog 86 c86 :=
 qax H.ty (n86 H) hm (lh:=qhF) (ct:=c86) (dcd:=fun y=>(y.2.1)) Tryz.func86 (by kernel_rfl) (by rfl) (q1q (l:=[]) (by kernel_rfl) trivial) (by decide) (fun _=>rfl) (fun x r h=>(qlB x.1 x.2.1).trans h)
theorem n87 {T:Told} (H:qab T):qak T Tryz.prog (envL e87):=q5q (l:=e87) ⟨ok91 H,trivial⟩
theorem ok87 {T:Told} (H:qab T):qai T Tryz.prog 87 c87 :=
 qax H.ty (n87 H) hm (lh:=qiL) (ct:=c87) (dcd:=fun y=>(y.2.1)) Tryz.func87 (by kernel_rfl) (by rfl) (q1q (l:=[]) (by kernel_rfl) trivial) (by decide) (fun _=>rfl) (fun x r h=>(qmW x.1).trans h)
theorem n56 {T:Told} (H:qab T):qak T Tryz.prog (envL e56):=q5q (l:=e56) ⟨ok85 H,ok86 H,ok87 H,trivial⟩
theorem ok56 {T:Told} (H:qab T):qai T Tryz.prog 56 c56 :=
 qax H.ty (n56 H) hm (lh:=qhE) (ct:=c56) (dcd:=fun y=>(y.2.1)) Tryz.func56 (by kernel_rfl) (by rfl) (q1q (l:=[]) (by kernel_rfl) trivial) (by decide) (fun _=>rfl) (fun x r h=>(qlA x.1 x.2.1).trans h)
theorem n33 {T:Told} (H:qab T):qak T Tryz.prog (envL e33):=q5q (l:=e33) ⟨ok34 H,ok55 H,ok56 H,trivial⟩
theorem ok33 {T:Told} (H:qab T):qai T Tryz.prog 33 c33 :=
 qax H.ty (n33 H) hm (lh:=qiY) (ct:=c33) (dcd:=fun y=>(y.2.1)) Tryz.func33 (by kernel_rfl) (by rfl) (q1q (l:=[]) (by kernel_rfl) trivial) (by decide) (fun _=>rfl) (fun x r h=>(qnW x.1 x.2.1).trans h)
theorem n11 {T:Told} (H:qab T):qak T Tryz.prog (envL e11):=q5q (l:=e11) ⟨ok33 H,ok34 H,trivial⟩
theorem ok11 {T:Told} (H:qab T):qai T Tryz.prog 11 c11 :=
 qax H.ty (n11 H) hm (lh:=qiX) (ct:=c11) (dcd:=fun y=>(y.2.1)) Tryz.func11 (by kernel_rfl) (by rfl) (q1q (l:=[]) (by kernel_rfl) trivial) (by decide) (fun _=>rfl) (fun x r h=>(qnV x.1 x.2.1).trans h)
theorem n14 {T:Told} (H:qab T):qak T Tryz.prog (envL e14):=q5q (l:=e14) ⟨ok35 H,trivial⟩
theorem ok14 {T:Told} (H:qab T):qai T Tryz.prog 14 c14 :=
 qax H.ty (n14 H) hm (lh:=qoV) (ct:=c14) (dcd:=fun y=>(y.2.1)) Tryz.func14 (by kernel_rfl) (by rfl) (q1q (l:=[]) (by kernel_rfl) trivial) (by decide) (fun _=>rfl) (fun x r h=>(qs7 x.1).trans h)
theorem n12 {T:Told} (H:qab T):qak T Tryz.prog (envL e12):=q5q (l:=e12) ⟨ok10 H,ok13 H,ok14 H,trivial⟩
theorem qlk {T:Told} (H:qab T):q12q T Tryz.prog 71 (.loop (q3q 9 (q4q Tryz.f12) .skip)) ⟨qbW,qcE,lp qav K0⟩ :=
 q7q H.ty (n12 H) hm (q1q (l:=[]) (by kernel_rfl) trivial) qlm K0
theorem qll {T:Told} (H:qab T):q12q T Tryz.prog 71 (.loop (q3q 6 (q4q Tryz.f12) .skip)) ⟨qbX,qcF,lp qaN K0⟩ :=
 q7q H.ty (n12 H) hm (q1q (l:=[(.loop (q3q 9 (q4q Tryz.f12) .skip),⟨qbW,qcE,lp qav K0⟩)]) (by kernel_rfl) ⟨qlk H,trivial⟩) qln K0
theorem ok12 {T:Told} (H:qab T):qai T Tryz.prog 12 c12 :=
 qax H.ty (n12 H) hm (lh:=qdG) (ct:=c12) (dcd:=fun y=>(y.2.1,y.2.2.1,y.2.2.2.1,y.2.2.2.2.1)) Tryz.func12 (by kernel_rfl) (by rfl) (q1q (l:=[(.loop (q3q 6 (q4q Tryz.f12) .skip),⟨qbX,qcF,lp qaN K0⟩)]) (by kernel_rfl) ⟨qll H,trivial⟩) (by decide) (fun _=>rfl) (fun x r h=>(qlo x.1 x.2.1).trans h)
theorem n4 {T:Told} (H:qab T):qak T Tryz.prog (envL e4):=q5q (l:=e4) ⟨ok6 H,ok8 H,ok10 H,ok11 H,ok12 H,ok13 H,ok14 H,trivial⟩
theorem qgc {T:Told} (H:qab T):q12q T Tryz.prog 155 (.loop (q3q 19 (q4q Tryz.f4) .skip)) ⟨qat,qaJ,lp qae K0⟩ :=
 q7q H.ty (n4 H) hm (q1q (l:=[]) (by kernel_rfl) trivial) qge K0
theorem qgM {T:Told} (H:qab T):q12q T Tryz.prog 155 (.loop (q3q 9 (q4q Tryz.f4) .skip)) ⟨qay,qaS,lp qag K0⟩ :=
 q7q H.ty (n4 H) hm (q1q (l:=[]) (by kernel_rfl) trivial) qgN K0
theorem qgd {T:Told} (H:qab T):q12q T Tryz.prog 155 (.loop (q3q 16 (q4q Tryz.f4) .skip)) ⟨qau,qaK,lp qaf K0⟩ :=
 q7q H.ty (n4 H) hm (q1q (l:=[(.loop (q3q 19 (q4q Tryz.f4) .skip),⟨qat,qaJ,lp qae K0⟩)]) (by kernel_rfl) ⟨qgc H,trivial⟩) qgf K0
theorem ok4 {T:Told} (H:qab T):qai T Tryz.prog 4 c4 :=
 qax H.ty (n4 H) hm (lh:=qaT) (ct:=c4) (dcd:=fun y=>(y.2.1)) Tryz.func4 (by kernel_rfl) (by rfl) (q1q (l:=[(.loop (q3q 9 (q4q Tryz.f4) .skip),⟨qay,qaS,lp qag K0⟩),(.loop (q3q 16 (q4q Tryz.f4) .skip),⟨qau,qaK,lp qaf K0⟩)]) (by kernel_rfl) ⟨qgM H,qgd H,trivial⟩) (by decide) (fun _=>rfl) (fun x r h=>(qgO x.1 x.2.1).trans h)
end Go.Proofs.YtaeiamdjpkgjpaaGreatDoor.X
