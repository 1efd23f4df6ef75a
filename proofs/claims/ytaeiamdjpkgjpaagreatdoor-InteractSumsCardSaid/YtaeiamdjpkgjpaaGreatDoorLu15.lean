/- Own work: part of the proof; the first line of each part says what it tells. -/
import Derived.Test.YtaeiamdjpkgjpaaGreatDoorLu11
import Derived.Test.YtaeiamdjpkgjpaaGreatDoorLu14


namespace Go.Proofs.YtaeiamdjpkgjpaaGreatDoor.X
open Go
set_option linter.unusedVariables false
set_option linter.unusedSimpArgs false
set_option maxRecDepth 100000
theorem F_in {ps:List (Ty×PM)} {rs:List (Ty×Bool)} {T:Type} {F:HL (fsts ps)->Option T} {enc:T->HL (qhI ps)×HL (fsts rs)} {wi:Option Wir} (x:HL (fsts ps)) {r:Option T} (h:F x=r):(Ctr.mk ps rs T F enc wi).F x=r:=h
theorem hm:Tryz.prog.follows .mixedOrders=true:=by kernel_rfl
structure qab (T:Told):Prop where
 ty:TbOk Tryz.prog tb
 h122:qak T Tryz.prog 122 c122
 h129:qak T Tryz.prog 129 c129
theorem tyO:TbOk Tryz.prog tbO:=qvP (by kernel_rfl)
theorem n48 {T:Told} (H:qab T):qap T Tryz.prog (envL e48):=q5q (l:=e48) trivial
theorem ok48 {T:Told} (H:qab T):qak T Tryz.prog 48 c48 :=
 qaG H.ty (n48 H) hm (lh:=qfC) (ct:=c48) (dcd:=fun y=>(y.2.1)) Tryz.func48 (by kernel_rfl) (by rfl) (q1q (l:=[]) (by kernel_rfl) trivial) (by decide) (fun _=>rfl) (fun x r h=>(qjn x.1).trans h)
theorem n23 {T:Told} (H:qab T):qap T Tryz.prog (envL e23):=q5q (l:=e23) ⟨ok48 H,trivial⟩
theorem qkZ {T:Told} (H:qab T):q12q T Tryz.prog 67 (.loop (q3q 7 (q4q Tryz.f23) .skip)) ⟨qb6,qcB,lp qaI K0⟩ :=
 q7q H.ty (n23 H) hm (q1q (l:=[]) (by kernel_rfl) trivial) qk1 K0
theorem qk0 {T:Told} (H:qab T):q12q T Tryz.prog 67 (.loop (q3q 3 (q4q Tryz.f23) .skip)) ⟨qb7,qcC,lp qaJ K0⟩ :=
 q7q H.ty (n23 H) hm (q1q (l:=[(.loop (q3q 7 (q4q Tryz.f23) .skip),⟨qb6,qcB,lp qaI K0⟩)]) (by kernel_rfl) ⟨qkZ H,trivial⟩) qk2 K0
theorem ok23 {T:Told} (H:qab T):qak T Tryz.prog 23 c23 :=
 qaG H.ty (n23 H) hm (lh:=qdz) (ct:=c23) (dcd:=fun y=>(y.2.1)) Tryz.func23 (by kernel_rfl) (by rfl) (q1q (l:=[(.loop (q3q 3 (q4q Tryz.f23) .skip),⟨qb7,qcC,lp qaJ K0⟩)]) (by kernel_rfl) ⟨qk0 H,trivial⟩) (by decide) (fun _=>rfl) (fun x r h=>(qk3 x.1).trans h)
theorem n49 {T:Told} (H:qab T):qap T Tryz.prog (envL e49):=q5q (l:=e49) trivial
theorem ok49 {T:Told} (H:qab T):qak T Tryz.prog 49 c49 :=
 qaG H.ty (n49 H) hm (lh:=qfB) (ct:=c49) (dcd:=fun y=>(y.2.1)) Tryz.func49 (by kernel_rfl) (by rfl) (q1q (l:=[]) (by kernel_rfl) trivial) (by decide) (fun _=>rfl) (fun x r h=>(qjm x.1).trans h)
theorem n24 {T:Told} (H:qab T):qap T Tryz.prog (envL e24):=q5q (l:=e24) ⟨ok49 H,trivial⟩
theorem qkW {T:Told} (H:qab T):q12q T Tryz.prog 32 (.loop (q3q 3 (q4q Tryz.f24) .skip)) ⟨qb5,qcA,lp qaQ K0⟩ :=
 q7q H.ty (n24 H) hm (q1q (l:=[]) (by kernel_rfl) trivial) qkX K0
theorem ok24 {T:Told} (H:qab T):qak T Tryz.prog 24 c24 :=
 qaG H.ty (n24 H) hm (lh:=qeS) (ct:=c24) (dcd:=fun y=>(y.2.1)) Tryz.func24 (by kernel_rfl) (by rfl) (q1q (l:=[(.loop (q3q 3 (q4q Tryz.f24) .skip),⟨qb5,qcA,lp qaQ K0⟩)]) (by kernel_rfl) ⟨qkW H,trivial⟩) (by decide) (fun _=>rfl) (fun x r h=>(qkY x.1 x.2.1).trans h)
theorem n6 {T:Told} (H:qab T):qap T Tryz.prog (envL e6):=q5q (l:=e6) ⟨ok23 H,ok24 H,trivial⟩
theorem ok6 {T:Told} (H:qab T):qak T Tryz.prog 6 c6 :=
 qaG H.ty (n6 H) hm (lh:=qgh) (ct:=c6) (dcd:=fun y=>(y.2.1,y.2.2.1)) Tryz.func6 (by kernel_rfl) (by rfl) (q1q (l:=[]) (by kernel_rfl) trivial) (by decide) (fun _=>rfl) (fun x r h=>(qka x.1 x.2.1).trans h)
theorem n74 {T:Told} (H:qab T):qap T Tryz.prog (envL e74):=q5q (l:=e74) trivial
theorem qqd {T:Told} (H:qab T):q12q T Tryz.prog 72 (.loop (q3q 9 (q4q Tryz.f74) .skip)) ⟨qej,qfr,lp qbS K0⟩ :=
 q7q H.ty (n74 H) hm (q1q (l:=[]) (by kernel_rfl) trivial) qqf K0
theorem qqe {T:Told} (H:qab T):q12q T Tryz.prog 72 (.loop (q3q 4 (q4q Tryz.f74) .skip)) ⟨qek,qfs,lp qbi K0⟩ :=
 q7q H.ty (n74 H) hm (q1q (l:=[(.loop (q3q 9 (q4q Tryz.f74) .skip),⟨qej,qfr,lp qbS K0⟩)]) (by kernel_rfl) ⟨qqd H,trivial⟩) qqg K0
theorem ok74 {T:Told} (H:qab T):qak T Tryz.prog 74 c74 :=
 qaG H.ty (n74 H) hm (lh:=qgE) (ct:=c74) (dcd:=fun y=>(y.2.1)) Tryz.func74 (by kernel_rfl) (by rfl) (q1q (l:=[(.loop (q3q 4 (q4q Tryz.f74) .skip),⟨qek,qfs,lp qbi K0⟩)]) (by kernel_rfl) ⟨qqe H,trivial⟩) (by decide) (fun _=>rfl) (fun x r h=>(qqh x.1).trans h)
theorem n75 {T:Told} (H:qab T):qap T Tryz.prog (envL e75):=q5q (l:=e75) trivial
theorem qnB {T:Told} (H:qab T):q12q T Tryz.prog 52 (.loop (q3q 2 (q4q Tryz.f75) .skip)) ⟨qc1,qdX,lp qa9 K0⟩ :=
 q7q H.ty (n75 H) hm (q1q (l:=[]) (by kernel_rfl) trivial) qnC K0
theorem ok75 {T:Told} (H:qab T):qak T Tryz.prog 75 c75 :=
 qaG H.ty (n75 H) hm (lh:=qg2) (ct:=c75) (dcd:=fun y=>(y.2.1,y.2.2.1)) Tryz.func75 (by kernel_rfl) (by rfl) (q1q (l:=[(.loop (q3q 2 (q4q Tryz.f75) .skip),⟨qc1,qdX,lp qa9 K0⟩)]) (by kernel_rfl) ⟨qnB H,trivial⟩) (by decide) (fun _=>rfl) (fun x r h=>(qnD x.1 x.2.1).trans h)
theorem n76 {T:Told} (H:qab T):qap T Tryz.prog (envL e76):=q5q (l:=e76) trivial
theorem qoK {T:Told} (H:qab T):q12q T Tryz.prog 103 (.loop (q3q 3 (q4q Tryz.f76) .skip)) ⟨qdH,qeu,lp qbG K0⟩ :=
 q7q H.ty (n76 H) hm (q1q (l:=[]) (by kernel_rfl) trivial) qoL K0
theorem qnx {T:Told} (H:qab T):q12q T Tryz.prog 103 (.loop (q3q 10 (q4q Tryz.f76) .skip)) ⟨qc0,qdW,lp qaR K0⟩ :=
 q7q H.ty (n76 H) hm (q1q (l:=[]) (by kernel_rfl) trivial) qnA K0
theorem qnw {T:Told} (H:qab T):q12q T Tryz.prog 103 (.loop (q3q 17 (q4q Tryz.f76) .skip)) ⟨qcZ,qdV,lp qbH K0⟩ :=
 q7q H.ty (n76 H) hm (q1q (l:=[]) (by kernel_rfl) trivial) qnz K0
theorem qnv {T:Told} (H:qab T):q12q T Tryz.prog 103 (.loop (q3q 25 (q4q Tryz.f76) .skip)) ⟨qcY,qdU,lp qa8 K0⟩ :=
 q7q H.ty (n76 H) hm (q1q (l:=[]) (by kernel_rfl) trivial) qny K0
theorem ok76 {T:Told} (H:qab T):qak T Tryz.prog 76 c76 :=
 qaG H.ty (n76 H) hm (lh:=qdG) (ct:=c76) (dcd:=fun y=>(y.2.1,y.2.2.1)) Tryz.func76 (by kernel_rfl) (by rfl) (q1q (l:=[(.loop (q3q 3 (q4q Tryz.f76) .skip),⟨qdH,qeu,lp qbG K0⟩),(.loop (q3q 10 (q4q Tryz.f76) .skip),⟨qc0,qdW,lp qaR K0⟩),(.loop (q3q 17 (q4q Tryz.f76) .skip),⟨qcZ,qdV,lp qbH K0⟩),(.loop (q3q 25 (q4q Tryz.f76) .skip),⟨qcY,qdU,lp qa8 K0⟩)]) (by kernel_rfl) ⟨qoK H,qnx H,qnw H,qnv H,trivial⟩) (by decide) (fun _=>rfl) (fun x r h=>(qoM x.1).trans h)
theorem n66 {T:Told} (H:qab T):qap T Tryz.prog (envL e66):=q5q (l:=e66) trivial
theorem qsG {T:Told} (H:qab T):q12q T Tryz.prog 23 (.loop (q3q 2 (q4q Tryz.f66) .skip)) ⟨qfN,qhc,lp qdw K0⟩ :=
 q7q H.ty (n66 H) hm (q1q (l:=[]) (by kernel_rfl) trivial) qsH K0
theorem ok66 {T:Told} (H:qab T):qak T Tryz.prog 66 c66 :=
 qaG H.ty (n66 H) hm (lh:=qkH) (ct:=c66) (dcd:=fun y=>(y.2.1)) Tryz.func66 (by kernel_rfl) (by rfl) (q1q (l:=[(.loop (q3q 2 (q4q Tryz.f66) .skip),⟨qfN,qhc,lp qdw K0⟩)]) (by kernel_rfl) ⟨qsG H,trivial⟩) (by decide) (fun _=>rfl) (fun x r h=>(qsI x.1).trans h)
theorem n40 {T:Told} (H:qab T):qap T Tryz.prog (envL e40):=q5q (l:=e40) ⟨ok66 H,trivial⟩
theorem ok40 {T:Told} (H:qab T):qak T Tryz.prog 40 c40 :=
 qaG H.ty (n40 H) hm (lh:=qrC) (ct:=c40) (dcd:=fun y=>(y.2.1)) Tryz.func40 (by kernel_rfl) (by rfl) (q1q (l:=[]) (by kernel_rfl) trivial) (by decide) (fun _=>rfl) (fun x r h=>(qws x.1).trans h)
theorem n16 {T:Told} (H:qab T):qap T Tryz.prog (envL e16):=q5q (l:=e16) ⟨ok40 H,trivial⟩
theorem ok16 {T:Told} (H:qab T):qak T Tryz.prog 16 c16 :=
 qaG H.ty (n16 H) hm (lh:=qli) (ct:=c16) (dcd:=fun y=>(y.2.1)) Tryz.func16 (by kernel_rfl) (by rfl) (q1q (l:=[]) (by kernel_rfl) trivial) (by decide) (fun _=>rfl) (fun x r h=>(qp0 ).trans h)
theorem n60 {T:Told} (H:qab T):qap T Tryz.prog (envL e60):=q5q (l:=e60) ⟨ok66 H,trivial⟩
theorem qrD {T:Told} (H:qab T):q12q T Tryz.prog 24 (.loop (q3q 3 (q4q Tryz.f60) .skip)) ⟨qe8,qga,lp qcN K0⟩ :=
 q7q H.ty (n60 H) hm (q1q (l:=[]) (by kernel_rfl) trivial) qrE K0
theorem ok60 {T:Told} (H:qab T):qak T Tryz.prog 60 c60 :=
 qaG H.ty (n60 H) hm (lh:=qjU) (ct:=c60) (dcd:=fun y=>(y.2.1)) Tryz.func60 (by kernel_rfl) (by rfl) (q1q (l:=[(.loop (q3q 3 (q4q Tryz.f60) .skip),⟨qe8,qga,lp qcN K0⟩)]) (by kernel_rfl) ⟨qrD H,trivial⟩) (by decide) (fun _=>rfl) (fun x r h=>(qrF x.1).trans h)
theorem n92 {T:Told} (H:qab T):qap T Tryz.prog (envL e92):=q5q (l:=e92) trivial
theorem qrs {T:Told} (H:qab T):q12q T Tryz.prog 45 (.loop (q3q 6 (q4q Tryz.f92) .skip)) ⟨qe4,qf6,lp qcn K0⟩ :=
 q7q H.ty (n92 H) hm (q1q (l:=[]) (by kernel_rfl) trivial) qrt K0
theorem ok92 {T:Told} (H:qab T):qak T Tryz.prog 92 c92 :=
 qaG H.ty (n92 H) hm (lh:=qjO) (ct:=c92) (dcd:=fun y=>(y.2.1)) Tryz.func92 (by kernel_rfl) (by rfl) (q1q (l:=[(.loop (q3q 6 (q4q Tryz.f92) .skip),⟨qe4,qf6,lp qcn K0⟩)]) (by kernel_rfl) ⟨qrs H,trivial⟩) (by decide) (fun _=>rfl) (fun x r h=>(qru x.1 x.2.1).trans h)
theorem n121 {T:Told} (H:qab T):qap T Tryz.prog (envL e121):=q5q (l:=e121) ⟨ok60 H,trivial⟩
theorem qBO {T:Told} (H:qab T):qak T Tryz.prog 121 c121 :=
 qaG H.ty (n121 H) hm (lh:=qrB) (ct:=c121) (dcd:=fun y=>(y.2.1,y.2.2.1)) Tryz.func121 (by kernel_rfl) (by rfl) (q1q (l:=[]) (by kernel_rfl) trivial) (by decide) (fun _=>rfl) (fun x r h=>(qwr x.1).trans h)
theorem n97 {T:Told} (H:qab T):qap T Tryz.prog (envL e97):=q5q (l:=e97) ⟨ok40 H,qBO H,trivial⟩
theorem qp8 {T:Told} (H:qab T):q12q T Tryz.prog 27 (.loop (q3q 3 (q4q Tryz.f97) .skip)) ⟨qeg,qfq,lp qcM K0⟩ :=
 q7q H.ty (n97 H) hm (q1q (l:=[]) (by kernel_rfl) trivial) qp9 K0
theorem ok97 {T:Told} (H:qab T):qak T Tryz.prog 97 c97 :=
 qaG H.ty (n97 H) hm (lh:=qiU) (ct:=c97) (dcd:=fun y=>(y.2.1)) Tryz.func97 (by kernel_rfl) (by rfl) (q1q (l:=[(.loop (q3q 3 (q4q Tryz.f97) .skip),⟨qeg,qfq,lp qcM K0⟩)]) (by kernel_rfl) ⟨qp8 H,trivial⟩) (by decide) (fun _=>rfl) (fun x r h=>(qqa x.1 x.2.1).trans h)
theorem n98 {T:Told} (H:qab T):qap T Tryz.prog (envL e98):=q5q (l:=e98) ⟨H.h122,trivial⟩
theorem qrm {T:Told} (H:qab T):q12q T Tryz.prog 24 (.loop (q3q 3 (q4q Tryz.f98) .skip)) ⟨qe2,qf4,lp qdp K0⟩ :=
 q7q H.ty (n98 H) hm (q1q (l:=[]) (by kernel_rfl) trivial) qrn K0
theorem ok98 {T:Told} (H:qab T):qak T Tryz.prog 98 c98 :=
 qaG H.ty (n98 H) hm (lh:=qjL) (ct:=c98) (dcd:=fun y=>(y.2.1)) Tryz.func98 (by kernel_rfl) (by rfl) (q1q (l:=[(.loop (q3q 3 (q4q Tryz.f98) .skip),⟨qe2,qf4,lp qdp K0⟩)]) (by kernel_rfl) ⟨qrm H,trivial⟩) (by decide) (fun _=>rfl) (fun x r h=>(qro x.1).trans h)
theorem n105 {T:Told} (H:qab T):qap T Tryz.prog (envL e105):=q5q (l:=e105) trivial
theorem qwn {T:Told} (H:qab T):qak T Tryz.prog 105 c105 :=
 qaG H.ty (n105 H) hm (lh:=qod) (ct:=c105) (dcd:=fun y=>(y.2.1)) Tryz.func105 (by kernel_rfl) (by rfl) (q1q (l:=[]) (by kernel_rfl) trivial) (by decide) (fun _=>rfl) (fun x r h=>(qsQ x.1 x.2.1).trans h)
theorem n99 {T:Told} (H:qab T):qap T Tryz.prog (envL e99):=q5q (l:=e99) ⟨ok66 H,qwn H,trivial⟩
theorem quJ {T:Told} (H:qab T):q12q T Tryz.prog 50 (.loop (q3q 6 (q4q Tryz.f99) .skip)) ⟨qgW,qii,lp qee K0⟩ :=
 q7q H.ty (n99 H) hm (q1q (l:=[]) (by kernel_rfl) trivial) quK K0
theorem ok99 {T:Told} (H:qab T):qak T Tryz.prog 99 c99 :=
 qaG H.ty (n99 H) hm (lh:=ql6) (ct:=c99) (dcd:=fun y=>(y.2.1)) Tryz.func99 (by kernel_rfl) (by rfl) (q1q (l:=[(.loop (q3q 6 (q4q Tryz.f99) .skip),⟨qgW,qii,lp qee K0⟩)]) (by kernel_rfl) ⟨quJ H,trivial⟩) (by decide) (fun _=>rfl) (fun x r h=>(quL x.1 x.2.1).trans h)
theorem n100 {T:Told} (H:qab T):qap T Tryz.prog (envL e100):=q5q (l:=e100) ⟨ok66 H,trivial⟩
theorem quM {T:Told} (H:qab T):q12q T Tryz.prog 51 (.loop (q3q 4 (q4q Tryz.f100) .skip)) ⟨qgX,qij,lp qef K0⟩ :=
 q7q H.ty (n100 H) hm (q1q (l:=[]) (by kernel_rfl) trivial) quN K0
theorem qBe {T:Told} (H:qab T):qak T Tryz.prog 100 c100 :=
 qaG H.ty (n100 H) hm (lh:=ql7) (ct:=c100) (dcd:=fun y=>(y.2.1)) Tryz.func100 (by kernel_rfl) (by rfl) (q1q (l:=[(.loop (q3q 4 (q4q Tryz.f100) .skip),⟨qgX,qij,lp qef K0⟩)]) (by kernel_rfl) ⟨quM H,trivial⟩) (by decide) (fun _=>rfl) (fun x r h=>(quO x.1 x.2.1).trans h)
theorem n103 {T:Told} (H:qab T):qap T Tryz.prog (envL e103):=q5q (l:=e103) ⟨ok66 H,trivial⟩
theorem qrp {T:Told} (H:qab T):q12q T Tryz.prog 38 (.loop (q3q 4 (q4q Tryz.f103) .skip)) ⟨qe3,qf5,lp qdq K0⟩ :=
 q7q H.ty (n103 H) hm (q1q (l:=[]) (by kernel_rfl) trivial) qrq K0
theorem qBW {T:Told} (H:qab T):qak T Tryz.prog 103 c103 :=
 qaG H.ty (n103 H) hm (lh:=qjM) (ct:=c103) (dcd:=fun y=>(y.2.1,y.2.2.1)) Tryz.func103 (by kernel_rfl) (by rfl) (q1q (l:=[(.loop (q3q 4 (q4q Tryz.f103) .skip),⟨qe3,qf5,lp qdq K0⟩)]) (by kernel_rfl) ⟨qrp H,trivial⟩) (by decide) (fun _=>rfl) (fun x r h=>(qrr x.1 x.2.1).trans h)
theorem n123 {T:Told} (H:qab T):qap T Tryz.prog (envL e123):=q5q (l:=e123) ⟨H.h129,trivial⟩
theorem qBN {T:Told} (H:qab T):qak T Tryz.prog 123 c123 :=
 qaG H.ty (n123 H) hm (lh:=qfD) (ct:=c123) (dcd:=fun y=>(y.2.1)) Tryz.func123 (by kernel_rfl) (by rfl) (q1q (l:=[]) (by kernel_rfl) trivial) (by decide) (fun _=>rfl) (fun x r h=>(qjo x.1).trans h)
theorem n130 {T:Told} (H:qab T):qap T Tryz.prog (envL e130):=q5q (l:=e130) ⟨qwn H,trivial⟩
theorem qsJ {T:Told} (H:qab T):q12q T Tryz.prog 46 (.loop (q3q 3 (q4q Tryz.f130) .skip)) ⟨qfO,qhd,lp qd6 K0⟩ :=
 q7q H.ty (n130 H) hm (q1q (l:=[]) (by kernel_rfl) trivial) qsK K0
theorem qBK {T:Told} (H:qab T):qak T Tryz.prog 130 c130 :=
 qaG H.ty (n130 H) hm (lh:=qkI) (ct:=c130) (dcd:=fun y=>(y.1.1,y.2.1)) Tryz.func130 (by kernel_rfl) (by rfl) (q1q (l:=[(.loop (q3q 3 (q4q Tryz.f130) .skip),⟨qfO,qhd,lp qd6 K0⟩)]) (by kernel_rfl) ⟨qsJ H,trivial⟩) (by decide) (fun _=>rfl) (fun x r h=>(qsL x.1 x.2.1 x.2.2.1).trans h)
theorem n131 {T:Told} (H:qab T):qap T Tryz.prog (envL e131):=q5q (l:=e131) ⟨qwn H,trivial⟩
theorem qsR {T:Told} (H:qab T):q12q T Tryz.prog 29 (.loop (q3q 2 (q4q Tryz.f131) .skip)) ⟨qfQ,qhg,lp qd7 K0⟩ :=
 q7q H.ty (n131 H) hm (q1q (l:=[]) (by kernel_rfl) trivial) qsS K0
theorem qBJ {T:Told} (H:qab T):qak T Tryz.prog 131 c131 :=
 qaG H.ty (n131 H) hm (lh:=qkK) (ct:=c131) (dcd:=fun y=>(y.1.1)) Tryz.func131 (by kernel_rfl) (by rfl) (q1q (l:=[(.loop (q3q 2 (q4q Tryz.f131) .skip),⟨qfQ,qhg,lp qd7 K0⟩)]) (by kernel_rfl) ⟨qsR H,trivial⟩) (by decide) (fun _=>rfl) (fun x r h=>(qsT x.1 x.2.1).trans h)
theorem n124 {T:Told} (H:qab T):qap T Tryz.prog (envL e124):=q5q (l:=e124) ⟨qBK H,qBJ H,trivial⟩
theorem qry {T:Told} (H:qab T):q12q T Tryz.prog 77 (.loop (q3q 4 (q4q Tryz.f124) .skip)) ⟨qe6,qf9,lp qbF K0⟩ :=
 q7q H.ty (n124 H) hm (q1q (l:=[]) (by kernel_rfl) trivial) qrz K0
theorem qBM {T:Told} (H:qab T):qak T Tryz.prog 124 c124 :=
 qaG H.ty (n124 H) hm (lh:=qjQ) (ct:=c124) (dcd:=fun y=>(y.1.1,y.2.1)) Tryz.func124 (by kernel_rfl) (by rfl) (q1q (l:=[(.loop (q3q 4 (q4q Tryz.f124) .skip),⟨qe6,qf9,lp qbF K0⟩)]) (by kernel_rfl) ⟨qry H,trivial⟩) (by decide) (fun _=>rfl) (fun x r h=>(qrA x.1 x.2.1).trans h)
theorem n104 {T:Told} (H:qab T):qap T Tryz.prog (envL e104):=q5q (l:=e104) ⟨ok66 H,ok99 H,qBe H,qBN H,qBM H,trivial⟩
theorem qsN {T:Told} (H:qab T):q12q T Tryz.prog 64 (.loop (q3q 7 (q4q Tryz.f104) .skip)) ⟨qfP,qhf,lp qdy K0⟩ :=
 q7q H.ty (n104 H) hm (q1q (l:=[]) (by kernel_rfl) trivial) qsO K0
theorem qBV {T:Told} (H:qab T):qak T Tryz.prog 104 c104 :=
 qaG H.ty (n104 H) hm (lh:=qkJ) (ct:=c104) (dcd:=fun y=>(y.2.1,y.2.2.1)) Tryz.func104 (by kernel_rfl) (by rfl) (q1q (l:=[(.loop (q3q 7 (q4q Tryz.f104) .skip),⟨qfP,qhf,lp qdy K0⟩)]) (by kernel_rfl) ⟨qsN H,trivial⟩) (by decide) (fun _=>rfl) (fun x r h=>(qsP x.1 x.2.1).trans h)
theorem n68 {T:Told} (H:qab T):qap T Tryz.prog (envL e68):=q5q (l:=e68) ⟨ok40 H,ok60 H,ok92 H,qBW H,qBV H,trivial⟩
theorem ok68 {T:Told} (H:qab T):qak T Tryz.prog 68 c68 :=
 qaG H.ty (n68 H) hm (lh:=qly) (ct:=c68) (dcd:=fun y=>(y.2.1,y.2.2.1,y.2.2.2.1)) Tryz.func68 (by kernel_rfl) (by rfl) (q1q (l:=[]) (by kernel_rfl) trivial) (by decide) (fun _=>rfl) (fun x r h=>(qqb x.1 x.2.1).trans h)
theorem n101 {T:Told} (H:qab T):qap T Tryz.prog (envL e101):=q5q (l:=e101) ⟨ok68 H,trivial⟩
theorem qBX {T:Told} (H:qab T):qak T Tryz.prog 101 c101 :=
 qaG H.ty (n101 H) hm (lh:=qoc) (ct:=c101) (dcd:=fun y=>(y.2.1,y.2.2.1)) Tryz.func101 (by kernel_rfl) (by rfl) (q1q (l:=[]) (by kernel_rfl) trivial) (by decide) (fun _=>rfl) (fun x r h=>(qsM x.1 x.2.1).trans h)
theorem n102 {T:Told} (H:qab T):qap T Tryz.prog (envL e102):=q5q (l:=e102) ⟨ok66 H,qwn H,trivial⟩
theorem qrv {T:Told} (H:qab T):q12q T Tryz.prog 39 (.loop (q3q 4 (q4q Tryz.f102) .skip)) ⟨qe5,qf8,lp qdr K0⟩ :=
 q7q H.ty (n102 H) hm (q1q (l:=[]) (by kernel_rfl) trivial) qrw K0
theorem qBd {T:Told} (H:qab T):qak T Tryz.prog 102 c102 :=
 qaG H.ty (n102 H) hm (lh:=qjP) (ct:=c102) (dcd:=fun y=>(y.2.1)) Tryz.func102 (by kernel_rfl) (by rfl) (q1q (l:=[(.loop (q3q 4 (q4q Tryz.f102) .skip),⟨qe5,qf8,lp qdr K0⟩)]) (by kernel_rfl) ⟨qrv H,trivial⟩) (by decide) (fun _=>rfl) (fun x r h=>(qrx x.1 x.2.1).trans h)
theorem n67 {T:Told} (H:qab T):qap T Tryz.prog (envL e67):=q5q (l:=e67) ⟨ok60 H,ok92 H,ok97 H,ok98 H,ok99 H,qBe H,qBX H,qBd H,trivial⟩
theorem qsU {T:Told} (H:qab T):q12q T Tryz.prog 86 (.loop (q3q 10 (q4q Tryz.f67) .skip)) ⟨qfR,qhh,lp qbQ K0⟩ :=
 q7q H.ty (n67 H) hm (q1q (l:=[]) (by kernel_rfl) trivial) qsV K0
theorem ok67 {T:Told} (H:qab T):qak T Tryz.prog 67 c67 :=
 qaG H.ty (n67 H) hm (lh:=ql8) (ct:=c67) (dcd:=fun y=>(y.2.1)) Tryz.func67 (by kernel_rfl) (by rfl) (q1q (l:=[(.loop (q3q 10 (q4q Tryz.f67) .skip),⟨qfR,qhh,lp qbQ K0⟩)]) (by kernel_rfl) ⟨qsU H,trivial⟩) (by decide) (fun _=>rfl) (fun x r h=>(quV x.1 x.2.1).trans h)
theorem n41 {T:Told} (H:qab T):qap T Tryz.prog (envL e41):=q5q (l:=e41) ⟨ok40 H,ok67 H,ok68 H,trivial⟩
theorem ok41 {T:Told} (H:qab T):qak T Tryz.prog 41 c41 :=
 qaG H.ty (n41 H) hm (lh:=qlh) (ct:=c41) (dcd:=fun y=>(y.2.1)) Tryz.func41 (by kernel_rfl) (by rfl) (q1q (l:=[]) (by kernel_rfl) trivial) (by decide) (fun _=>rfl) (fun x r h=>(qpZ x.1 x.2.1).trans h)
theorem n63 {T:Told} (H:qab T):qap T Tryz.prog (envL e63):=q5q (l:=e63) trivial
theorem ok63 {T:Told} (H:qab T):qak T Tryz.prog 63 c63 :=
 qaG H.ty (n63 H) hm (lh:=qk6) (ct:=c63) (dcd:=fun y=>(y.2.1)) Tryz.func63 (by kernel_rfl) (by rfl) (q1q (l:=[]) (by kernel_rfl) trivial) (by decide) (fun _=>rfl) (fun x r h=>(qpH x.1 x.2.1).trans h)
theorem n61 {T:Told} (H:qab T):qap T Tryz.prog (envL e61):=q5q (l:=e61) ⟨ok60 H,ok63 H,trivial⟩
theorem ok61 {T:Told} (H:qab T):qak T Tryz.prog 61 c61 :=
 qaG H.ty (n61 H) hm (lh:=qkp) (ct:=c61) (dcd:=fun y=>(y.2.1)) Tryz.func61 (by kernel_rfl) (by rfl) (q1q (l:=[]) (by kernel_rfl) trivial) (by decide) (fun _=>rfl) (fun x r h=>(qoJ x.1).trans h)
theorem n35 {T:Told} (H:qab T):qap T Tryz.prog (envL e35):=q5q (l:=e35) ⟨ok16 H,ok41 H,ok60 H,ok61 H,trivial⟩
theorem ok35 {T:Told} (H:qab T):qak T Tryz.prog 35 c35 :=
 qaG H.ty (n35 H) hm (lh:=qkt) (ct:=c35) (dcd:=fun y=>(y.2.1)) Tryz.func35 (by kernel_rfl) (by rfl) (q1q (l:=[]) (by kernel_rfl) trivial) (by decide) (fun _=>rfl) (fun x r h=>(qoW x.1).trans h)
theorem n80 {T:Told} (H:qab T):qap T Tryz.prog (envL e80):=q5q (l:=e80) ⟨ok61 H,trivial⟩
theorem ok80 {T:Told} (H:qab T):qak T Tryz.prog 80 c80 :=
 qaG H.ty (n80 H) hm (lh:=qk7) (ct:=c80) (dcd:=fun y=>(y.2.1)) Tryz.func80 (by kernel_rfl) (by rfl) (q1q (l:=[]) (by kernel_rfl) trivial) (by decide) (fun _=>rfl) (fun x r h=>(qpI x.1).trans h)
theorem n110 {T:Told} (H:qab T):qap T Tryz.prog (envL e110):=q5q (l:=e110) ⟨ok35 H,ok80 H,trivial⟩
theorem qBa {T:Told} (H:qab T):qak T Tryz.prog 110 c110 :=
 qaG H.ty (n110 H) hm (lh:=qlk) (ct:=c110) (dcd:=fun y=>(y.2.1)) Tryz.func110 (by kernel_rfl) (by rfl) (q1q (l:=[]) (by kernel_rfl) trivial) (by decide) (fun _=>rfl) (fun x r h=>(qp1 x.1).trans h)
theorem n77 {T:Told} (H:qab T):qap T Tryz.prog (envL e77):=q5q (l:=e77) ⟨qBa H,trivial⟩
theorem qnE {T:Told} (H:qab T):q12q T Tryz.prog 19 (.loop (q3q 2 (q4q Tryz.f77) .skip)) ⟨qc2,qdY,lp qba K0⟩ :=
 q7q H.ty (n77 H) hm (q1q (l:=[]) (by kernel_rfl) trivial) qnF K0
theorem ok77 {T:Told} (H:qab T):qak T Tryz.prog 77 c77 :=
 qaG H.ty (n77 H) hm (lh:=qg3) (ct:=c77) (dcd:=fun y=>(y.2.1,y.2.2.1)) Tryz.func77 (by kernel_rfl) (by rfl) (q1q (l:=[(.loop (q3q 2 (q4q Tryz.f77) .skip),⟨qc2,qdY,lp qba K0⟩)]) (by kernel_rfl) ⟨qnE H,trivial⟩) (by decide) (fun _=>rfl) (fun x r h=>(qnG x.1).trans h)
theorem n62 {T:Told} (H:qab T):qap T Tryz.prog (envL e62):=q5q (l:=e62) ⟨ok60 H,ok92 H,trivial⟩
theorem ok62 {T:Told} (H:qab T):qak T Tryz.prog 62 c62 :=
 qaG H.ty (n62 H) hm (lh:=qpl) (ct:=c62) (dcd:=fun y=>(y.2.1)) Tryz.func62 (by kernel_rfl) (by rfl) (q1q (l:=[]) (by kernel_rfl) trivial) (by decide) (fun _=>rfl) (fun x r h=>(quW x.1 x.2.1).trans h)
theorem n36 {T:Told} (H:qab T):qap T Tryz.prog (envL e36):=q5q (l:=e36) ⟨ok61 H,ok62 H,trivial⟩
theorem ok36 {T:Told} (H:qab T):qak T Tryz.prog 36 c36 :=
 qaG H.ty (n36 H) hm (lh:=qmA) (ct:=c36) (dcd:=fun y=>(y.2.1)) Tryz.func36 (by kernel_rfl) (by rfl) (q1q (l:=[]) (by kernel_rfl) trivial) (by decide) (fun _=>rfl) (fun x r h=>(qqG x.1 x.2.1).trans h)
theorem n43 {T:Told} (H:qab T):qap T Tryz.prog (envL e43):=q5q (l:=e43) ⟨ok60 H,ok66 H,trivial⟩
theorem quQ {T:Told} (H:qab T):q12q T Tryz.prog 67 (.loop (q3q 8 (q4q Tryz.f43) .skip)) ⟨qgY,qim,lp qeh K0⟩ :=
 q7q H.ty (n43 H) hm (q1q (l:=[]) (by kernel_rfl) trivial) quS K0
theorem quR {T:Told} (H:qab T):q12q T Tryz.prog 67 (.loop (q3q 4 (q4q Tryz.f43) .skip)) ⟨qgZ,qin,lp qe7 K0⟩ :=
 q7q H.ty (n43 H) hm (q1q (l:=[(.loop (q3q 8 (q4q Tryz.f43) .skip),⟨qgY,qim,lp qeh K0⟩)]) (by kernel_rfl) ⟨quQ H,trivial⟩) quT K0
theorem ok43 {T:Told} (H:qab T):qak T Tryz.prog 43 c43 :=
 qaG H.ty (n43 H) hm (lh:=qkh) (ct:=c43) (dcd:=fun y=>(y.2.1)) Tryz.func43 (by kernel_rfl) (by rfl) (q1q (l:=[(.loop (q3q 4 (q4q Tryz.f43) .skip),⟨qgZ,qin,lp qe7 K0⟩)]) (by kernel_rfl) ⟨quR H,trivial⟩) (by decide) (fun _=>rfl) (fun x r h=>(quU x.1 x.2.1).trans h)
theorem n37 {T:Told} (H:qab T):qap T Tryz.prog (envL e37):=q5q (l:=e37) ⟨ok43 H,ok61 H,ok63 H,trivial⟩
theorem ok37 {T:Told} (H:qab T):qak T Tryz.prog 37 c37 :=
 qaG H.ty (n37 H) hm (lh:=qmz) (ct:=c37) (dcd:=fun y=>(y.2.1)) Tryz.func37 (by kernel_rfl) (by rfl) (q1q (l:=[]) (by kernel_rfl) trivial) (by decide) (fun _=>rfl) (fun x r h=>(qqF x.1 x.2.1).trans h)
theorem n38 {T:Told} (H:qab T):qap T Tryz.prog (envL e38):=q5q (l:=e38) trivial
theorem ok38 {T:Told} (H:qab T):qak T Tryz.prog 38 c38 :=
 qaG H.ty (n38 H) hm (lh:=qmG) (ct:=c38) (dcd:=fun y=>(y.2.1)) Tryz.func38 (by kernel_rfl) (by rfl) (q1q (l:=[]) (by kernel_rfl) trivial) (by decide) (fun _=>rfl) (fun x r h=>(qq1 x.1).trans h)
theorem n13 {T:Told} (H:qab T):qap T Tryz.prog (envL e13):=q5q (l:=e13) ⟨ok35 H,ok36 H,ok37 H,ok38 H,trivial⟩
theorem ok13 {T:Told} (H:qab T):qak T Tryz.prog 13 c13 :=
 qaG H.ty (n13 H) hm (lh:=qmR) (ct:=c13) (dcd:=fun y=>(y.2.1)) Tryz.func13 (by kernel_rfl) (by rfl) (q1q (l:=[]) (by kernel_rfl) trivial) (by decide) (fun _=>rfl) (fun x r h=>(qrc x.1 x.2.1).trans h)
theorem n17 {T:Told} (H:qab T):qap T Tryz.prog (envL e17):=q5q (l:=e17) ⟨ok13 H,trivial⟩
theorem ok17 {T:Told} (H:qab T):qak T Tryz.prog 17 c17 :=
 qaG H.ty (n17 H) hm (lh:=qll) (ct:=c17) (dcd:=fun y=>(y.2.1)) Tryz.func17 (by kernel_rfl) (by rfl) (q1q (l:=[]) (by kernel_rfl) trivial) (by decide) (fun _=>rfl) (fun x r h=>(qp2 x.1 x.2.1).trans h)
theorem n69 {T:Told} (H:qab T):qap T Tryz.prog (envL e69):=q5q (l:=e69) ⟨ok60 H,ok66 H,qwn H,trivial⟩
theorem quX {T:Told} (H:qab T):q12q T Tryz.prog 43 (.loop (q3q 5 (q4q Tryz.f69) .skip)) ⟨qg0,qio,lp qe9 K0⟩ :=
 q7q H.ty (n69 H) hm (q1q (l:=[]) (by kernel_rfl) trivial) quY K0
theorem ok69 {T:Told} (H:qab T):qak T Tryz.prog 69 c69 :=
 qaG H.ty (n69 H) hm (lh:=ql9) (ct:=c69) (dcd:=fun y=>(y.2.1)) Tryz.func69 (by kernel_rfl) (by rfl) (q1q (l:=[(.loop (q3q 5 (q4q Tryz.f69) .skip),⟨qg0,qio,lp qe9 K0⟩)]) (by kernel_rfl) ⟨quX H,trivial⟩) (by decide) (fun _=>rfl) (fun x r h=>(quZ x.1 x.2.1).trans h)
theorem n70 {T:Told} (H:qab T):qap T Tryz.prog (envL e70):=q5q (l:=e70) ⟨ok60 H,ok92 H,qBd H,trivial⟩
theorem ok70 {T:Told} (H:qab T):qak T Tryz.prog 70 c70 :=
 qaG H.ty (n70 H) hm (lh:=qpk) (ct:=c70) (dcd:=fun y=>(y.2.1,y.2.2.1)) Tryz.func70 (by kernel_rfl) (by rfl) (q1q (l:=[]) (by kernel_rfl) trivial) (by decide) (fun _=>rfl) (fun x r h=>(quP x.1 x.2.1).trans h)
theorem n42 {T:Told} (H:qab T):qap T Tryz.prog (envL e42):=q5q (l:=e42) ⟨ok61 H,ok62 H,ok63 H,ok69 H,ok70 H,trivial⟩
theorem ok42 {T:Told} (H:qab T):qak T Tryz.prog 42 c42 :=
 qaG H.ty (n42 H) hm (lh:=qmB) (ct:=c42) (dcd:=fun y=>(y.2.1)) Tryz.func42 (by kernel_rfl) (by rfl) (q1q (l:=[]) (by kernel_rfl) trivial) (by decide) (fun _=>rfl) (fun x r h=>(qqH x.1 x.2.1).trans h)
theorem n19 {T:Told} (H:qab T):qap T Tryz.prog (envL e19):=q5q (l:=e19) ⟨ok35 H,ok37 H,ok38 H,ok41 H,ok42 H,ok43 H,trivial⟩
theorem ok19 {T:Told} (H:qab T):qak T Tryz.prog 19 c19 :=
 qaG H.ty (n19 H) hm (lh:=qmS) (ct:=c19) (dcd:=fun y=>(y.2.1)) Tryz.func19 (by kernel_rfl) (by rfl) (q1q (l:=[]) (by kernel_rfl) trivial) (by decide) (fun _=>rfl) (fun x r h=>(qrd x.1 x.2.1).trans h)
theorem n78 {T:Told} (H:qab T):qap T Tryz.prog (envL e78):=q5q (l:=e78) ⟨ok17 H,ok19 H,trivial⟩
theorem qpJ {T:Told} (H:qab T):q12q T Tryz.prog 37 (.loop (q3q 2 (q4q Tryz.f78) .skip)) ⟨qec,qfd,lp qbt K0⟩ :=
 q7q H.ty (n78 H) hm (q1q (l:=[]) (by kernel_rfl) trivial) qpK K0
theorem ok78 {T:Told} (H:qab T):qak T Tryz.prog 78 c78 :=
 qaG H.ty (n78 H) hm (lh:=qiz) (ct:=c78) (dcd:=fun y=>(y.2.1,y.2.2.1)) Tryz.func78 (by kernel_rfl) (by rfl) (q1q (l:=[(.loop (q3q 2 (q4q Tryz.f78) .skip),⟨qec,qfd,lp qbt K0⟩)]) (by kernel_rfl) ⟨qpJ H,trivial⟩) (by decide) (fun _=>rfl) (fun x r h=>(qpL x.1).trans h)
theorem n79 {T:Told} (H:qab T):qap T Tryz.prog (envL e79):=q5q (l:=e79) trivial
theorem ok79 {T:Told} (H:qab T):qak T Tryz.prog 79 c79 :=
 qaG H.ty (n79 H) hm (lh:=qkq) (ct:=c79) (dcd:=fun y=>(y.2.1)) Tryz.func79 (by kernel_rfl) (by rfl) (q1q (l:=[]) (by kernel_rfl) trivial) (by decide) (fun _=>rfl) (fun x r h=>(qoN x.1 x.2.1 x.2.2.1).trans h)
theorem n50 {T:Told} (H:qab T):qap T Tryz.prog (envL e50):=q5q (l:=e50) ⟨ok74 H,ok75 H,ok76 H,ok77 H,ok78 H,ok79 H,trivial⟩
theorem qoO {T:Told} (H:qab T):q12q T Tryz.prog 63 (.loop (q3q 7 (q4q Tryz.f50) .skip)) ⟨qdI,qev,lp qaz K0⟩ :=
 q7q H.ty (n50 H) hm (q1q (l:=[]) (by kernel_rfl) trivial) qoQ K0
theorem qoP {T:Told} (H:qab T):q12q T Tryz.prog 63 (.loop (q3q 4 (q4q Tryz.f50) .skip)) ⟨qdJ,qew,lp qbq K0⟩ :=
 q7q H.ty (n50 H) hm (q1q (l:=[(.loop (q3q 7 (q4q Tryz.f50) .skip),⟨qdI,qev,lp qaz K0⟩)]) (by kernel_rfl) ⟨qoO H,trivial⟩) qoR K0
theorem ok50 {T:Told} (H:qab T):qak T Tryz.prog 50 c50 :=
 qaG H.ty (n50 H) hm (lh:=qfV) (ct:=c50) (dcd:=fun y=>(y.2.1)) Tryz.func50 (by kernel_rfl) (by rfl) (q1q (l:=[(.loop (q3q 4 (q4q Tryz.f50) .skip),⟨qdJ,qew,lp qbq K0⟩)]) (by kernel_rfl) ⟨qoP H,trivial⟩) (by decide) (fun _=>rfl) (fun x r h=>(qoS x.1).trans h)
theorem n25 {T:Told} (H:qab T):qap T Tryz.prog (envL e25):=q5q (l:=e25) ⟨ok50 H,trivial⟩
theorem ok25 {T:Told} (H:qab T):qak T Tryz.prog 25 c25 :=
 qaG H.ty (n25 H) hm (lh:=qnH) (ct:=c25) (dcd:=fun y=>(y.2.1)) Tryz.func25 (by kernel_rfl) (by rfl) (q1q (l:=[]) (by kernel_rfl) trivial) (by decide) (fun _=>rfl) (fun x r h=>(qsk x.1).trans h)
theorem n7 {T:Told} (H:qab T):qap T Tryz.prog (envL e7):=q5q (l:=e7) ⟨ok25 H,trivial⟩
theorem ok7 {T:Told} (H:qab T):qak T Tryz.prog 7 c7 :=
 qaG H.ty (n7 H) hm (lh:=qhs) (ct:=c7) (dcd:=fun y=>(y.2.1)) Tryz.func7 (by kernel_rfl) (by rfl) (q1q (l:=[]) (by kernel_rfl) trivial) (by decide) (fun _=>rfl) (fun x r h=>(qkV x.1 x.2.1).trans h)
theorem n44 {T:Told} (H:qab T):qap T Tryz.prog (envL e44):=q5q (l:=e44) ⟨ok25 H,trivial⟩
theorem ok44 {T:Told} (H:qab T):qak T Tryz.prog 44 c44 :=
 qaG H.ty (n44 H) hm (lh:=qle) (ct:=c44) (dcd:=fun y=>(y.2.1)) Tryz.func44 (by kernel_rfl) (by rfl) (q1q (l:=[]) (by kernel_rfl) trivial) (by decide) (fun _=>rfl) (fun x r h=>(qpW x.1 x.2.1).trans h)
theorem n29 {T:Told} (H:qab T):qap T Tryz.prog (envL e29):=q5q (l:=e29) ⟨ok44 H,trivial⟩
theorem ok29 {T:Told} (H:qab T):qak T Tryz.prog 29 c29 :=
 qaG H.ty (n29 H) hm (lh:=qlg) (ct:=c29) (dcd:=fun y=>(y.2.1)) Tryz.func29 (by kernel_rfl) (by rfl) (q1q (l:=[]) (by kernel_rfl) trivial) (by decide) (fun _=>rfl) (fun x r h=>(qpY x.1 x.2.1).trans h)
theorem n73 {T:Told} (H:qab T):qap T Tryz.prog (envL e73):=q5q (l:=e73) ⟨ok61 H,ok63 H,trivial⟩
theorem ok73 {T:Told} (H:qab T):qak T Tryz.prog 73 c73 :=
 qaG H.ty (n73 H) hm (lh:=qmy) (ct:=c73) (dcd:=fun y=>(y.2.1)) Tryz.func73 (by kernel_rfl) (by rfl) (q1q (l:=[]) (by kernel_rfl) trivial) (by decide) (fun _=>rfl) (fun x r h=>(qqE x.1).trans h)
theorem n47 {T:Told} (H:qab T):qap T Tryz.prog (envL e47):=q5q (l:=e47) ⟨ok35 H,ok73 H,trivial⟩
theorem ok47 {T:Told} (H:qab T):qak T Tryz.prog 47 c47 :=
 qaG H.ty (n47 H) hm (lh:=qmK) (ct:=c47) (dcd:=fun y=>(y.2.1)) Tryz.func47 (by kernel_rfl) (by rfl) (q1q (l:=[]) (by kernel_rfl) trivial) (by decide) (fun _=>rfl) (fun x r h=>(qq8 x.1).trans h)
theorem n22 {T:Told} (H:qab T):qap T Tryz.prog (envL e22):=q5q (l:=e22) ⟨ok19 H,ok47 H,trivial⟩
theorem ok22 {T:Told} (H:qab T):qak T Tryz.prog 22 c22 :=
 qaG H.ty (n22 H) hm (lh:=qmH) (ct:=c22) (dcd:=fun y=>(y.2.1)) Tryz.func22 (by kernel_rfl) (by rfl) (q1q (l:=[]) (by kernel_rfl) trivial) (by decide) (fun _=>rfl) (fun x r h=>(qq6 x.1 x.2.1).trans h)
theorem n51 {T:Told} (H:qab T):qap T Tryz.prog (envL e51):=q5q (l:=e51) ⟨ok40 H,ok63 H,trivial⟩
theorem ok51 {T:Told} (H:qab T):qak T Tryz.prog 51 c51 :=
 qaG H.ty (n51 H) hm (lh:=qnu) (ct:=c51) (dcd:=fun y=>(y.2.1)) Tryz.func51 (by kernel_rfl) (by rfl) (q1q (l:=[]) (by kernel_rfl) trivial) (by decide) (fun _=>rfl) (fun x r h=>(qsj x.1).trans h)
theorem n52 {T:Told} (H:qab T):qap T Tryz.prog (envL e52):=q5q (l:=e52) ⟨ok41 H,ok61 H,ok73 H,ok80 H,trivial⟩
theorem ok52 {T:Told} (H:qab T):qak T Tryz.prog 52 c52 :=
 qaG H.ty (n52 H) hm (lh:=qln) (ct:=c52) (dcd:=fun y=>(y.2.1,y.2.2.1)) Tryz.func52 (by kernel_rfl) (by rfl) (q1q (l:=[]) (by kernel_rfl) trivial) (by decide) (fun _=>rfl) (fun x r h=>(qp3 x.1 x.2.1).trans h)
theorem n28 {T:Told} (H:qab T):qap T Tryz.prog (envL e28):=q5q (l:=e28) ⟨ok35 H,ok51 H,ok52 H,trivial⟩
theorem ok28 {T:Told} (H:qab T):qak T Tryz.prog 28 c28 :=
 qaG H.ty (n28 H) hm (lh:=qlp) (ct:=c28) (dcd:=fun y=>(y.2.1)) Tryz.func28 (by kernel_rfl) (by rfl) (q1q (l:=[]) (by kernel_rfl) trivial) (by decide) (fun _=>rfl) (fun x r h=>(qp4 x.1 x.2.1).trans h)
theorem n64 {T:Told} (H:qab T):qap T Tryz.prog (envL e64):=q5q (l:=e64) ⟨ok16 H,trivial⟩
theorem ql2 {T:Told} (H:qab T):q12q T Tryz.prog 13 (.loop (q3q 3 (q4q Tryz.f64) .skip)) ⟨qcr,qc6,lp qbd K0⟩ :=
 q7q H.ty (n64 H) hm (q1q (l:=[]) (by kernel_rfl) trivial) ql3 K0
theorem ok64 {T:Told} (H:qab T):qak T Tryz.prog 64 c64 :=
 qaG H.ty (n64 H) hm (lh:=qfL) (ct:=c64) (dcd:=fun y=>(y.2.1)) Tryz.func64 (by kernel_rfl) (by rfl) (q1q (l:=[(.loop (q3q 3 (q4q Tryz.f64) .skip),⟨qcr,qc6,lp qbd K0⟩)]) (by kernel_rfl) ⟨ql2 H,trivial⟩) (by decide) (fun _=>rfl) (fun x r h=>(ql4 x.1).trans h)
theorem n27 {T:Told} (H:qab T):qap T Tryz.prog (envL e27):=q5q (l:=e27) ⟨ok40 H,ok51 H,trivial⟩
theorem ok27 {T:Told} (H:qab T):qak T Tryz.prog 27 c27 :=
 qaG H.ty (n27 H) hm (lh:=qnX) (ct:=c27) (dcd:=fun y=>(y.2.1)) Tryz.func27 (by kernel_rfl) (by rfl) (q1q (l:=[]) (by kernel_rfl) trivial) (by decide) (fun _=>rfl) (fun x r h=>(qsB x.1).trans h)
theorem n26 {T:Told} (H:qab T):qap T Tryz.prog (envL e26):=q5q (l:=e26) ⟨ok27 H,trivial⟩
theorem ok26 {T:Told} (H:qab T):qak T Tryz.prog 26 c26 :=
 qaG H.ty (n26 H) hm (lh:=qmI) (ct:=c26) (dcd:=fun y=>(y.2.1)) Tryz.func26 (by kernel_rfl) (by rfl) (q1q (l:=[]) (by kernel_rfl) trivial) (by decide) (fun _=>rfl) (fun x r h=>(qq7 ).trans h)
theorem n93 {T:Told} (H:qab T):qap T Tryz.prog (envL e93):=q5q (l:=e93) ⟨ok26 H,trivial⟩
theorem ok93 {T:Told} (H:qab T):qak T Tryz.prog 93 c93 :=
 qis H.ty (n93 H) hm (lh:=qjD) (ct:=c93) (wi:=w93) (dcd:=fun y=>(y.2.1)) Tryz.func93 (by kernel_rfl) (by rfl) (q1q (l:=[]) (by kernel_rfl) trivial) (fun _=>rfl) rfl (fun x r h=>(qn5 ).trans h)
theorem n54 {T:Told} (H:qab T):qap T Tryz.prog (envL e54):=q5q (l:=e54) ⟨ok35 H,ok37 H,ok41 H,ok43 H,trivial⟩
theorem ok54 {T:Told} (H:qab T):qak T Tryz.prog 54 c54 :=
 qaG H.ty (n54 H) hm (lh:=qmL) (ct:=c54) (dcd:=fun y=>(y.2.1)) Tryz.func54 (by kernel_rfl) (by rfl) (q1q (l:=[]) (by kernel_rfl) trivial) (by decide) (fun _=>rfl) (fun x r h=>(qq9 x.1 x.2.1).trans h)
theorem n114 {T:Told} (H:qab T):qap T Tryz.prog (envL e114):=q5q (l:=e114) trivial
theorem qjz {T:Told} (H:qab T):q12q T Tryz.prog 29 (.loop (q3q 4 (q4q Tryz.f114) .skip)) ⟨qbD,qcb,lp qaj K0⟩ :=
 q7q H.ty (n114 H) hm (q1q (l:=[]) (by kernel_rfl) trivial) qjA K0
theorem qA9 {T:Told} (H:qab T):qak T Tryz.prog 114 c114 :=
 qis H.ty (n114 H) hm (lh:=qd2) (ct:=c114) (wi:=w114) (dcd:=fun y=>(y.2.1,y.2.2.1)) Tryz.func114 (by kernel_rfl) (by rfl) (q1q (l:=[(.loop (q3q 4 (q4q Tryz.f114) .skip),⟨qbD,qcb,lp qaj K0⟩)]) (by kernel_rfl) ⟨qjz H,trivial⟩) (fun _=>rfl) rfl (fun x r h=>(qjB x.1 x.2.1).trans h)
theorem n115 {T:Told} (H:qab T):qap T Tryz.prog (envL e115):=q5q (l:=e115) trivial
theorem qjj {T:Told} (H:qab T):q12q T Tryz.prog 32 (.loop (q3q 5 (q4q Tryz.f115) .skip)) ⟨qbp,qb0,lp qax K0⟩ :=
 q7q H.ty (n115 H) hm (q1q (l:=[]) (by kernel_rfl) trivial) qjk K0
theorem qA8 {T:Told} (H:qab T):qak T Tryz.prog 115 c115 :=
 qis H.ty (n115 H) hm (lh:=qdN) (ct:=c115) (wi:=w115) (dcd:=fun y=>(y.2.1,y.2.2.1)) Tryz.func115 (by kernel_rfl) (by rfl) (q1q (l:=[(.loop (q3q 5 (q4q Tryz.f115) .skip),⟨qbp,qb0,lp qax K0⟩)]) (by kernel_rfl) ⟨qjj H,trivial⟩) (fun _=>rfl) rfl (fun x r h=>(qjl x.1).trans h)
theorem n128 {T:Told} (H:qab T):qap T Tryz.prog (envL e128):=q5q (l:=e128) ⟨ok35 H,ok38 H,ok52 H,trivial⟩
theorem qA5 {T:Told} (H:qab T):qak T Tryz.prog 128 c128 :=
 qaG H.ty (n128 H) hm (lh:=qmN) (ct:=c128) (dcd:=fun y=>(y.2.1,y.2.2.1)) Tryz.func128 (by kernel_rfl) (by rfl) (q1q (l:=[]) (by kernel_rfl) trivial) (by decide) (fun _=>rfl) (fun x r h=>(qra x.1).trans h)
theorem n127 {T:Told} (H:qab T):qap T Tryz.prog (envL e127):=q5q (l:=e127) ⟨ok22 H,ok28 H,ok54 H,qA5 H,trivial⟩
theorem qh9 {T:Told} (H:qab T):q12q T Tryz.prog 104 (.loop (q3q 7 (q4q Tryz.f127) .skip)) ⟨qa5,qbB,lp qan K0⟩ :=
 q7q H.ty (n127 H) hm (q1q (l:=[]) (by kernel_rfl) trivial) qia K0
theorem qA6 {T:Told} (H:qab T):qak T Tryz.prog 127 c127 :=
 qis H.ty (n127 H) hm (lh:=qc8) (ct:=c127) (wi:=w127) (dcd:=fun y=>(y.2.1,y.2.2.1)) Tryz.func127 (by kernel_rfl) (by rfl) (q1q (l:=[(.loop (q3q 7 (q4q Tryz.f127) .skip),⟨qa5,qbB,lp qan K0⟩)]) (by kernel_rfl) ⟨qh9 H,trivial⟩) (fun _=>rfl) rfl (fun x r h=>(qib x.1 x.2.1).trans h)
theorem n116 {T:Told} (H:qab T):qap T Tryz.prog (envL e116):=q5q (l:=e116) ⟨qA6 H,trivial⟩
theorem qiN {T:Told} (H:qab T):q12q T Tryz.prog 66 (.loop (q3q 8 (q4q Tryz.f116) .skip)) ⟨qbh,qbO,lp qav K0⟩ :=
 q7q H.ty (n116 H) hm (q1q (l:=[]) (by kernel_rfl) trivial) qiO K0
theorem qBS {T:Told} (H:qab T):qak T Tryz.prog 116 c116 :=
 qis H.ty (n116 H) hm (lh:=qdu) (ct:=c116) (wi:=w116) (dcd:=fun y=>(y.2.1,y.2.2.1)) Tryz.func116 (by kernel_rfl) (by rfl) (q1q (l:=[(.loop (q3q 8 (q4q Tryz.f116) .skip),⟨qbh,qbO,lp qav K0⟩)]) (by kernel_rfl) ⟨qiN H,trivial⟩) (fun _=>rfl) rfl (fun x r h=>(qiP x.1 x.2.1).trans h)
theorem n117 {T:Told} (H:qab T):qap T Tryz.prog (envL e117):=q5q (l:=e117) ⟨ok16 H,ok19 H,ok28 H,ok35 H,ok54 H,qBa H,qA9 H,trivial⟩
theorem qic {T:Told} (H:qab T):q12q T Tryz.prog 113 (.loop (q3q 10 (q4q Tryz.f117) .skip)) ⟨qa6,qbE,lp qao K0⟩ :=
 q7q H.ty (n117 H) hm (q1q (l:=[]) (by kernel_rfl) trivial) qid K0
theorem qBR {T:Told} (H:qab T):qak T Tryz.prog 117 c117 :=
 qis H.ty (n117 H) hm (lh:=qdv) (ct:=c117) (wi:=w117) (dcd:=fun y=>(y.2.1,y.2.2.1)) Tryz.func117 (by kernel_rfl) (by rfl) (q1q (l:=[(.loop (q3q 10 (q4q Tryz.f117) .skip),⟨qa6,qbE,lp qao K0⟩)]) (by kernel_rfl) ⟨qic H,trivial⟩) (fun _=>rfl) rfl (fun x r h=>(qiQ x.1 x.2.1 x.2.2.1 x.2.2.2.1).trans h)
theorem n94 {T:Told} (H:qab T):qap T Tryz.prog (envL e94):=q5q (l:=e94) ⟨ok54 H,qA9 H,qA8 H,qBS H,qBR H,trivial⟩
theorem ok94 {T:Told} (H:qab T):qak T Tryz.prog 94 c94 :=
 qis H.ty (n94 H) hm (lh:=qfA) (ct:=c94) (wi:=w94) (dcd:=fun y=>(y.2.1,y.2.2.1,y.2.2.2.1,y.2.2.2.2.1,y.2.2.2.2.2.1,y.2.2.2.2.2.2.1,y.2.2.2.2.2.2.2.1,y.2.2.2.2.2.2.2.2.1,y.2.2.2.2.2.2.2.2.2.1,y.2.2.2.2.2.2.2.2.2.2.1)) Tryz.func94 (by kernel_rfl) (by rfl) (q1q (l:=[]) (by kernel_rfl) trivial) (fun _=>rfl) rfl (fun x r h=>(qji x.1 x.2.1 x.2.2.1 x.2.2.2.1 x.2.2.2.2.1 x.2.2.2.2.2.1 x.2.2.2.2.2.2.1 x.2.2.2.2.2.2.2.1 x.2.2.2.2.2.2.2.2.1 x.2.2.2.2.2.2.2.2.2.1).trans h)
theorem n18 {T:Told} (H:qab T):qap T Tryz.prog (envL e18):=q5q (l:=e18) ⟨ok16 H,ok19 H,trivial⟩
theorem qq2 {T:Told} (H:qab T):q12q T Tryz.prog 18 (.loop (q3q 3 (q4q Tryz.f18) .skip)) ⟨qeW,qf0,lp qcJ K0⟩ :=
 q7q H.ty (n18 H) hm (q1q (l:=[]) (by kernel_rfl) trivial) qq4 K0
theorem ok18 {T:Told} (H:qab T):qak T Tryz.prog 18 c18 :=
 qaG H.ty (n18 H) hm (lh:=qjx) (ct:=c18) (dcd:=fun y=>(y.2.1)) Tryz.func18 (by kernel_rfl) (by rfl) (q1q (l:=[(.loop (q3q 3 (q4q Tryz.f18) .skip),⟨qeW,qf0,lp qcJ K0⟩)]) (by kernel_rfl) ⟨qq2 H,trivial⟩) (by decide) (fun _=>rfl) (fun x r h=>(qq5 x.1).trans h)
theorem n118 {T:Told} (H:qab T):qap T Tryz.prog (envL e118):=q5q (l:=e118) ⟨ok18 H,qA6 H,trivial⟩
theorem qBQ {T:Told} (H:qab T):qak T Tryz.prog 118 c118 :=
 qis H.ty (n118 H) hm (lh:=qgw) (ct:=c118) (wi:=w118) (dcd:=fun y=>(y.2.1,y.2.2.1,y.2.2.2.1)) Tryz.func118 (by kernel_rfl) (by rfl) (q1q (l:=[]) (by kernel_rfl) trivial) (fun _=>rfl) rfl (fun x r h=>(qko x.1 x.2.1).trans h)
theorem n95 {T:Told} (H:qab T):qap T Tryz.prog (envL e95):=q5q (l:=e95) ⟨ok19 H,ok26 H,ok47 H,ok54 H,qA8 H,qBQ H,trivial⟩
theorem qiK {T:Told} (H:qab T):q12q T Tryz.prog 69 (.loop (q3q 3 (q4q Tryz.f95) .skip)) ⟨qbg,qbM,lp qat K0⟩ :=
 q7q H.ty (n95 H) hm (q1q (l:=[]) (by kernel_rfl) trivial) qiL K0
theorem ok95 {T:Told} (H:qab T):qak T Tryz.prog 95 c95 :=
 qis H.ty (n95 H) hm (lh:=qdt) (ct:=c95) (wi:=w95) (dcd:=fun y=>(y.1.1,y.2.1,y.2.2.1,y.2.2.2.1,y.2.2.2.2.1,y.2.2.2.2.2.1)) Tryz.func95 (by kernel_rfl) (by rfl) (q1q (l:=[(.loop (q3q 3 (q4q Tryz.f95) .skip),⟨qbg,qbM,lp qat K0⟩)]) (by kernel_rfl) ⟨qiK H,trivial⟩) (fun _=>rfl) rfl (fun x r h=>(qiM x.1 x.2.1 x.2.2.1 x.2.2.2.1 x.2.2.2.2.1 x.2.2.2.2.2.1 x.2.2.2.2.2.2.1 x.2.2.2.2.2.2.2.1 x.2.2.2.2.2.2.2.2.1 x.2.2.2.2.2.2.2.2.2.1 x.2.2.2.2.2.2.2.2.2.2.1 x.2.2.2.2.2.2.2.2.2.2.2.1 x.2.2.2.2.2.2.2.2.2.2.2.2.1 x.2.2.2.2.2.2.2.2.2.2.2.2.2.1 x.2.2.2.2.2.2.2.2.2.2.2.2.2.2.1).trans h)
theorem n106 {T:Told} (H:qab T):qap T Tryz.prog (envL e106):=q5q (l:=e106) ⟨ok13 H,trivial⟩
theorem qBc {T:Told} (H:qab T):qak T Tryz.prog 106 c106 :=
 qaG H.ty (n106 H) hm (lh:=qld) (ct:=c106) (dcd:=fun y=>(y.2.1)) Tryz.func106 (by kernel_rfl) (by rfl) (q1q (l:=[]) (by kernel_rfl) trivial) (by decide) (fun _=>rfl) (fun x r h=>(qpV x.1 x.2.1).trans h)
theorem n109 {T:Told} (H:qab T):qap T Tryz.prog (envL e109):=q5q (l:=e109) ⟨qBc H,trivial⟩
theorem qBb {T:Told} (H:qab T):qak T Tryz.prog 109 c109 :=
 qaG H.ty (n109 H) hm (lh:=qlf) (ct:=c109) (dcd:=fun y=>(y.2.1)) Tryz.func109 (by kernel_rfl) (by rfl) (q1q (l:=[]) (by kernel_rfl) trivial) (by decide) (fun _=>rfl) (fun x r h=>(qpX x.1 x.2.1).trans h)
theorem n119 {T:Told} (H:qab T):qap T Tryz.prog (envL e119):=q5q (l:=e119) ⟨ok54 H,qA5 H,trivial⟩
theorem qA7 {T:Told} (H:qab T):qak T Tryz.prog 119 c119 :=
 qaG H.ty (n119 H) hm (lh:=qmP) (ct:=c119) (dcd:=fun y=>(y.2.1,y.2.2.1)) Tryz.func119 (by kernel_rfl) (by rfl) (q1q (l:=[]) (by kernel_rfl) trivial) (by decide) (fun _=>rfl) (fun x r h=>(qrb x.1 x.2.1).trans h)
theorem n120 {T:Told} (H:qab T):qap T Tryz.prog (envL e120):=q5q (l:=e120) trivial
theorem qBP {T:Told} (H:qab T):qak T Tryz.prog 120 c120 :=
 qis H.ty (n120 H) hm (lh:=qf2) (ct:=c120) (wi:=w120) (dcd:=fun y=>(y.2.1,y.2.2.1)) Tryz.func120 (by kernel_rfl) (by rfl) (q1q (l:=[]) (by kernel_rfl) trivial) (fun _=>rfl) rfl (fun x r h=>(qjC x.1).trans h)
theorem n96 {T:Told} (H:qab T):qap T Tryz.prog (envL e96):=q5q (l:=e96) ⟨ok54 H,qBb H,qA7 H,qBP H,trivial⟩
theorem ok96 {T:Told} (H:qab T):qak T Tryz.prog 96 c96 :=
 qis H.ty (n96 H) hm (lh:=qeX) (ct:=c96) (wi:=w96) (dcd:=fun y=>(y.1.1,y.2.1,y.2.2.1,y.2.2.2.1,y.2.2.2.2.1,y.2.2.2.2.2.1,y.2.2.2.2.2.2.1,y.2.2.2.2.2.2.2.1,y.2.2.2.2.2.2.2.2.1,y.2.2.2.2.2.2.2.2.2.1,y.2.2.2.2.2.2.2.2.2.2.1,y.2.2.2.2.2.2.2.2.2.2.2.1,y.2.2.2.2.2.2.2.2.2.2.2.2.1,y.2.2.2.2.2.2.2.2.2.2.2.2.2.1,y.2.2.2.2.2.2.2.2.2.2.2.2.2.2.1,y.2.2.2.2.2.2.2.2.2.2.2.2.2.2.2.1,y.2.2.2.2.2.2.2.2.2.2.2.2.2.2.2.2.1)) Tryz.func96 (by kernel_rfl) (by rfl) (q1q (l:=[]) (by kernel_rfl) trivial) (fun _=>rfl) rfl (fun x r h=>(qh6 x.1 x.2.1 x.2.2.1 x.2.2.2.1 x.2.2.2.2.1 x.2.2.2.2.2.1 x.2.2.2.2.2.2.1 x.2.2.2.2.2.2.2.1 x.2.2.2.2.2.2.2.2.1 x.2.2.2.2.2.2.2.2.2.1 x.2.2.2.2.2.2.2.2.2.2.1 x.2.2.2.2.2.2.2.2.2.2.2.1 x.2.2.2.2.2.2.2.2.2.2.2.2.1 x.2.2.2.2.2.2.2.2.2.2.2.2.2.1 x.2.2.2.2.2.2.2.2.2.2.2.2.2.2.1 x.2.2.2.2.2.2.2.2.2.2.2.2.2.2.2.1 x.2.2.2.2.2.2.2.2.2.2.2.2.2.2.2.2.1).trans h)
theorem n65 {T:Told} (H:qab T):qap T Tryz.prog (envL e65):=q5q (l:=e65) ⟨ok26 H,ok93 H,ok94 H,ok95 H,ok96 H,trivial⟩
theorem qiF {T:Told} (H:qab T):q12q T Tryz.prog 91 (.loop (q3q 9 (q4q Tryz.f65) .skip)) ⟨qbe,qbK,lp qal K0⟩ :=
 q7q H.ty (n65 H) hm (q1q (l:=[]) (by kernel_rfl) trivial) qiH K0
theorem qiG {T:Told} (H:qab T):q12q T Tryz.prog 91 (.loop (q3q 1 (q4q Tryz.f65) .skip)) ⟨qbf,qbL,lp qas K0⟩ :=
 q7q H.ty (n65 H) hm (q1q (l:=[(.loop (q3q 9 (q4q Tryz.f65) .skip),⟨qbe,qbK,lp qal K0⟩)]) (by kernel_rfl) ⟨qiF H,trivial⟩) qiI K0
theorem ok65 {T:Told} (H:qab T):qak T Tryz.prog 65 c65 :=
 qis H.ty (n65 H) hm (lh:=qcm) (ct:=c65) (wi:=w65) (dcd:=fun y=>(y.1.1,y.2.1,y.2.2.1,y.2.2.2.1,y.2.2.2.2.1,y.2.2.2.2.2.1)) Tryz.func65 (by kernel_rfl) (by rfl) (q1q (l:=[(.loop (q3q 1 (q4q Tryz.f65) .skip),⟨qbf,qbL,lp qas K0⟩)]) (by kernel_rfl) ⟨qiG H,trivial⟩) (fun _=>rfl) rfl (fun x r h=>(qiJ x.1 x.2.1 x.2.2.1 x.2.2.2.1 x.2.2.2.2.1 x.2.2.2.2.2.1).trans h)
theorem n39 {T:Told} (H:qab T):qap T Tryz.prog (envL e39):=q5q (l:=e39) ⟨ok64 H,ok65 H,trivial⟩
theorem qn2 {T:Told} (H:qab T):q12q T Tryz.prog 34 (.loop (q3q 3 (q4q Tryz.f39) .skip)) ⟨qc7,qd1,lp qbN K0⟩ :=
 q7q H.ty (n39 H) hm (q1q (l:=[]) (by kernel_rfl) trivial) qn3 K0
theorem ok39 {T:Told} (H:qab T):qak T Tryz.prog 39 c39 :=
 qaG H.ty (n39 H) hm (lh:=qg9) (ct:=c39) (dcd:=fun y=>(y.2.1)) Tryz.func39 (by kernel_rfl) (by rfl) (q1q (l:=[(.loop (q3q 3 (q4q Tryz.f39) .skip),⟨qc7,qd1,lp qbN K0⟩)]) (by kernel_rfl) ⟨qn2 H,trivial⟩) (by decide) (fun _=>rfl) (fun x r h=>(qn4 x.1 x.2.1 x.2.2.1 x.2.2.2.1).trans h)
theorem n53 {T:Told} (H:qab T):qap T Tryz.prog (envL e53):=q5q (l:=e53) ⟨ok29 H,ok39 H,trivial⟩
theorem ok53 {T:Told} (H:qab T):qak T Tryz.prog 53 c53 :=
 qaG H.ty (n53 H) hm (lh:=qie) (ct:=c53) (dcd:=fun y=>(y.2.1,y.2.2.1)) Tryz.func53 (by kernel_rfl) (by rfl) (q1q (l:=[]) (by kernel_rfl) trivial) (by decide) (fun _=>rfl) (fun x r h=>(ql5 x.1 x.2.1 x.2.2.1 x.2.2.2.1).trans h)
theorem n30 {T:Told} (H:qab T):qap T Tryz.prog (envL e30):=q5q (l:=e30) ⟨ok22 H,ok28 H,ok53 H,ok54 H,trivial⟩
theorem qlF {T:Told} (H:qab T):q12q T Tryz.prog 48 (.loop (q3q 5 (q4q Tryz.f30) .skip)) ⟨qce,qcO,lp qaZ K0⟩ :=
 q7q H.ty (n30 H) hm (q1q (l:=[]) (by kernel_rfl) trivial) qlG K0
theorem ok30 {T:Told} (H:qab T):qak T Tryz.prog 30 c30 :=
 qaG H.ty (n30 H) hm (lh:=qfu) (ct:=c30) (dcd:=fun y=>(y.2.1)) Tryz.func30 (by kernel_rfl) (by rfl) (q1q (l:=[(.loop (q3q 5 (q4q Tryz.f30) .skip),⟨qce,qcO,lp qaZ K0⟩)]) (by kernel_rfl) ⟨qlF H,trivial⟩) (by decide) (fun _=>rfl) (fun x r h=>(qlH x.1 x.2.1 x.2.2.1).trans h)
theorem n9 {T:Told} (H:qab T):qap T Tryz.prog (envL e9):=q5q (l:=e9) ⟨ok29 H,ok30 H,trivial⟩
theorem ok9 {T:Told} (H:qab T):qak T Tryz.prog 9 c9 :=
 qaG H.ty (n9 H) hm (lh:=qjf) (ct:=c9) (dcd:=fun y=>(y.2.1,y.2.2.1)) Tryz.func9 (by kernel_rfl) (by rfl) (q1q (l:=[]) (by kernel_rfl) trivial) (by decide) (fun _=>rfl) (fun x r h=>(qnb x.1 x.2.1 x.2.2.1 x.2.2.2.1).trans h)
theorem n8 {T:Told} (H:qab T):qap T Tryz.prog (envL e8):=q5q (l:=e8) ⟨ok9 H,ok17 H,ok26 H,ok27 H,ok28 H,trivial⟩
theorem qj9 {r} (h:c8.F ()=r):qbn=r:=by
 subst h
 delta c8
 exact(@F_in [] _ _ (fun _=>qbn) _ _ () _ rfl).symm
theorem qj7 (x) (r:c8.T) (h:c8.F x=some r):fnF tb (envL e8) Tryz.f8 qea c8.ps c8.rs (T:=c8.T) (fun y=>(y.2.1)) x=some r:=by
 cases x;exact qj8.trans (qj9 h)
theorem ok8 {T:Told} (H:qab T):qak T Tryz.prog 8 c8 :=
 qaG H.ty (n8 H) hm (lh:=qea) (ct:=c8) (dcd:=fun y=>(y.2.1)) Tryz.func8 (by kernel_rfl) (by rfl) (q1q (l:=[]) (by kernel_rfl) trivial) (by decide) (fun _=>rfl) (fun x r h=>qj7 x r h)
theorem n15 {T:Told} (H:qab T):qap T Tryz.prog (envL e15):=q5q (l:=e15) ⟨ok29 H,ok39 H,trivial⟩
theorem ok15 {T:Told} (H:qab T):qak T Tryz.prog 15 c15 :=
 qaG H.ty (n15 H) hm (lh:=qhz) (ct:=c15) (dcd:=fun y=>(y.2.1,y.2.2.1)) Tryz.func15 (by kernel_rfl) (by rfl) (q1q (l:=[]) (by kernel_rfl) trivial) (by decide) (fun _=>rfl) (fun x r h=>(qlq x.1 x.2.1).trans h)
theorem qBk {T:Told} (H:qab T):qap T Tryz.prog (envL qyK):=q5q (l:=qyK) ⟨ok16 H,ok19 H,trivial⟩
theorem qnU {T:Told} (H:qab T):q12q T Tryz.prog 18 (.loop (q3q 3 (q4q Tryz.f18) .skip)) ⟨qc5,qd0,lp qbJ K0⟩ :=
 q7q H.ty (qBk H) hm (q1q (l:=[]) (by kernel_rfl) trivial) qnV K0
theorem qzl {T:Told} (H:qab T):qak T Tryz.prog 18 qvk :=
 qaG H.ty (qBk H) hm (lh:=qg6) (ct:=qvk) (dcd:=fun y=>(y.1.1,y.2.1)) Tryz.func18 (by kernel_rfl) (by rfl) (q1q (l:=[(.loop (q3q 3 (q4q Tryz.f18) .skip),⟨qc5,qd0,lp qbJ K0⟩)]) (by kernel_rfl) ⟨qnU H,trivial⟩) (by decide) (fun _=>rfl) (fun x r h=>(qnW x.1).trans h)
theorem n31 {T:Told} (H:qab T):qap T Tryz.prog (envL e31):=q5q (l:=e31) ⟨ok16 H,trivial⟩
theorem qme {T:Told} (H:qab T):q12q T Tryz.prog 22 (.loop (q3q 6 (q4q Tryz.f31) .skip)) ⟨qct,qda,lp qbj K0⟩ :=
 q7q tyO (n31 H) hm (q1q (l:=[]) (by kernel_rfl) trivial) qmg K0
theorem qmf {T:Told} (H:qab T):q12q T Tryz.prog 22 (.loop (q3q 3 (q4q Tryz.f31) .skip)) ⟨qcu,qdb,lp qbk K0⟩ :=
 q7q tyO (n31 H) hm (q1q (l:=[(.loop (q3q 6 (q4q Tryz.f31) .skip),⟨qct,qda,lp qbj K0⟩)]) (by kernel_rfl) ⟨qme H,trivial⟩) qmh K0
theorem ok31 {T:Told} (H:qab T):qak T Tryz.prog 31 c31 :=
 qaG tyO (n31 H) hm (lh:=qem) (ct:=c31) (dcd:=fun y=>(y.2.1)) Tryz.func31 (by kernel_rfl) (by rfl) (q1q (l:=[(.loop (q3q 3 (q4q Tryz.f31) .skip),⟨qcu,qdb,lp qbk K0⟩)]) (by kernel_rfl) ⟨qmf H,trivial⟩) (by decide) (fun _=>rfl) (fun x r h=>(qmi x.1).trans h)
theorem ok32 {T:Told} (H:qab T):qak T Tryz.prog 32 c32:=qvA (ok25 H)
theorem n10 {T:Told} (H:qab T):qap T Tryz.prog (envL e10):=q5q (l:=e10) ⟨ok15 H,qzl H,ok22 H,ok30 H,ok31 H,ok32 H,trivial⟩
theorem qkP {T:Told} (H:qab T):q12q T Tryz.prog 91 (.loop (q3q 11 (q4q Tryz.f10) .skip)) ⟨qb4,qcy,lp qaP K0⟩ :=
 q7q tyO (n10 H) hm (q1q (l:=[]) (by kernel_rfl) trivial) qkR K0
theorem qlI {T:Told} (H:qab T):q12q T Tryz.prog 91 (.loop (q3q 7 (q4q Tryz.f10) .skip)) ⟨qcf,qcP,lp qa0 K0⟩ :=
 q7q tyO (n10 H) hm (q1q (l:=[(.loop (q3q 11 (q4q Tryz.f10) .skip),⟨qb4,qcy,lp qaP K0⟩)]) (by kernel_rfl) ⟨qkP H,trivial⟩) qlJ K0
theorem qkO {T:Told} (H:qab T):q12q T Tryz.prog 91 (.loop (q3q 18 (q4q Tryz.f10) .skip)) ⟨qb3,qcx,lp qaO K0⟩ :=
 q7q tyO (n10 H) hm (q1q (l:=[]) (by kernel_rfl) trivial) qkQ K0
theorem ok10 {T:Told} (H:qab T):qak T Tryz.prog 10 c10 :=
 qaG tyO (n10 H) hm (lh:=qcQ) (ct:=c10) (dcd:=fun y=>(y.2.1,y.2.2.1)) Tryz.func10 (by kernel_rfl) (by rfl) (q1q (l:=[(.loop (q3q 7 (q4q Tryz.f10) .skip),⟨qcf,qcP,lp qa0 K0⟩),(.loop (q3q 18 (q4q Tryz.f10) .skip),⟨qb3,qcx,lp qaO K0⟩)]) (by kernel_rfl) ⟨qlI H,qkO H,trivial⟩) (by decide) (fun _=>rfl) (fun x r h=>(qlK x.1 x.2.1).trans h)
theorem n71 {T:Told} (H:qab T):qap T Tryz.prog (envL e71):=q5q (l:=e71) ⟨qBc H,trivial⟩
theorem ok71 {T:Told} (H:qab T):qak T Tryz.prog 71 c71 :=
 qaG H.ty (n71 H) hm (lh:=qlc) (ct:=c71) (dcd:=fun y=>(y.2.1)) Tryz.func71 (by kernel_rfl) (by rfl) (q1q (l:=[]) (by kernel_rfl) trivial) (by decide) (fun _=>rfl) (fun x r h=>(qpU x.1 x.2.1).trans h)
theorem n45 {T:Told} (H:qab T):qap T Tryz.prog (envL e45):=q5q (l:=e45) ⟨ok35 H,ok71 H,trivial⟩
theorem qoT {T:Told} (H:qab T):q12q T Tryz.prog 24 (.loop (q3q 2 (q4q Tryz.f45) .skip)) ⟨qdK,qey,lp qaW K0⟩ :=
 q7q H.ty (n45 H) hm (q1q (l:=[]) (by kernel_rfl) trivial) qoU K0
theorem ok45 {T:Told} (H:qab T):qak T Tryz.prog 45 c45 :=
 qaG H.ty (n45 H) hm (lh:=qhG) (ct:=c45) (dcd:=fun y=>(y.2.1)) Tryz.func45 (by kernel_rfl) (by rfl) (q1q (l:=[(.loop (q3q 2 (q4q Tryz.f45) .skip),⟨qdK,qey,lp qaW K0⟩)]) (by kernel_rfl) ⟨qoT H,trivial⟩) (by decide) (fun _=>rfl) (fun x r h=>(qoV x.1 x.2.1).trans h)
theorem n20 {T:Told} (H:qab T):qap T Tryz.prog (envL e20):=q5q (l:=e20) ⟨ok16 H,ok19 H,ok44 H,ok45 H,trivial⟩
theorem qm8 {T:Told} (H:qab T):q12q T Tryz.prog 32 (.loop (q3q 6 (q4q Tryz.f20) .skip)) ⟨qcF,qdB,lp qbu K0⟩ :=
 q7q H.ty (n20 H) hm (q1q (l:=[]) (by kernel_rfl) trivial) qm9 K0
theorem ok20 {T:Told} (H:qab T):qak T Tryz.prog 20 c20 :=
 qaG H.ty (n20 H) hm (lh:=qgn) (ct:=c20) (dcd:=fun y=>(y.2.1,y.2.2.1)) Tryz.func20 (by kernel_rfl) (by rfl) (q1q (l:=[(.loop (q3q 6 (q4q Tryz.f20) .skip),⟨qcF,qdB,lp qbu K0⟩)]) (by kernel_rfl) ⟨qm8 H,trivial⟩) (by decide) (fun _=>rfl) (fun x r h=>(qna x.1 x.2.1).trans h)
theorem n107 {T:Told} (H:qab T):qap T Tryz.prog (envL e107):=q5q (l:=e107) trivial
theorem qBU {T:Told} (H:qab T):qak T Tryz.prog 107 c107 :=
 qaG H.ty (n107 H) hm (lh:=qj0) (ct:=c107) (dcd:=fun y=>(y.2.1)) Tryz.func107 (by kernel_rfl) (by rfl) (q1q (l:=[]) (by kernel_rfl) trivial) (by decide) (fun _=>rfl) (fun x r h=>(qos x.1 x.2.1).trans h)
theorem n125 {T:Told} (H:qab T):qap T Tryz.prog (envL e125):=q5q (l:=e125) ⟨qA7 H,trivial⟩
theorem qBL {T:Told} (H:qab T):qak T Tryz.prog 125 c125 :=
 qaG H.ty (n125 H) hm (lh:=qkz) (ct:=c125) (dcd:=fun y=>(y.2.1)) Tryz.func125 (by kernel_rfl) (by rfl) (q1q (l:=[]) (by kernel_rfl) trivial) (by decide) (fun _=>rfl) (fun x r h=>(qo0 x.1 x.2.1).trans h)
theorem n108 {T:Told} (H:qab T):qap T Tryz.prog (envL e108):=q5q (l:=e108) ⟨ok19 H,ok54 H,qBL H,trivial⟩
theorem qBT {T:Told} (H:qab T):qak T Tryz.prog 108 c108 :=
 qaG H.ty (n108 H) hm (lh:=qkA) (ct:=c108) (dcd:=fun y=>(y.2.1)) Tryz.func108 (by kernel_rfl) (by rfl) (q1q (l:=[]) (by kernel_rfl) trivial) (by decide) (fun _=>rfl) (fun x r h=>(qo1 x.1 x.2.1 x.2.2.1 x.2.2.2.1).trans h)
theorem n72 {T:Told} (H:qab T) (n:Nat) (hr:qak T Tryz.prog 72 (c72 n)):qap T Tryz.prog (envL (e72 n)):=q5q (l:=(e72 n)) ⟨ok35 H,hr,qBU H,qBT H,qBb H,trivial⟩
theorem ok72 {T:Told} (H:qab T):∀ n,qak T Tryz.prog 72 (c72 n)
 | 0=>qak.never Tryz.func72 (by kernel_rfl) (by rfl) (fun _=>rfl)
 | n+1=>qaG H.ty (n72 H n (ok72 H n)) hm (lh:=qjZ n) (ct:=c72 (n+1)) (dcd:=fun y=>(y.2.1)) Tryz.func72 (by kernel_rfl) (by rfl) (q1q (l:=[]) (by kernel_rfl) trivial) (Nat.le_of_ble_eq_true rfl) (fun _=>rfl) (fun x r h=>(qor n x.1 x.2.1 x.2.2.1 x.2.2.2.1).trans h)
theorem n46 {T:Told} (H:qab T):qap T Tryz.prog (envL e46):=q5q (l:=e46) ⟨ok16 H,ok19 H,ok29 H,ok72 H R0,trivial⟩
theorem qot {T:Told} (H:qab T):q12q T Tryz.prog 35 (.loop (q3q 6 (q4q Tryz.f46) .skip)) ⟨qde,qd9,lp qbT K0⟩ :=
 q7q H.ty (n46 H) hm (q1q (l:=[]) (by kernel_rfl) trivial) qou K0
theorem ok46 {T:Told} (H:qab T):qak T Tryz.prog 46 c46 :=
 qaG H.ty (n46 H) hm (lh:=qhq) (ct:=c46) (dcd:=fun y=>(y.2.1,y.2.2.1)) Tryz.func46 (by kernel_rfl) (by rfl) (q1q (l:=[(.loop (q3q 6 (q4q Tryz.f46) .skip),⟨qde,qd9,lp qbT K0⟩)]) (by kernel_rfl) ⟨qot H,trivial⟩) (by decide) (fun _=>rfl) (fun x r h=>(qov x.1 x.2.1 x.2.2.1).trans h)
theorem n21 {T:Told} (H:qab T):qap T Tryz.prog (envL e21):=q5q (l:=e21) ⟨ok25 H,ok46 H,trivial⟩
theorem ok21 {T:Told} (H:qab T):qak T Tryz.prog 21 c21 :=
 qaG H.ty (n21 H) hm (lh:=qkB) (ct:=c21) (dcd:=fun y=>(y.2.1,y.2.2.1)) Tryz.func21 (by kernel_rfl) (by rfl) (q1q (l:=[]) (by kernel_rfl) trivial) (by decide) (fun _=>rfl) (fun x r h=>(qo2 x.1).trans h)
theorem n5 {T:Told} (H:qab T):qap T Tryz.prog (envL e5):=q5q (l:=e5) ⟨ok6 H,ok7 H,ok8 H,ok10 H,ok15 H,ok16 H,ok17 H,qzl H,ok19 H,ok20 H,ok21 H,ok22 H,trivial⟩
theorem qgp {T:Told} (H:qab T):q12q T Tryz.prog 149 (.loop (q3q 21 (q4q Tryz.f5) .skip)) ⟨qaC,qaT,lp qag K0⟩ :=
 q7q H.ty (n5 H) hm (q1q (l:=[]) (by kernel_rfl) trivial) qgs K0
theorem qgr {T:Told} (H:qab T):q12q T Tryz.prog 149 (.loop (q3q 12 (q4q Tryz.f5) .skip)) ⟨qaE,qaV,lp qai K0⟩ :=
 q7q H.ty (n5 H) hm (q1q (l:=[]) (by kernel_rfl) trivial) qgu K0
theorem qgq {T:Told} (H:qab T):q12q T Tryz.prog 149 (.loop (q3q 18 (q4q Tryz.f5) .skip)) ⟨qaD,qaU,lp qah K0⟩ :=
 q7q H.ty (n5 H) hm (q1q (l:=[(.loop (q3q 21 (q4q Tryz.f5) .skip),⟨qaC,qaT,lp qag K0⟩)]) (by kernel_rfl) ⟨qgp H,trivial⟩) qgt K0
theorem ok5 {T:Told} (H:qab T):qak T Tryz.prog 5 c5 :=
 qaG H.ty (n5 H) hm (lh:=qa1) (ct:=c5) (dcd:=fun y=>(y.2.1)) Tryz.func5 (by kernel_rfl) (by rfl) (q1q (l:=[(.loop (q3q 12 (q4q Tryz.f5) .skip),⟨qaE,qaV,lp qai K0⟩),(.loop (q3q 18 (q4q Tryz.f5) .skip),⟨qaD,qaU,lp qah K0⟩)]) (by kernel_rfl) ⟨qgr H,qgq H,trivial⟩) (by decide) (fun _=>rfl) (fun x r h=>(qgL x.1 x.2.1).trans h)
end Go.Proofs.YtaeiamdjpkgjpaaGreatDoor.X
