/- Own work: part of the proof; the first line of each part says what it tells. -/
import Derived.Test.YtlagkhlolphmdaaGreatDoorLa11


namespace Go.Proofs.YtlagkhlolphmdaaGreatDoor.X
open Go
set_option linter.unusedVariables false
set_option linter.unusedSimpArgs false
set_option maxRecDepth 100000
theorem F_in {ps:List (Ty×PM)} {rs:List (Ty×Bool)} {T:Type} {F:HL (fsts ps)->Option T} {enc:T->HL (qhv ps)×HL (fsts rs)} {wi:Option Wir} (x:HL (fsts ps)) {r:Option T} (h:F x=r):(Ctr.mk ps rs T F enc wi).F x=r:=h
theorem hm:Tryz.prog.follows .mixedOrders=true:=by kernel_rfl
structure qab (T:Told):Prop where
 ty:TbOk Tryz.prog tb
 h96:qal T Tryz.prog 96 c96
 h101:qal T Tryz.prog 101 c101
theorem tyO:TbOk Tryz.prog tbO:=qvY (by kernel_rfl)
theorem n28 {T:Told} (H:qab T):qar T Tryz.prog (envL e28):=q5q (l:=e28) trivial
theorem ok28 {T:Told} (H:qab T):qal T Tryz.prog 28 c28 :=
 qaN H.ty (n28 H) hm (lh:=qfO) (ct:=c28) (dcd:=fun y=>(y.2.1)) Tryz.func28 (by kernel_rfl) (by rfl) (q1q (l:=[]) (by kernel_rfl) trivial) (by decide) (fun _=>rfl) (fun x r h=>(qjd x.1).trans h)
theorem n13 {T:Told} (H:qab T):qar T Tryz.prog (envL e13):=q5q (l:=e13) ⟨ok28 H,trivial⟩
theorem qk7 {T:Told} (H:qab T):q12q T Tryz.prog 67 (.loop (q3q 7 (q4q Tryz.f13) .skip)) ⟨qch,qcM,lp qaK K0⟩ :=
 q7q H.ty (n13 H) hm (q1q (l:=[]) (by kernel_rfl) trivial) qk9 K0
theorem qk8 {T:Told} (H:qab T):q12q T Tryz.prog 67 (.loop (q3q 3 (q4q Tryz.f13) .skip)) ⟨qci,qcN,lp qaL K0⟩ :=
 q7q H.ty (n13 H) hm (q1q (l:=[(.loop (q3q 7 (q4q Tryz.f13) .skip),⟨qch,qcM,lp qaK K0⟩)]) (by kernel_rfl) ⟨qk7 H,trivial⟩) qla K0
theorem ok13 {T:Told} (H:qab T):qal T Tryz.prog 13 c13 :=
 qaN H.ty (n13 H) hm (lh:=qdx) (ct:=c13) (dcd:=fun y=>(y.2.1)) Tryz.func13 (by kernel_rfl) (by rfl) (q1q (l:=[(.loop (q3q 3 (q4q Tryz.f13) .skip),⟨qci,qcN,lp qaL K0⟩)]) (by kernel_rfl) ⟨qk8 H,trivial⟩) (by decide) (fun _=>rfl) (fun x r h=>(qlb x.1).trans h)
theorem n29 {T:Told} (H:qab T):qar T Tryz.prog (envL e29):=q5q (l:=e29) trivial
theorem ok29 {T:Told} (H:qab T):qal T Tryz.prog 29 c29 :=
 qaN H.ty (n29 H) hm (lh:=qfN) (ct:=c29) (dcd:=fun y=>(y.2.1)) Tryz.func29 (by kernel_rfl) (by rfl) (q1q (l:=[]) (by kernel_rfl) trivial) (by decide) (fun _=>rfl) (fun x r h=>(qjc x.1).trans h)
theorem n14 {T:Told} (H:qab T):qar T Tryz.prog (envL e14):=q5q (l:=e14) ⟨ok29 H,trivial⟩
theorem qk4 {T:Told} (H:qab T):q12q T Tryz.prog 32 (.loop (q3q 3 (q4q Tryz.f14) .skip)) ⟨qcg,qcL,lp qaV K0⟩ :=
 q7q H.ty (n14 H) hm (q1q (l:=[]) (by kernel_rfl) trivial) qk5 K0
theorem ok14 {T:Told} (H:qab T):qal T Tryz.prog 14 c14 :=
 qaN H.ty (n14 H) hm (lh:=qe0) (ct:=c14) (dcd:=fun y=>(y.2.1)) Tryz.func14 (by kernel_rfl) (by rfl) (q1q (l:=[(.loop (q3q 3 (q4q Tryz.f14) .skip),⟨qcg,qcL,lp qaV K0⟩)]) (by kernel_rfl) ⟨qk4 H,trivial⟩) (by decide) (fun _=>rfl) (fun x r h=>(qk6 x.1 x.2.1).trans h)
theorem n4 {T:Told} (H:qab T):qar T Tryz.prog (envL e4):=q5q (l:=e4) ⟨ok13 H,ok14 H,trivial⟩
theorem ok4 {T:Told} (H:qab T):qal T Tryz.prog 4 c4 :=
 qaN H.ty (n4 H) hm (lh:=qgo) (ct:=c4) (dcd:=fun y=>(y.2.1,y.2.2.1)) Tryz.func4 (by kernel_rfl) (by rfl) (q1q (l:=[]) (by kernel_rfl) trivial) (by decide) (fun _=>rfl) (fun x r h=>(qj8 x.1 x.2.1).trans h)
theorem n54 {T:Told} (H:qab T):qar T Tryz.prog (envL e54):=q5q (l:=e54) trivial
theorem qsO {T:Told} (H:qab T):q12q T Tryz.prog 23 (.loop (q3q 2 (q4q Tryz.f54) .skip)) ⟨qfX,qg6,lp qdt K0⟩ :=
 q7q H.ty (n54 H) hm (q1q (l:=[]) (by kernel_rfl) trivial) qsP K0
theorem ok54 {T:Told} (H:qab T):qal T Tryz.prog 54 c54 :=
 qaN H.ty (n54 H) hm (lh:=qkU) (ct:=c54) (dcd:=fun y=>(y.2.1)) Tryz.func54 (by kernel_rfl) (by rfl) (q1q (l:=[(.loop (q3q 2 (q4q Tryz.f54) .skip),⟨qfX,qg6,lp qdt K0⟩)]) (by kernel_rfl) ⟨qsO H,trivial⟩) (by decide) (fun _=>rfl) (fun x r h=>(qsQ x.1).trans h)
theorem n31 {T:Told} (H:qab T):qar T Tryz.prog (envL e31):=q5q (l:=e31) ⟨ok54 H,trivial⟩
theorem ok31 {T:Told} (H:qab T):qal T Tryz.prog 31 c31 :=
 qaN H.ty (n31 H) hm (lh:=qrE) (ct:=c31) (dcd:=fun y=>(y.2.1)) Tryz.func31 (by kernel_rfl) (by rfl) (q1q (l:=[]) (by kernel_rfl) trivial) (by decide) (fun _=>rfl) (fun x r h=>(qwu x.1).trans h)
theorem n25 {T:Told} (H:qab T):qar T Tryz.prog (envL e25):=q5q (l:=e25) ⟨ok31 H,trivial⟩
theorem ok25 {T:Told} (H:qab T):qal T Tryz.prog 25 c25 :=
 qaN H.ty (n25 H) hm (lh:=qlr) (ct:=c25) (dcd:=fun y=>(y.2.1)) Tryz.func25 (by kernel_rfl) (by rfl) (q1q (l:=[]) (by kernel_rfl) trivial) (by decide) (fun _=>rfl) (fun x r h=>(qpV ).trans h)
theorem n61 {T:Told} (H:qab T):qar T Tryz.prog (envL e61):=q5q (l:=e61) ⟨ok54 H,trivial⟩
theorem qrF {T:Told} (H:qab T):q12q T Tryz.prog 24 (.loop (q3q 3 (q4q Tryz.f61) .skip)) ⟨qfi,qgn,lp qcW K0⟩ :=
 q7q H.ty (n61 H) hm (q1q (l:=[]) (by kernel_rfl) trivial) qrG K0
theorem ok61 {T:Told} (H:qab T):qal T Tryz.prog 61 c61 :=
 qaN H.ty (n61 H) hm (lh:=qjL) (ct:=c61) (dcd:=fun y=>(y.2.1)) Tryz.func61 (by kernel_rfl) (by rfl) (q1q (l:=[(.loop (q3q 3 (q4q Tryz.f61) .skip),⟨qfi,qgn,lp qcW K0⟩)]) (by kernel_rfl) ⟨qrF H,trivial⟩) (by decide) (fun _=>rfl) (fun x r h=>(qrH x.1).trans h)
theorem n79 {T:Told} (H:qab T):qar T Tryz.prog (envL e79):=q5q (l:=e79) trivial
theorem qru {T:Told} (H:qab T):q12q T Tryz.prog 45 (.loop (q3q 6 (q4q Tryz.f79) .skip)) ⟨qfe,qgj,lp qcD K0⟩ :=
 q7q H.ty (n79 H) hm (q1q (l:=[]) (by kernel_rfl) trivial) qrv K0
theorem ok79 {T:Told} (H:qab T):qal T Tryz.prog 79 c79 :=
 qaN H.ty (n79 H) hm (lh:=qjF) (ct:=c79) (dcd:=fun y=>(y.2.1)) Tryz.func79 (by kernel_rfl) (by rfl) (q1q (l:=[(.loop (q3q 6 (q4q Tryz.f79) .skip),⟨qfe,qgj,lp qcD K0⟩)]) (by kernel_rfl) ⟨qru H,trivial⟩) (by decide) (fun _=>rfl) (fun x r h=>(qrw x.1 x.2.1).trans h)
theorem n95 {T:Told} (H:qab T):qar T Tryz.prog (envL e95):=q5q (l:=e95) ⟨ok61 H,trivial⟩
theorem ok95 {T:Told} (H:qab T):qal T Tryz.prog 95 c95 :=
 qaN H.ty (n95 H) hm (lh:=qrD) (ct:=c95) (dcd:=fun y=>(y.2.1,y.2.2.1)) Tryz.func95 (by kernel_rfl) (by rfl) (q1q (l:=[]) (by kernel_rfl) trivial) (by decide) (fun _=>rfl) (fun x r h=>(qwt x.1).trans h)
theorem n80 {T:Told} (H:qab T):qar T Tryz.prog (envL e80):=q5q (l:=e80) ⟨ok31 H,ok95 H,trivial⟩
theorem qp5 {T:Told} (H:qab T):q12q T Tryz.prog 27 (.loop (q3q 3 (q4q Tryz.f80) .skip)) ⟨qel,qfy,lp qcV K0⟩ :=
 q7q H.ty (n80 H) hm (q1q (l:=[]) (by kernel_rfl) trivial) qp6 K0
theorem ok80 {T:Told} (H:qab T):qal T Tryz.prog 80 c80 :=
 qaN H.ty (n80 H) hm (lh:=qiG) (ct:=c80) (dcd:=fun y=>(y.2.1)) Tryz.func80 (by kernel_rfl) (by rfl) (q1q (l:=[(.loop (q3q 3 (q4q Tryz.f80) .skip),⟨qel,qfy,lp qcV K0⟩)]) (by kernel_rfl) ⟨qp5 H,trivial⟩) (by decide) (fun _=>rfl) (fun x r h=>(qp7 x.1 x.2.1).trans h)
theorem n81 {T:Told} (H:qab T):qar T Tryz.prog (envL e81):=q5q (l:=e81) ⟨H.h96,trivial⟩
theorem qro {T:Told} (H:qab T):q12q T Tryz.prog 24 (.loop (q3q 3 (q4q Tryz.f81) .skip)) ⟨qfc,qgh,lp qdn K0⟩ :=
 q7q H.ty (n81 H) hm (q1q (l:=[]) (by kernel_rfl) trivial) qrp K0
theorem ok81 {T:Told} (H:qab T):qal T Tryz.prog 81 c81 :=
 qaN H.ty (n81 H) hm (lh:=qjC) (ct:=c81) (dcd:=fun y=>(y.2.1)) Tryz.func81 (by kernel_rfl) (by rfl) (q1q (l:=[(.loop (q3q 3 (q4q Tryz.f81) .skip),⟨qfc,qgh,lp qdn K0⟩)]) (by kernel_rfl) ⟨qro H,trivial⟩) (by decide) (fun _=>rfl) (fun x r h=>(qrq x.1).trans h)
theorem n88 {T:Told} (H:qab T):qar T Tryz.prog (envL e88):=q5q (l:=e88) trivial
theorem ok88 {T:Told} (H:qab T):qal T Tryz.prog 88 c88 :=
 qaN H.ty (n88 H) hm (lh:=qn5) (ct:=c88) (dcd:=fun y=>(y.2.1)) Tryz.func88 (by kernel_rfl) (by rfl) (q1q (l:=[]) (by kernel_rfl) trivial) (by decide) (fun _=>rfl) (fun x r h=>(qsY x.1 x.2.1).trans h)
theorem n82 {T:Told} (H:qab T):qar T Tryz.prog (envL e82):=q5q (l:=e82) ⟨ok54 H,ok88 H,trivial⟩
theorem quQ {T:Told} (H:qab T):q12q T Tryz.prog 50 (.loop (q3q 6 (q4q Tryz.f82) .skip)) ⟨qgQ,qh6,lp qej K0⟩ :=
 q7q H.ty (n82 H) hm (q1q (l:=[]) (by kernel_rfl) trivial) quR K0
theorem ok82 {T:Told} (H:qab T):qal T Tryz.prog 82 c82 :=
 qaN H.ty (n82 H) hm (lh:=ql9) (ct:=c82) (dcd:=fun y=>(y.2.1)) Tryz.func82 (by kernel_rfl) (by rfl) (q1q (l:=[(.loop (q3q 6 (q4q Tryz.f82) .skip),⟨qgQ,qh6,lp qej K0⟩)]) (by kernel_rfl) ⟨quQ H,trivial⟩) (by decide) (fun _=>rfl) (fun x r h=>(quS x.1 x.2.1).trans h)
theorem n83 {T:Told} (H:qab T):qar T Tryz.prog (envL e83):=q5q (l:=e83) ⟨ok54 H,trivial⟩
theorem quT {T:Told} (H:qab T):q12q T Tryz.prog 51 (.loop (q3q 4 (q4q Tryz.f83) .skip)) ⟨qgR,qh7,lp qek K0⟩ :=
 q7q H.ty (n83 H) hm (q1q (l:=[]) (by kernel_rfl) trivial) quU K0
theorem ok83 {T:Told} (H:qab T):qal T Tryz.prog 83 c83 :=
 qaN H.ty (n83 H) hm (lh:=qma) (ct:=c83) (dcd:=fun y=>(y.2.1)) Tryz.func83 (by kernel_rfl) (by rfl) (q1q (l:=[(.loop (q3q 4 (q4q Tryz.f83) .skip),⟨qgR,qh7,lp qek K0⟩)]) (by kernel_rfl) ⟨quT H,trivial⟩) (by decide) (fun _=>rfl) (fun x r h=>(quV x.1 x.2.1).trans h)
theorem n86 {T:Told} (H:qab T):qar T Tryz.prog (envL e86):=q5q (l:=e86) ⟨ok54 H,trivial⟩
theorem qrr {T:Told} (H:qab T):q12q T Tryz.prog 38 (.loop (q3q 4 (q4q Tryz.f86) .skip)) ⟨qfd,qgi,lp qdo K0⟩ :=
 q7q H.ty (n86 H) hm (q1q (l:=[]) (by kernel_rfl) trivial) qrs K0
theorem ok86 {T:Told} (H:qab T):qal T Tryz.prog 86 c86 :=
 qaN H.ty (n86 H) hm (lh:=qjD) (ct:=c86) (dcd:=fun y=>(y.2.1,y.2.2.1)) Tryz.func86 (by kernel_rfl) (by rfl) (q1q (l:=[(.loop (q3q 4 (q4q Tryz.f86) .skip),⟨qfd,qgi,lp qdo K0⟩)]) (by kernel_rfl) ⟨qrr H,trivial⟩) (by decide) (fun _=>rfl) (fun x r h=>(qrt x.1 x.2.1).trans h)
theorem n97 {T:Told} (H:qab T):qar T Tryz.prog (envL e97):=q5q (l:=e97) ⟨H.h101,trivial⟩
theorem ok97 {T:Told} (H:qab T):qal T Tryz.prog 97 c97 :=
 qaN H.ty (n97 H) hm (lh:=qfP) (ct:=c97) (dcd:=fun y=>(y.2.1)) Tryz.func97 (by kernel_rfl) (by rfl) (q1q (l:=[]) (by kernel_rfl) trivial) (by decide) (fun _=>rfl) (fun x r h=>(qje x.1).trans h)
theorem n102 {T:Told} (H:qab T):qar T Tryz.prog (envL e102):=q5q (l:=e102) ⟨ok88 H,trivial⟩
theorem qsR {T:Told} (H:qab T):q12q T Tryz.prog 46 (.loop (q3q 3 (q4q Tryz.f102) .skip)) ⟨qfY,qg7,lp qeb K0⟩ :=
 q7q H.ty (n102 H) hm (q1q (l:=[]) (by kernel_rfl) trivial) qsS K0
theorem qBu {T:Told} (H:qab T):qal T Tryz.prog 102 c102 :=
 qaN H.ty (n102 H) hm (lh:=qkV) (ct:=c102) (dcd:=fun y=>(y.1.1,y.2.1)) Tryz.func102 (by kernel_rfl) (by rfl) (q1q (l:=[(.loop (q3q 3 (q4q Tryz.f102) .skip),⟨qfY,qg7,lp qeb K0⟩)]) (by kernel_rfl) ⟨qsR H,trivial⟩) (by decide) (fun _=>rfl) (fun x r h=>(qsT x.1 x.2.1 x.2.2.1).trans h)
theorem n103 {T:Told} (H:qab T):qar T Tryz.prog (envL e103):=q5q (l:=e103) ⟨ok88 H,trivial⟩
theorem qsZ {T:Told} (H:qab T):q12q T Tryz.prog 29 (.loop (q3q 2 (q4q Tryz.f103) .skip)) ⟨qf0,qha,lp qec K0⟩ :=
 q7q H.ty (n103 H) hm (q1q (l:=[]) (by kernel_rfl) trivial) qs0 K0
theorem qBt {T:Told} (H:qab T):qal T Tryz.prog 103 c103 :=
 qaN H.ty (n103 H) hm (lh:=qkX) (ct:=c103) (dcd:=fun y=>(y.1.1)) Tryz.func103 (by kernel_rfl) (by rfl) (q1q (l:=[(.loop (q3q 2 (q4q Tryz.f103) .skip),⟨qf0,qha,lp qec K0⟩)]) (by kernel_rfl) ⟨qsZ H,trivial⟩) (by decide) (fun _=>rfl) (fun x r h=>(qs1 x.1 x.2.1).trans h)
theorem n98 {T:Told} (H:qab T):qar T Tryz.prog (envL e98):=q5q (l:=e98) ⟨qBu H,qBt H,trivial⟩
theorem qrA {T:Told} (H:qab T):q12q T Tryz.prog 77 (.loop (q3q 4 (q4q Tryz.f98) .skip)) ⟨qfg,qgm,lp qbJ K0⟩ :=
 q7q H.ty (n98 H) hm (q1q (l:=[]) (by kernel_rfl) trivial) qrB K0
theorem ok98 {T:Told} (H:qab T):qal T Tryz.prog 98 c98 :=
 qaN H.ty (n98 H) hm (lh:=qjH) (ct:=c98) (dcd:=fun y=>(y.1.1,y.2.1)) Tryz.func98 (by kernel_rfl) (by rfl) (q1q (l:=[(.loop (q3q 4 (q4q Tryz.f98) .skip),⟨qfg,qgm,lp qbJ K0⟩)]) (by kernel_rfl) ⟨qrA H,trivial⟩) (by decide) (fun _=>rfl) (fun x r h=>(qrC x.1 x.2.1).trans h)
theorem n87 {T:Told} (H:qab T):qar T Tryz.prog (envL e87):=q5q (l:=e87) ⟨ok54 H,ok82 H,ok83 H,ok97 H,ok98 H,trivial⟩
theorem qsV {T:Told} (H:qab T):q12q T Tryz.prog 64 (.loop (q3q 7 (q4q Tryz.f87) .skip)) ⟨qfZ,qg9,lp qdv K0⟩ :=
 q7q H.ty (n87 H) hm (q1q (l:=[]) (by kernel_rfl) trivial) qsW K0
theorem ok87 {T:Told} (H:qab T):qal T Tryz.prog 87 c87 :=
 qaN H.ty (n87 H) hm (lh:=qkW) (ct:=c87) (dcd:=fun y=>(y.2.1,y.2.2.1)) Tryz.func87 (by kernel_rfl) (by rfl) (q1q (l:=[(.loop (q3q 7 (q4q Tryz.f87) .skip),⟨qfZ,qg9,lp qdv K0⟩)]) (by kernel_rfl) ⟨qsV H,trivial⟩) (by decide) (fun _=>rfl) (fun x r h=>(qsX x.1 x.2.1).trans h)
theorem n65 {T:Told} (H:qab T):qar T Tryz.prog (envL e65):=q5q (l:=e65) ⟨ok31 H,ok61 H,ok79 H,ok86 H,ok87 H,trivial⟩
theorem ok65 {T:Told} (H:qab T):qal T Tryz.prog 65 c65 :=
 qaN H.ty (n65 H) hm (lh:=qlI) (ct:=c65) (dcd:=fun y=>(y.2.1,y.2.2.1,y.2.2.2.1)) Tryz.func65 (by kernel_rfl) (by rfl) (q1q (l:=[]) (by kernel_rfl) trivial) (by decide) (fun _=>rfl) (fun x r h=>(qp8 x.1 x.2.1).trans h)
theorem n84 {T:Told} (H:qab T):qar T Tryz.prog (envL e84):=q5q (l:=e84) ⟨ok65 H,trivial⟩
theorem ok84 {T:Told} (H:qab T):qal T Tryz.prog 84 c84 :=
 qaN H.ty (n84 H) hm (lh:=qn4) (ct:=c84) (dcd:=fun y=>(y.2.1,y.2.2.1)) Tryz.func84 (by kernel_rfl) (by rfl) (q1q (l:=[]) (by kernel_rfl) trivial) (by decide) (fun _=>rfl) (fun x r h=>(qsU x.1 x.2.1).trans h)
theorem n85 {T:Told} (H:qab T):qar T Tryz.prog (envL e85):=q5q (l:=e85) ⟨ok54 H,ok88 H,trivial⟩
theorem qrx {T:Told} (H:qab T):q12q T Tryz.prog 39 (.loop (q3q 4 (q4q Tryz.f85) .skip)) ⟨qff,qgl,lp qdp K0⟩ :=
 q7q H.ty (n85 H) hm (q1q (l:=[]) (by kernel_rfl) trivial) qry K0
theorem ok85 {T:Told} (H:qab T):qal T Tryz.prog 85 c85 :=
 qaN H.ty (n85 H) hm (lh:=qjG) (ct:=c85) (dcd:=fun y=>(y.2.1)) Tryz.func85 (by kernel_rfl) (by rfl) (q1q (l:=[(.loop (q3q 4 (q4q Tryz.f85) .skip),⟨qff,qgl,lp qdp K0⟩)]) (by kernel_rfl) ⟨qrx H,trivial⟩) (by decide) (fun _=>rfl) (fun x r h=>(qrz x.1 x.2.1).trans h)
theorem n64 {T:Told} (H:qab T):qar T Tryz.prog (envL e64):=q5q (l:=e64) ⟨ok61 H,ok79 H,ok80 H,ok81 H,ok82 H,ok83 H,ok84 H,ok85 H,trivial⟩
theorem qs2 {T:Told} (H:qab T):q12q T Tryz.prog 86 (.loop (q3q 10 (q4q Tryz.f64) .skip)) ⟨qf1,qhb,lp qbX K0⟩ :=
 q7q H.ty (n64 H) hm (q1q (l:=[]) (by kernel_rfl) trivial) qs3 K0
theorem ok64 {T:Told} (H:qab T):qal T Tryz.prog 64 c64 :=
 qaN H.ty (n64 H) hm (lh:=qmb) (ct:=c64) (dcd:=fun y=>(y.2.1)) Tryz.func64 (by kernel_rfl) (by rfl) (q1q (l:=[(.loop (q3q 10 (q4q Tryz.f64) .skip),⟨qf1,qhb,lp qbX K0⟩)]) (by kernel_rfl) ⟨qs2 H,trivial⟩) (by decide) (fun _=>rfl) (fun x r h=>(qu2 x.1 x.2.1).trans h)
theorem n50 {T:Told} (H:qab T):qar T Tryz.prog (envL e50):=q5q (l:=e50) ⟨ok31 H,ok64 H,ok65 H,trivial⟩
theorem ok50 {T:Told} (H:qab T):qal T Tryz.prog 50 c50 :=
 qaN H.ty (n50 H) hm (lh:=qlq) (ct:=c50) (dcd:=fun y=>(y.2.1)) Tryz.func50 (by kernel_rfl) (by rfl) (q1q (l:=[]) (by kernel_rfl) trivial) (by decide) (fun _=>rfl) (fun x r h=>(qpU x.1 x.2.1).trans h)
theorem n53 {T:Told} (H:qab T):qar T Tryz.prog (envL e53):=q5q (l:=e53) trivial
theorem ok53 {T:Told} (H:qab T):qal T Tryz.prog 53 c53 :=
 qaN H.ty (n53 H) hm (lh:=qle) (ct:=c53) (dcd:=fun y=>(y.2.1)) Tryz.func53 (by kernel_rfl) (by rfl) (q1q (l:=[]) (by kernel_rfl) trivial) (by decide) (fun _=>rfl) (fun x r h=>(qpx x.1 x.2.1).trans h)
theorem n62 {T:Told} (H:qab T):qar T Tryz.prog (envL e62):=q5q (l:=e62) ⟨ok53 H,ok61 H,trivial⟩
theorem ok62 {T:Told} (H:qab T):qal T Tryz.prog 62 c62 :=
 qaN H.ty (n62 H) hm (lh:=qkv) (ct:=c62) (dcd:=fun y=>(y.2.1)) Tryz.func62 (by kernel_rfl) (by rfl) (q1q (l:=[]) (by kernel_rfl) trivial) (by decide) (fun _=>rfl) (fun x r h=>(qox x.1).trans h)
theorem n45 {T:Told} (H:qab T):qar T Tryz.prog (envL e45):=q5q (l:=e45) ⟨ok25 H,ok50 H,ok61 H,ok62 H,trivial⟩
theorem ok45 {T:Told} (H:qab T):qal T Tryz.prog 45 c45 :=
 qaN H.ty (n45 H) hm (lh:=qkE) (ct:=c45) (dcd:=fun y=>(y.2.1)) Tryz.func45 (by kernel_rfl) (by rfl) (q1q (l:=[]) (by kernel_rfl) trivial) (by decide) (fun _=>rfl) (fun x r h=>(qoK x.1).trans h)
theorem n63 {T:Told} (H:qab T):qar T Tryz.prog (envL e63):=q5q (l:=e63) ⟨ok61 H,ok79 H,trivial⟩
theorem ok63 {T:Told} (H:qab T):qal T Tryz.prog 63 c63 :=
 qaN H.ty (n63 H) hm (lh:=qpd) (ct:=c63) (dcd:=fun y=>(y.2.1)) Tryz.func63 (by kernel_rfl) (by rfl) (q1q (l:=[]) (by kernel_rfl) trivial) (by decide) (fun _=>rfl) (fun x r h=>(qu3 x.1 x.2.1).trans h)
theorem n46 {T:Told} (H:qab T):qar T Tryz.prog (envL e46):=q5q (l:=e46) ⟨ok62 H,ok63 H,trivial⟩
theorem ok46 {T:Told} (H:qab T):qal T Tryz.prog 46 c46 :=
 qaN H.ty (n46 H) hm (lh:=qmx) (ct:=c46) (dcd:=fun y=>(y.2.1)) Tryz.func46 (by kernel_rfl) (by rfl) (q1q (l:=[]) (by kernel_rfl) trivial) (by decide) (fun _=>rfl) (fun x r h=>(qqE x.1 x.2.1).trans h)
theorem n52 {T:Told} (H:qab T):qar T Tryz.prog (envL e52):=q5q (l:=e52) ⟨ok54 H,ok61 H,trivial⟩
theorem quX {T:Told} (H:qab T):q12q T Tryz.prog 67 (.loop (q3q 8 (q4q Tryz.f52) .skip)) ⟨qgS,qia,lp qem K0⟩ :=
 q7q H.ty (n52 H) hm (q1q (l:=[]) (by kernel_rfl) trivial) quZ K0
theorem quY {T:Told} (H:qab T):q12q T Tryz.prog 67 (.loop (q3q 4 (q4q Tryz.f52) .skip)) ⟨qgT,qib,lp qfh K0⟩ :=
 q7q H.ty (n52 H) hm (q1q (l:=[(.loop (q3q 8 (q4q Tryz.f52) .skip),⟨qgS,qia,lp qem K0⟩)]) (by kernel_rfl) ⟨quX H,trivial⟩) qu0 K0
theorem ok52 {T:Told} (H:qab T):qal T Tryz.prog 52 c52 :=
 qaN H.ty (n52 H) hm (lh:=qkh) (ct:=c52) (dcd:=fun y=>(y.2.1)) Tryz.func52 (by kernel_rfl) (by rfl) (q1q (l:=[(.loop (q3q 4 (q4q Tryz.f52) .skip),⟨qgT,qib,lp qfh K0⟩)]) (by kernel_rfl) ⟨quY H,trivial⟩) (by decide) (fun _=>rfl) (fun x r h=>(qu1 x.1 x.2.1).trans h)
theorem n47 {T:Told} (H:qab T):qar T Tryz.prog (envL e47):=q5q (l:=e47) ⟨ok52 H,ok53 H,ok62 H,trivial⟩
theorem ok47 {T:Told} (H:qab T):qal T Tryz.prog 47 c47 :=
 qaN H.ty (n47 H) hm (lh:=qmw) (ct:=c47) (dcd:=fun y=>(y.2.1)) Tryz.func47 (by kernel_rfl) (by rfl) (q1q (l:=[]) (by kernel_rfl) trivial) (by decide) (fun _=>rfl) (fun x r h=>(qqD x.1 x.2.1).trans h)
theorem n48 {T:Told} (H:qab T):qar T Tryz.prog (envL e48):=q5q (l:=e48) trivial
theorem ok48 {T:Told} (H:qab T):qal T Tryz.prog 48 c48 :=
 qaN H.ty (n48 H) hm (lh:=qmD) (ct:=c48) (dcd:=fun y=>(y.2.1)) Tryz.func48 (by kernel_rfl) (by rfl) (q1q (l:=[]) (by kernel_rfl) trivial) (by decide) (fun _=>rfl) (fun x r h=>(qq1 x.1).trans h)
theorem n24 {T:Told} (H:qab T):qar T Tryz.prog (envL e24):=q5q (l:=e24) ⟨ok45 H,ok46 H,ok47 H,ok48 H,trivial⟩
theorem ok24 {T:Told} (H:qab T):qal T Tryz.prog 24 c24 :=
 qaN H.ty (n24 H) hm (lh:=qmN) (ct:=c24) (dcd:=fun y=>(y.2.1)) Tryz.func24 (by kernel_rfl) (by rfl) (q1q (l:=[]) (by kernel_rfl) trivial) (by decide) (fun _=>rfl) (fun x r h=>(qre x.1 x.2.1).trans h)
theorem n11 {T:Told} (H:qab T):qar T Tryz.prog (envL e11):=q5q (l:=e11) ⟨ok24 H,trivial⟩
theorem ok11 {T:Told} (H:qab T):qal T Tryz.prog 11 c11 :=
 qaN H.ty (n11 H) hm (lh:=qlv) (ct:=c11) (dcd:=fun y=>(y.2.1)) Tryz.func11 (by kernel_rfl) (by rfl) (q1q (l:=[]) (by kernel_rfl) trivial) (by decide) (fun _=>rfl) (fun x r h=>(qpX x.1 x.2.1).trans h)
theorem n30 {T:Told} (H:qab T):qar T Tryz.prog (envL e30):=q5q (l:=e30) ⟨ok31 H,ok53 H,trivial⟩
theorem ok30 {T:Told} (H:qab T):qal T Tryz.prog 30 c30 :=
 qaN H.ty (n30 H) hm (lh:=qnm) (ct:=c30) (dcd:=fun y=>(y.2.1)) Tryz.func30 (by kernel_rfl) (by rfl) (q1q (l:=[]) (by kernel_rfl) trivial) (by decide) (fun _=>rfl) (fun x r h=>(qsr x.1).trans h)
theorem n16 {T:Told} (H:qab T):qar T Tryz.prog (envL e16):=q5q (l:=e16) ⟨ok30 H,ok31 H,trivial⟩
theorem ok16 {T:Told} (H:qab T):qal T Tryz.prog 16 c16 :=
 qaN H.ty (n16 H) hm (lh:=qnP) (ct:=c16) (dcd:=fun y=>(y.2.1)) Tryz.func16 (by kernel_rfl) (by rfl) (q1q (l:=[]) (by kernel_rfl) trivial) (by decide) (fun _=>rfl) (fun x r h=>(qsI x.1).trans h)
theorem n15 {T:Told} (H:qab T):qar T Tryz.prog (envL e15):=q5q (l:=e15) ⟨ok16 H,trivial⟩
theorem ok15 {T:Told} (H:qab T):qal T Tryz.prog 15 c15 :=
 qaN H.ty (n15 H) hm (lh:=qmF) (ct:=c15) (dcd:=fun y=>(y.2.1)) Tryz.func15 (by kernel_rfl) (by rfl) (q1q (l:=[]) (by kernel_rfl) trivial) (by decide) (fun _=>rfl) (fun x r h=>(qq8 ).trans h)
theorem n34 {T:Told} (H:qab T) (n:Nat) (hr:qal T Tryz.prog 34 (c34 n)):qar T Tryz.prog (envL (e34 n)):=q5q (l:=(e34 n)) ⟨hr,trivial⟩
theorem ok34 {T:Told} (H:qab T):∀ n,qal T Tryz.prog 34 (c34 n)
 | 0=>qal.never Tryz.func34 (by kernel_rfl) (by rfl) (fun _=>rfl)
 | n+1=>qaN H.ty (n34 H n (ok34 H n)) hm (lh:=qky n) (ct:=c34 (n+1)) (dcd:=fun y=>(y.2.1,y.2.2.1)) Tryz.func34 (by kernel_rfl) (by rfl) (q1q (l:=[]) (by kernel_rfl) trivial) (Nat.le_of_ble_eq_true rfl) (fun _=>rfl) (fun x r h=>(qoI n x.1 x.2.1 x.2.2.1).trans h)
theorem n35 {T:Told} (H:qab T):qar T Tryz.prog (envL e35):=q5q (l:=e35) ⟨ok45 H,trivial⟩
theorem qoL {T:Told} (H:qab T):q12q T Tryz.prog 67 (.loop (q3q 7 (q4q Tryz.f35) .skip)) ⟨qdK,qeO,lp qck K0⟩ :=
 q7q tyO (n35 H) hm (q1q (l:=[]) (by kernel_rfl) trivial) qoN K0
theorem qoM {T:Told} (H:qab T):q12q T Tryz.prog 67 (.loop (q3q 3 (q4q Tryz.f35) .skip)) ⟨qdL,qeP,lp qcl K0⟩ :=
 q7q tyO (n35 H) hm (q1q (l:=[(.loop (q3q 7 (q4q Tryz.f35) .skip),⟨qdK,qeO,lp qck K0⟩)]) (by kernel_rfl) ⟨qoL H,trivial⟩) qoO K0
theorem ok35 {T:Told} (H:qab T):qal T Tryz.prog 35 c35 :=
 qgx tyO (n35 H) hm (lh:=qf9) (ct:=c35) (wi:=w35) (dcd:=fun y=>(y.2.1,y.2.2.1)) Tryz.func35 (by kernel_rfl) (by rfl) (q1q (l:=[(.loop (q3q 3 (q4q Tryz.f35) .skip),⟨qdL,qeP,lp qcl K0⟩)]) (by kernel_rfl) ⟨qoM H,trivial⟩) (fun _=>rfl) rfl (fun x r h=>(qoP x.1).trans h)
theorem n36 {T:Told} (H:qab T):qar T Tryz.prog (envL e36):=q5q (l:=e36) trivial
theorem qqa {T:Told} (H:qab T):q12q T Tryz.prog 72 (.loop (q3q 9 (q4q Tryz.f36) .skip)) ⟨qeo,qfz,lp qbZ K0⟩ :=
 q7q H.ty (n36 H) hm (q1q (l:=[]) (by kernel_rfl) trivial) qqc K0
theorem qqb {T:Told} (H:qab T):q12q T Tryz.prog 72 (.loop (q3q 4 (q4q Tryz.f36) .skip)) ⟨qep,qfA,lp qbi K0⟩ :=
 q7q H.ty (n36 H) hm (q1q (l:=[(.loop (q3q 9 (q4q Tryz.f36) .skip),⟨qeo,qfz,lp qbZ K0⟩)]) (by kernel_rfl) ⟨qqa H,trivial⟩) qqd K0
theorem ok36 {T:Told} (H:qab T):qal T Tryz.prog 36 c36 :=
 qaN H.ty (n36 H) hm (lh:=qgA) (ct:=c36) (dcd:=fun y=>(y.2.1)) Tryz.func36 (by kernel_rfl) (by rfl) (q1q (l:=[(.loop (q3q 4 (q4q Tryz.f36) .skip),⟨qep,qfA,lp qbi K0⟩)]) (by kernel_rfl) ⟨qqb H,trivial⟩) (by decide) (fun _=>rfl) (fun x r h=>(qqe x.1).trans h)
theorem n37 {T:Told} (H:qab T):qar T Tryz.prog (envL e37):=q5q (l:=e37) trivial
theorem qnu {T:Told} (H:qab T):q12q T Tryz.prog 52 (.loop (q3q 2 (q4q Tryz.f37) .skip)) ⟨qc8,qd2,lp qba K0⟩ :=
 q7q H.ty (n37 H) hm (q1q (l:=[]) (by kernel_rfl) trivial) qnv K0
theorem ok37 {T:Told} (H:qab T):qal T Tryz.prog 37 c37 :=
 qaN H.ty (n37 H) hm (lh:=qgX) (ct:=c37) (dcd:=fun y=>(y.2.1,y.2.2.1)) Tryz.func37 (by kernel_rfl) (by rfl) (q1q (l:=[(.loop (q3q 2 (q4q Tryz.f37) .skip),⟨qc8,qd2,lp qba K0⟩)]) (by kernel_rfl) ⟨qnu H,trivial⟩) (by decide) (fun _=>rfl) (fun x r h=>(qnw x.1 x.2.1).trans h)
theorem n38 {T:Told} (H:qab T):qar T Tryz.prog (envL e38):=q5q (l:=e38) trivial
theorem qoy {T:Told} (H:qab T):q12q T Tryz.prog 103 (.loop (q3q 3 (q4q Tryz.f38) .skip)) ⟨qdG,qez,lp qbN K0⟩ :=
 q7q H.ty (n38 H) hm (q1q (l:=[]) (by kernel_rfl) trivial) qoz K0
theorem qnq {T:Told} (H:qab T):q12q T Tryz.prog 103 (.loop (q3q 10 (q4q Tryz.f38) .skip)) ⟨qc7,qd1,lp qaW K0⟩ :=
 q7q H.ty (n38 H) hm (q1q (l:=[]) (by kernel_rfl) trivial) qnt K0
theorem qnp {T:Told} (H:qab T):q12q T Tryz.prog 103 (.loop (q3q 17 (q4q Tryz.f38) .skip)) ⟨qc6,qd0,lp qbO K0⟩ :=
 q7q H.ty (n38 H) hm (q1q (l:=[]) (by kernel_rfl) trivial) qns K0
theorem qno {T:Told} (H:qab T):q12q T Tryz.prog 103 (.loop (q3q 25 (q4q Tryz.f38) .skip)) ⟨qc5,qdZ,lp qa9 K0⟩ :=
 q7q H.ty (n38 H) hm (q1q (l:=[]) (by kernel_rfl) trivial) qnr K0
theorem ok38 {T:Told} (H:qab T):qal T Tryz.prog 38 c38 :=
 qaN H.ty (n38 H) hm (lh:=qdF) (ct:=c38) (dcd:=fun y=>(y.2.1,y.2.2.1)) Tryz.func38 (by kernel_rfl) (by rfl) (q1q (l:=[(.loop (q3q 3 (q4q Tryz.f38) .skip),⟨qdG,qez,lp qbN K0⟩),(.loop (q3q 10 (q4q Tryz.f38) .skip),⟨qc7,qd1,lp qaW K0⟩),(.loop (q3q 17 (q4q Tryz.f38) .skip),⟨qc6,qd0,lp qbO K0⟩),(.loop (q3q 25 (q4q Tryz.f38) .skip),⟨qc5,qdZ,lp qa9 K0⟩)]) (by kernel_rfl) ⟨qoy H,qnq H,qnp H,qno H,trivial⟩) (by decide) (fun _=>rfl) (fun x r h=>(qoA x.1).trans h)
theorem n68 {T:Told} (H:qab T):qar T Tryz.prog (envL e68):=q5q (l:=e68) ⟨ok62 H,trivial⟩
theorem ok68 {T:Told} (H:qab T):qal T Tryz.prog 68 c68 :=
 qaN H.ty (n68 H) hm (lh:=qlf) (ct:=c68) (dcd:=fun y=>(y.2.1)) Tryz.func68 (by kernel_rfl) (by rfl) (q1q (l:=[]) (by kernel_rfl) trivial) (by decide) (fun _=>rfl) (fun x r h=>(qpy x.1).trans h)
theorem n56 {T:Told} (H:qab T):qar T Tryz.prog (envL e56):=q5q (l:=e56) ⟨ok45 H,ok68 H,trivial⟩
theorem ok56 {T:Told} (H:qab T):qal T Tryz.prog 56 c56 :=
 qaN H.ty (n56 H) hm (lh:=qlt) (ct:=c56) (dcd:=fun y=>(y.2.1)) Tryz.func56 (by kernel_rfl) (by rfl) (q1q (l:=[]) (by kernel_rfl) trivial) (by decide) (fun _=>rfl) (fun x r h=>(qpW x.1).trans h)
theorem n39 {T:Told} (H:qab T):qar T Tryz.prog (envL e39):=q5q (l:=e39) ⟨ok56 H,trivial⟩
theorem qnx {T:Told} (H:qab T):q12q T Tryz.prog 19 (.loop (q3q 2 (q4q Tryz.f39) .skip)) ⟨qc9,qd3,lp qbb K0⟩ :=
 q7q H.ty (n39 H) hm (q1q (l:=[]) (by kernel_rfl) trivial) qny K0
theorem ok39 {T:Told} (H:qab T):qal T Tryz.prog 39 c39 :=
 qaN H.ty (n39 H) hm (lh:=qgY) (ct:=c39) (dcd:=fun y=>(y.2.1,y.2.2.1)) Tryz.func39 (by kernel_rfl) (by rfl) (q1q (l:=[(.loop (q3q 2 (q4q Tryz.f39) .skip),⟨qc9,qd3,lp qbb K0⟩)]) (by kernel_rfl) ⟨qnx H,trivial⟩) (by decide) (fun _=>rfl) (fun x r h=>(qnz x.1).trans h)
theorem n66 {T:Told} (H:qab T):qar T Tryz.prog (envL e66):=q5q (l:=e66) ⟨ok54 H,ok61 H,ok88 H,trivial⟩
theorem qu4 {T:Told} (H:qab T):q12q T Tryz.prog 43 (.loop (q3q 5 (q4q Tryz.f66) .skip)) ⟨qgU,qic,lp qfj K0⟩ :=
 q7q H.ty (n66 H) hm (q1q (l:=[]) (by kernel_rfl) trivial) qu5 K0
theorem ok66 {T:Told} (H:qab T):qal T Tryz.prog 66 c66 :=
 qaN H.ty (n66 H) hm (lh:=qmc) (ct:=c66) (dcd:=fun y=>(y.2.1)) Tryz.func66 (by kernel_rfl) (by rfl) (q1q (l:=[(.loop (q3q 5 (q4q Tryz.f66) .skip),⟨qgU,qic,lp qfj K0⟩)]) (by kernel_rfl) ⟨qu4 H,trivial⟩) (by decide) (fun _=>rfl) (fun x r h=>(qu6 x.1 x.2.1).trans h)
theorem n67 {T:Told} (H:qab T):qar T Tryz.prog (envL e67):=q5q (l:=e67) ⟨ok61 H,ok79 H,ok85 H,trivial⟩
theorem ok67 {T:Told} (H:qab T):qal T Tryz.prog 67 c67 :=
 qaN H.ty (n67 H) hm (lh:=qpc) (ct:=c67) (dcd:=fun y=>(y.2.1,y.2.2.1)) Tryz.func67 (by kernel_rfl) (by rfl) (q1q (l:=[]) (by kernel_rfl) trivial) (by decide) (fun _=>rfl) (fun x r h=>(quW x.1 x.2.1).trans h)
theorem n51 {T:Told} (H:qab T):qar T Tryz.prog (envL e51):=q5q (l:=e51) ⟨ok53 H,ok62 H,ok63 H,ok66 H,ok67 H,trivial⟩
theorem ok51 {T:Told} (H:qab T):qal T Tryz.prog 51 c51 :=
 qaN H.ty (n51 H) hm (lh:=qmy) (ct:=c51) (dcd:=fun y=>(y.2.1)) Tryz.func51 (by kernel_rfl) (by rfl) (q1q (l:=[]) (by kernel_rfl) trivial) (by decide) (fun _=>rfl) (fun x r h=>(qqF x.1 x.2.1).trans h)
theorem n27 {T:Told} (H:qab T):qar T Tryz.prog (envL e27):=q5q (l:=e27) ⟨ok45 H,ok47 H,ok48 H,ok50 H,ok51 H,ok52 H,trivial⟩
theorem ok27 {T:Told} (H:qab T):qal T Tryz.prog 27 c27 :=
 qaN H.ty (n27 H) hm (lh:=qmO) (ct:=c27) (dcd:=fun y=>(y.2.1)) Tryz.func27 (by kernel_rfl) (by rfl) (q1q (l:=[]) (by kernel_rfl) trivial) (by decide) (fun _=>rfl) (fun x r h=>(qrf x.1 x.2.1).trans h)
theorem n40 {T:Told} (H:qab T):qar T Tryz.prog (envL e40):=q5q (l:=e40) ⟨ok11 H,ok27 H,trivial⟩
theorem qpA {T:Told} (H:qab T):q12q T Tryz.prog 37 (.loop (q3q 2 (q4q Tryz.f40) .skip)) ⟨qeg,qfm,lp qbx K0⟩ :=
 q7q H.ty (n40 H) hm (q1q (l:=[]) (by kernel_rfl) trivial) qpB K0
theorem ok40 {T:Told} (H:qab T):qal T Tryz.prog 40 c40 :=
 qaN H.ty (n40 H) hm (lh:=qik) (ct:=c40) (dcd:=fun y=>(y.2.1,y.2.2.1)) Tryz.func40 (by kernel_rfl) (by rfl) (q1q (l:=[(.loop (q3q 2 (q4q Tryz.f40) .skip),⟨qeg,qfm,lp qbx K0⟩)]) (by kernel_rfl) ⟨qpA H,trivial⟩) (by decide) (fun _=>rfl) (fun x r h=>(qpC x.1).trans h)
theorem n41 {T:Told} (H:qab T):qar T Tryz.prog (envL e41):=q5q (l:=e41) trivial
theorem ok41 {T:Told} (H:qab T):qal T Tryz.prog 41 c41 :=
 qaN H.ty (n41 H) hm (lh:=qkw) (ct:=c41) (dcd:=fun y=>(y.2.1)) Tryz.func41 (by kernel_rfl) (by rfl) (q1q (l:=[]) (by kernel_rfl) trivial) (by decide) (fun _=>rfl) (fun x r h=>(qoB x.1 x.2.1 x.2.2.1).trans h)
theorem n20 {T:Told} (H:qab T):qar T Tryz.prog (envL e20):=q5q (l:=e20) ⟨ok36 H,ok37 H,ok38 H,ok39 H,ok40 H,ok41 H,trivial⟩
theorem qoC {T:Told} (H:qab T):q12q T Tryz.prog 63 (.loop (q3q 7 (q4q Tryz.f20) .skip)) ⟨qdH,qeA,lp qaG K0⟩ :=
 q7q H.ty (n20 H) hm (q1q (l:=[]) (by kernel_rfl) trivial) qoE K0
theorem qoD {T:Told} (H:qab T):q12q T Tryz.prog 63 (.loop (q3q 4 (q4q Tryz.f20) .skip)) ⟨qdI,qeB,lp qbu K0⟩ :=
 q7q H.ty (n20 H) hm (q1q (l:=[(.loop (q3q 7 (q4q Tryz.f20) .skip),⟨qdH,qeA,lp qaG K0⟩)]) (by kernel_rfl) ⟨qoC H,trivial⟩) qoF K0
theorem ok20 {T:Told} (H:qab T):qal T Tryz.prog 20 c20 :=
 qaN H.ty (n20 H) hm (lh:=qf7) (ct:=c20) (dcd:=fun y=>(y.2.1)) Tryz.func20 (by kernel_rfl) (by rfl) (q1q (l:=[(.loop (q3q 4 (q4q Tryz.f20) .skip),⟨qdI,qeB,lp qbu K0⟩)]) (by kernel_rfl) ⟨qoD H,trivial⟩) (by decide) (fun _=>rfl) (fun x r h=>(qoG x.1).trans h)
theorem n7 {T:Told} (H:qab T):qar T Tryz.prog (envL e7):=q5q (l:=e7) ⟨ok20 H,trivial⟩
theorem ok7 {T:Told} (H:qab T):qal T Tryz.prog 7 c7 :=
 qaN H.ty (n7 H) hm (lh:=qnA) (ct:=c7) (dcd:=fun y=>(y.2.1)) Tryz.func7 (by kernel_rfl) (by rfl) (q1q (l:=[]) (by kernel_rfl) trivial) (by decide) (fun _=>rfl) (fun x r h=>(qss x.1).trans h)
theorem n55 {T:Told} (H:qab T):qar T Tryz.prog (envL e55):=q5q (l:=e55) ⟨ok7 H,trivial⟩
theorem ok55 {T:Told} (H:qab T):qal T Tryz.prog 55 c55 :=
 qaN H.ty (n55 H) hm (lh:=qlg) (ct:=c55) (dcd:=fun y=>(y.2.1)) Tryz.func55 (by kernel_rfl) (by rfl) (q1q (l:=[]) (by kernel_rfl) trivial) (by decide) (fun _=>rfl) (fun x r h=>(qpD x.1 x.2.1).trans h)
theorem n32 {T:Told} (H:qab T):qar T Tryz.prog (envL e32):=q5q (l:=e32) ⟨ok34 H R0,ok35 H,ok55 H,trivial⟩
theorem ok32 {T:Told} (H:qab T):qal T Tryz.prog 32 c32 :=
 qaN H.ty (n32 H) hm (lh:=qlj) (ct:=c32) (dcd:=fun y=>(y.2.1,y.2.2.1)) Tryz.func32 (by kernel_rfl) (by rfl) (q1q (l:=[]) (by kernel_rfl) trivial) (by decide) (fun _=>rfl) (fun x r h=>(qpI x.1 x.2.1).trans h)
theorem n33 {T:Told} (H:qab T) (n:Nat) (hr:qal T Tryz.prog 33 (c33 n)):qar T Tryz.prog (envL (e33 n)):=q5q (l:=(e33 n)) ⟨ok11 H,hr,trivial⟩
theorem ok33 {T:Told} (H:qab T):∀ n,qal T Tryz.prog 33 (c33 n)
 | 0=>qal.never Tryz.func33 (by kernel_rfl) (by rfl) (fun _=>rfl)
 | n+1=>qaN H.ty (n33 H n (ok33 H n)) hm (lh:=qkx n) (ct:=c33 (n+1)) (dcd:=fun y=>(y.1.1)) Tryz.func33 (by kernel_rfl) (by rfl) (q1q (l:=[]) (by kernel_rfl) trivial) (Nat.le_of_ble_eq_true rfl) (fun _=>rfl) (fun x r h=>(qoH n x.1 x.2.1).trans h)
theorem n17 {T:Told} (H:qab T):qar T Tryz.prog (envL e17):=q5q (l:=e17) ⟨ok32 H,ok33 H R0,ok34 H R0,trivial⟩
theorem ok17 {T:Told} (H:qab T):qal T Tryz.prog 17 c17 :=
 qaN H.ty (n17 H) hm (lh:=qkB) (ct:=c17) (dcd:=fun y=>(y.2.1,y.2.2.1)) Tryz.func17 (by kernel_rfl) (by rfl) (q1q (l:=[]) (by kernel_rfl) trivial) (by decide) (fun _=>rfl) (fun x r h=>(qoJ x.1 x.2.1).trans h)
theorem n5 {T:Told} (H:qab T):qar T Tryz.prog (envL e5):=q5q (l:=e5) ⟨ok11 H,ok15 H,ok16 H,ok17 H,trivial⟩
theorem qj7 {r} (h:c5.F ()=r):qah=r:=by
 subst h
 delta c5
 exact(@F_in [] _ _ (fun _=>qah) _ _ () _ rfl).symm
theorem qj5 (x) (r:c5.T) (h:c5.F x=some r):fnF tb (envL e5) Tryz.f5 qef c5.ps c5.rs (T:=c5.T) (fun y=>(y.2.1)) x=some r:=by
 cases x;exact qj6.trans (qj7 h)
theorem ok5 {T:Told} (H:qab T):qal T Tryz.prog 5 c5 :=
 qaN H.ty (n5 H) hm (lh:=qef) (ct:=c5) (dcd:=fun y=>(y.2.1)) Tryz.func5 (by kernel_rfl) (by rfl) (q1q (l:=[]) (by kernel_rfl) trivial) (by decide) (fun _=>rfl) (fun x r h=>qj5 x r h)
theorem n19 {T:Told} (H:qab T):qar T Tryz.prog (envL e19):=q5q (l:=e19) trivial
theorem qnD {T:Told} (H:qab T):q12q T Tryz.prog 30 (.loop (q3q 2 (q4q Tryz.f19) .skip)) ⟨qda,qd4,lp qbP K0⟩ :=
 q7q H.ty (n19 H) hm (q1q (l:=[]) (by kernel_rfl) trivial) qnE K0
theorem ok19 {T:Told} (H:qab T):qal T Tryz.prog 19 c19 :=
 qgx H.ty (n19 H) hm (lh:=qg0) (ct:=c19) (wi:=w19) (dcd:=fun y=>(y.2.1,y.2.2.1)) Tryz.func19 (by kernel_rfl) (by rfl) (q1q (l:=[(.loop (q3q 2 (q4q Tryz.f19) .skip),⟨qda,qd4,lp qbP K0⟩)]) (by kernel_rfl) ⟨qnD H,trivial⟩) (fun _=>rfl) rfl (fun x r h=>(qnF x.1 x.2.1).trans h)
theorem qzb {T:Told} (H:qab T):qar T Tryz.prog (envL qud):=q5q (l:=qud) ⟨ok7 H,ok19 H,ok35 H,trivial⟩
theorem qi5 {T:Told} (H:qab T):q12q T Tryz.prog 34 (.loop (q3q 5 (q4q Tryz.f18) .skip)) ⟨qbs,qb8,lp qaD K0⟩ :=
 q7q H.ty (qzb H) hm (q1q (l:=[]) (by kernel_rfl) trivial) qi6 K0
theorem qz0 {T:Told} (H:qab T):qal T Tryz.prog 18 qsi :=
 qgx H.ty (qzb H) hm (lh:=qdM) (ct:=qsi) (wi:=qvJ) (dcd:=fun y=>(y.2.1,y.2.2.1,y.2.2.2.1)) Tryz.func18 (by kernel_rfl) (by rfl) (q1q (l:=[(.loop (q3q 5 (q4q Tryz.f18) .skip),⟨qbs,qb8,lp qaD K0⟩)]) (by kernel_rfl) ⟨qi5 H,trivial⟩) (fun _=>rfl) rfl (fun x r h=>(qi7 x.1 x.2.1).trans h)
theorem n6 {T:Told} (H:qab T):qar T Tryz.prog (envL e6):=q5q (l:=e6) ⟨ok7 H,qz0 H,trivial⟩
theorem qqH {T:Told} (H:qab T):q12q T Tryz.prog 61 (.loop (q3q 8 (q4q Tryz.f6) .skip)) ⟨qe5,qgb,lp qcn K0⟩ :=
 q7q H.ty (n6 H) hm (q1q (l:=[]) (by kernel_rfl) trivial) qqI K0
theorem ok6 {T:Told} (H:qab T):qal T Tryz.prog 6 c6 :=
 qaN H.ty (n6 H) hm (lh:=qji) (ct:=c6) (dcd:=fun y=>(y.2.1,y.2.2.1)) Tryz.func6 (by kernel_rfl) (by rfl) (q1q (l:=[(.loop (q3q 8 (q4q Tryz.f6) .skip),⟨qe5,qgb,lp qcn K0⟩)]) (by kernel_rfl) ⟨qqH H,trivial⟩) (by decide) (fun _=>rfl) (fun x r h=>(qqJ x.1 x.2.1).trans h)
theorem n8 {T:Told} (H:qab T):qar T Tryz.prog (envL e8):=q5q (l:=e8) trivial
theorem qj2 {T:Told} (H:qab T):q12q T Tryz.prog 19 (.loop (q3q 2 (q4q Tryz.f8) .skip)) ⟨qbM,qcr,lp qaH K0⟩ :=
 q7q H.ty (n8 H) hm (q1q (l:=[]) (by kernel_rfl) trivial) qj3 K0
theorem ok8 {T:Told} (H:qab T):qal T Tryz.prog 8 c8 :=
 qaN H.ty (n8 H) hm (lh:=qee) (ct:=c8) (dcd:=fun y=>(y.2.1)) Tryz.func8 (by kernel_rfl) (by rfl) (q1q (l:=[(.loop (q3q 2 (q4q Tryz.f8) .skip),⟨qbM,qcr,lp qaH K0⟩)]) (by kernel_rfl) ⟨qj2 H,trivial⟩) (by decide) (fun _=>rfl) (fun x r h=>(qj4 x.1 x.2.1).trans h)
theorem n21 {T:Told} (H:qab T):qar T Tryz.prog (envL e21):=q5q (l:=e21) trivial
theorem qjY {T:Told} (H:qab T):q12q T Tryz.prog 73 (.loop (q3q 4 (q4q Tryz.f21) .skip)) ⟨qbL,qcq,lp qaw K0⟩ :=
 q7q H.ty (n21 H) hm (q1q (l:=[]) (by kernel_rfl) trivial) qj0 K0
theorem qjX {T:Told} (H:qab T):q12q T Tryz.prog 73 (.loop (q3q 9 (q4q Tryz.f21) .skip)) ⟨qbK,qcp,lp qav K0⟩ :=
 q7q H.ty (n21 H) hm (q1q (l:=[]) (by kernel_rfl) trivial) qjZ K0
theorem ok21 {T:Told} (H:qab T):qal T Tryz.prog 21 c21 :=
 qaN H.ty (n21 H) hm (lh:=qcY) (ct:=c21) (dcd:=fun y=>(y.2.1)) Tryz.func21 (by kernel_rfl) (by rfl) (q1q (l:=[(.loop (q3q 4 (q4q Tryz.f21) .skip),⟨qbL,qcq,lp qaw K0⟩),(.loop (q3q 9 (q4q Tryz.f21) .skip),⟨qbK,qcp,lp qav K0⟩)]) (by kernel_rfl) ⟨qjY H,qjX H,trivial⟩) (by decide) (fun _=>rfl) (fun x r h=>(qj1 x.1 x.2.1).trans h)
theorem n9 {T:Told} (H:qab T):qar T Tryz.prog (envL e9):=q5q (l:=e9) ⟨ok21 H,trivial⟩
theorem qkp {T:Told} (H:qab T):q12q T Tryz.prog 126 (.loop (q3q 9 (q4q Tryz.f9) .skip)) ⟨qb6,qcx,lp qaP K0⟩ :=
 q7q H.ty (n9 H) hm (q1q (l:=[]) (by kernel_rfl) trivial) qkr K0
theorem qkq {T:Told} (H:qab T):q12q T Tryz.prog 126 (.loop (q3q 4 (q4q Tryz.f9) .skip)) ⟨qb7,qcy,lp qaQ K0⟩ :=
 q7q H.ty (n9 H) hm (q1q (l:=[(.loop (q3q 9 (q4q Tryz.f9) .skip),⟨qb6,qcx,lp qaP K0⟩)]) (by kernel_rfl) ⟨qkp H,trivial⟩) qks K0
theorem ok9 {T:Told} (H:qab T):qal T Tryz.prog 9 c9 :=
 qaN H.ty (n9 H) hm (lh:=qc3) (ct:=c9) (dcd:=fun y=>(y.2.1)) Tryz.func9 (by kernel_rfl) (by rfl) (q1q (l:=[(.loop (q3q 4 (q4q Tryz.f9) .skip),⟨qb7,qcy,lp qaQ K0⟩)]) (by kernel_rfl) ⟨qkq H,trivial⟩) (by decide) (fun _=>rfl) (fun x r h=>(qkt x.1 x.2.1).trans h)
theorem n42 {T:Told} (H:qab T):qar T Tryz.prog (envL e42):=q5q (l:=e42) ⟨ok7 H,trivial⟩
theorem ok42 {T:Told} (H:qab T):qal T Tryz.prog 42 c42 :=
 qaN H.ty (n42 H) hm (lh:=qln) (ct:=c42) (dcd:=fun y=>(y.2.1)) Tryz.func42 (by kernel_rfl) (by rfl) (q1q (l:=[]) (by kernel_rfl) trivial) (by decide) (fun _=>rfl) (fun x r h=>(qpR x.1 x.2.1).trans h)
theorem n22 {T:Told} (H:qab T):qar T Tryz.prog (envL e22):=q5q (l:=e22) ⟨ok42 H,trivial⟩
theorem ok22 {T:Told} (H:qab T):qal T Tryz.prog 22 c22 :=
 qaN H.ty (n22 H) hm (lh:=qlp) (ct:=c22) (dcd:=fun y=>(y.2.1)) Tryz.func22 (by kernel_rfl) (by rfl) (q1q (l:=[]) (by kernel_rfl) trivial) (by decide) (fun _=>rfl) (fun x r h=>(qpT x.1 x.2.1).trans h)
theorem n43 {T:Told} (H:qab T):qar T Tryz.prog (envL e43):=q5q (l:=e43) ⟨ok25 H,trivial⟩
theorem ql5 {T:Told} (H:qab T):q12q T Tryz.prog 13 (.loop (q3q 3 (q4q Tryz.f43) .skip)) ⟨qcF,qdd,lp qbd K0⟩ :=
 q7q H.ty (n43 H) hm (q1q (l:=[]) (by kernel_rfl) trivial) ql6 K0
theorem ok43 {T:Told} (H:qab T):qal T Tryz.prog 43 c43 :=
 qaN H.ty (n43 H) hm (lh:=qfV) (ct:=c43) (dcd:=fun y=>(y.2.1)) Tryz.func43 (by kernel_rfl) (by rfl) (q1q (l:=[(.loop (q3q 3 (q4q Tryz.f43) .skip),⟨qcF,qdd,lp qbd K0⟩)]) (by kernel_rfl) ⟨ql5 H,trivial⟩) (by decide) (fun _=>rfl) (fun x r h=>(ql7 x.1).trans h)
theorem n57 {T:Told} (H:qab T):qar T Tryz.prog (envL e57):=q5q (l:=e57) ⟨ok15 H,trivial⟩
theorem ok57 {T:Told} (H:qab T):qal T Tryz.prog 57 c57 :=
 qgx H.ty (n57 H) hm (lh:=qju) (ct:=c57) (wi:=w57) (dcd:=fun y=>(y.2.1)) Tryz.func57 (by kernel_rfl) (by rfl) (q1q (l:=[]) (by kernel_rfl) trivial) (fun _=>rfl) rfl (fun x r h=>(qnY ).trans h)
theorem n69 {T:Told} (H:qab T):qar T Tryz.prog (envL e69):=q5q (l:=e69) trivial
theorem qjq {T:Told} (H:qab T):q12q T Tryz.prog 29 (.loop (q3q 4 (q4q Tryz.f69) .skip)) ⟨qbH,qco,lp qaj K0⟩ :=
 q7q H.ty (n69 H) hm (q1q (l:=[]) (by kernel_rfl) trivial) qjr K0
theorem ok69 {T:Told} (H:qab T):qal T Tryz.prog 69 c69 :=
 qgx H.ty (n69 H) hm (lh:=qd7) (ct:=c69) (wi:=w69) (dcd:=fun y=>(y.2.1,y.2.2.1)) Tryz.func69 (by kernel_rfl) (by rfl) (q1q (l:=[(.loop (q3q 4 (q4q Tryz.f69) .skip),⟨qbH,qco,lp qaj K0⟩)]) (by kernel_rfl) ⟨qjq H,trivial⟩) (fun _=>rfl) rfl (fun x r h=>(qjs x.1 x.2.1).trans h)
theorem n70 {T:Told} (H:qab T):qar T Tryz.prog (envL e70):=q5q (l:=e70) trivial
theorem qi9 {T:Told} (H:qab T):q12q T Tryz.prog 32 (.loop (q3q 5 (q4q Tryz.f70) .skip)) ⟨qbt,qb9,lp qaE K0⟩ :=
 q7q H.ty (n70 H) hm (q1q (l:=[]) (by kernel_rfl) trivial) qja K0
theorem ok70 {T:Told} (H:qab T):qal T Tryz.prog 70 c70 :=
 qgx H.ty (n70 H) hm (lh:=qdN) (ct:=c70) (wi:=w70) (dcd:=fun y=>(y.2.1,y.2.2.1)) Tryz.func70 (by kernel_rfl) (by rfl) (q1q (l:=[(.loop (q3q 5 (q4q Tryz.f70) .skip),⟨qbt,qb9,lp qaE K0⟩)]) (by kernel_rfl) ⟨qi9 H,trivial⟩) (fun _=>rfl) rfl (fun x r h=>(qjb x.1).trans h)
theorem n71 {T:Told} (H:qab T):qar T Tryz.prog (envL e71):=q5q (l:=e71) ⟨ok45 H,ok47 H,ok50 H,ok52 H,trivial⟩
theorem ok71 {T:Told} (H:qab T):qal T Tryz.prog 71 c71 :=
 qaN H.ty (n71 H) hm (lh:=qmI) (ct:=c71) (dcd:=fun y=>(y.2.1)) Tryz.func71 (by kernel_rfl) (by rfl) (q1q (l:=[]) (by kernel_rfl) trivial) (by decide) (fun _=>rfl) (fun x r h=>(qra x.1 x.2.1).trans h)
theorem n92 {T:Told} (H:qab T):qar T Tryz.prog (envL e92):=q5q (l:=e92) ⟨ok53 H,ok62 H,trivial⟩
theorem ok92 {T:Told} (H:qab T):qal T Tryz.prog 92 c92 :=
 qaN H.ty (n92 H) hm (lh:=qmv) (ct:=c92) (dcd:=fun y=>(y.2.1)) Tryz.func92 (by kernel_rfl) (by rfl) (q1q (l:=[]) (by kernel_rfl) trivial) (by decide) (fun _=>rfl) (fun x r h=>(qqC x.1).trans h)
theorem n100 {T:Told} (H:qab T):qar T Tryz.prog (envL e100):=q5q (l:=e100) ⟨ok50 H,ok62 H,ok68 H,ok92 H,trivial⟩
theorem qA1 {T:Told} (H:qab T):qal T Tryz.prog 100 c100 :=
 qaN H.ty (n100 H) hm (lh:=qlx) (ct:=c100) (dcd:=fun y=>(y.2.1,y.2.2.1)) Tryz.func100 (by kernel_rfl) (by rfl) (q1q (l:=[]) (by kernel_rfl) trivial) (by decide) (fun _=>rfl) (fun x r h=>(qpY x.1 x.2.1).trans h)
theorem n90 {T:Told} (H:qab T):qar T Tryz.prog (envL e90):=q5q (l:=e90) ⟨ok30 H,ok45 H,qA1 H,trivial⟩
theorem ok90 {T:Told} (H:qab T):qal T Tryz.prog 90 c90 :=
 qaN H.ty (n90 H) hm (lh:=qly) (ct:=c90) (dcd:=fun y=>(y.2.1)) Tryz.func90 (by kernel_rfl) (by rfl) (q1q (l:=[]) (by kernel_rfl) trivial) (by decide) (fun _=>rfl) (fun x r h=>(qp0 x.1 x.2.1).trans h)
theorem n93 {T:Told} (H:qab T):qar T Tryz.prog (envL e93):=q5q (l:=e93) ⟨ok45 H,ok48 H,qA1 H,trivial⟩
theorem ok93 {T:Told} (H:qab T):qal T Tryz.prog 93 c93 :=
 qaN H.ty (n93 H) hm (lh:=qmK) (ct:=c93) (dcd:=fun y=>(y.2.1,y.2.2.1)) Tryz.func93 (by kernel_rfl) (by rfl) (q1q (l:=[]) (by kernel_rfl) trivial) (by decide) (fun _=>rfl) (fun x r h=>(qrb x.1).trans h)
theorem n75 {T:Told} (H:qab T):qar T Tryz.prog (envL e75):=q5q (l:=e75) ⟨ok45 H,ok92 H,trivial⟩
theorem ok75 {T:Told} (H:qab T):qal T Tryz.prog 75 c75 :=
 qaN H.ty (n75 H) hm (lh:=qmH) (ct:=c75) (dcd:=fun y=>(y.2.1)) Tryz.func75 (by kernel_rfl) (by rfl) (q1q (l:=[]) (by kernel_rfl) trivial) (by decide) (fun _=>rfl) (fun x r h=>(qq9 x.1).trans h)
theorem n99 {T:Told} (H:qab T):qar T Tryz.prog (envL e99):=q5q (l:=e99) ⟨ok27 H,ok75 H,trivial⟩
theorem ok99 {T:Told} (H:qab T):qal T Tryz.prog 99 c99 :=
 qaN H.ty (n99 H) hm (lh:=qmE) (ct:=c99) (dcd:=fun y=>(y.2.1)) Tryz.func99 (by kernel_rfl) (by rfl) (q1q (l:=[]) (by kernel_rfl) trivial) (by decide) (fun _=>rfl) (fun x r h=>(qq7 x.1 x.2.1).trans h)
theorem n89 {T:Told} (H:qab T):qar T Tryz.prog (envL e89):=q5q (l:=e89) ⟨ok71 H,ok90 H,ok93 H,ok99 H,trivial⟩
theorem qhY {T:Told} (H:qab T):q12q T Tryz.prog 104 (.loop (q3q 7 (q4q Tryz.f89) .skip)) ⟨qa6,qbF,lp qap K0⟩ :=
 q7q H.ty (n89 H) hm (q1q (l:=[]) (by kernel_rfl) trivial) qhZ K0
theorem ok89 {T:Told} (H:qab T):qal T Tryz.prog 89 c89 :=
 qgx H.ty (n89 H) hm (lh:=qdf) (ct:=c89) (wi:=w89) (dcd:=fun y=>(y.2.1,y.2.2.1)) Tryz.func89 (by kernel_rfl) (by rfl) (q1q (l:=[(.loop (q3q 7 (q4q Tryz.f89) .skip),⟨qa6,qbF,lp qap K0⟩)]) (by kernel_rfl) ⟨qhY H,trivial⟩) (fun _=>rfl) rfl (fun x r h=>(qh0 x.1 x.2.1).trans h)
theorem n72 {T:Told} (H:qab T):qar T Tryz.prog (envL e72):=q5q (l:=e72) ⟨ok89 H,trivial⟩
theorem qiz {T:Told} (H:qab T):q12q T Tryz.prog 66 (.loop (q3q 8 (q4q Tryz.f72) .skip)) ⟨qbh,qbV,lp qaz K0⟩ :=
 q7q H.ty (n72 H) hm (q1q (l:=[]) (by kernel_rfl) trivial) qiA K0
theorem ok72 {T:Told} (H:qab T):qal T Tryz.prog 72 c72 :=
 qgx H.ty (n72 H) hm (lh:=qdr) (ct:=c72) (wi:=w72) (dcd:=fun y=>(y.2.1,y.2.2.1)) Tryz.func72 (by kernel_rfl) (by rfl) (q1q (l:=[(.loop (q3q 8 (q4q Tryz.f72) .skip),⟨qbh,qbV,lp qaz K0⟩)]) (by kernel_rfl) ⟨qiz H,trivial⟩) (fun _=>rfl) rfl (fun x r h=>(qiB x.1 x.2.1).trans h)
theorem n73 {T:Told} (H:qab T):qar T Tryz.prog (envL e73):=q5q (l:=e73) ⟨ok25 H,ok27 H,ok45 H,ok56 H,ok69 H,ok71 H,ok90 H,trivial⟩
theorem qh1 {T:Told} (H:qab T):q12q T Tryz.prog 113 (.loop (q3q 10 (q4q Tryz.f73) .skip)) ⟨qa7,qbI,lp qaq K0⟩ :=
 q7q H.ty (n73 H) hm (q1q (l:=[]) (by kernel_rfl) trivial) qh2 K0
theorem ok73 {T:Told} (H:qab T):qal T Tryz.prog 73 c73 :=
 qgx H.ty (n73 H) hm (lh:=qds) (ct:=c73) (wi:=w73) (dcd:=fun y=>(y.2.1,y.2.2.1)) Tryz.func73 (by kernel_rfl) (by rfl) (q1q (l:=[(.loop (q3q 10 (q4q Tryz.f73) .skip),⟨qa7,qbI,lp qaq K0⟩)]) (by kernel_rfl) ⟨qh1 H,trivial⟩) (fun _=>rfl) rfl (fun x r h=>(qiC x.1 x.2.1 x.2.2.1 x.2.2.2.1).trans h)
theorem n58 {T:Told} (H:qab T):qar T Tryz.prog (envL e58):=q5q (l:=e58) ⟨ok69 H,ok70 H,ok71 H,ok72 H,ok73 H,trivial⟩
theorem ok58 {T:Told} (H:qab T):qal T Tryz.prog 58 c58 :=
 qgx H.ty (n58 H) hm (lh:=qfI) (ct:=c58) (wi:=w58) (dcd:=fun y=>(y.2.1,y.2.2.1,y.2.2.2.1,y.2.2.2.2.1,y.2.2.2.2.2.1,y.2.2.2.2.2.2.1,y.2.2.2.2.2.2.2.1,y.2.2.2.2.2.2.2.2.1,y.2.2.2.2.2.2.2.2.2.1,y.2.2.2.2.2.2.2.2.2.2.1)) Tryz.func58 (by kernel_rfl) (by rfl) (q1q (l:=[]) (by kernel_rfl) trivial) (fun _=>rfl) rfl (fun x r h=>(qi8 x.1 x.2.1 x.2.2.1 x.2.2.2.1 x.2.2.2.2.1 x.2.2.2.2.2.1 x.2.2.2.2.2.2.1 x.2.2.2.2.2.2.2.1 x.2.2.2.2.2.2.2.2.1 x.2.2.2.2.2.2.2.2.2.1).trans h)
theorem n91 {T:Told} (H:qab T):qar T Tryz.prog (envL e91):=q5q (l:=e91) ⟨ok25 H,ok27 H,trivial⟩
theorem qq2 {T:Told} (H:qab T):q12q T Tryz.prog 18 (.loop (q3q 3 (q4q Tryz.f91) .skip)) ⟨qe7,qgd,lp qcS K0⟩ :=
 q7q H.ty (n91 H) hm (q1q (l:=[]) (by kernel_rfl) trivial) qq4 K0
theorem ok91 {T:Told} (H:qab T):qal T Tryz.prog 91 c91 :=
 qaN H.ty (n91 H) hm (lh:=qjn) (ct:=c91) (dcd:=fun y=>(y.2.1)) Tryz.func91 (by kernel_rfl) (by rfl) (q1q (l:=[(.loop (q3q 3 (q4q Tryz.f91) .skip),⟨qe7,qgd,lp qcS K0⟩)]) (by kernel_rfl) ⟨qq2 H,trivial⟩) (by decide) (fun _=>rfl) (fun x r h=>(qq5 x.1).trans h)
theorem n74 {T:Told} (H:qab T):qar T Tryz.prog (envL e74):=q5q (l:=e74) ⟨ok89 H,ok91 H,trivial⟩
theorem ok74 {T:Told} (H:qab T):qal T Tryz.prog 74 c74 :=
 qgx H.ty (n74 H) hm (lh:=qgw) (ct:=c74) (wi:=w74) (dcd:=fun y=>(y.2.1,y.2.2.1,y.2.2.2.1)) Tryz.func74 (by kernel_rfl) (by rfl) (q1q (l:=[]) (by kernel_rfl) trivial) (fun _=>rfl) rfl (fun x r h=>(qko x.1 x.2.1).trans h)
theorem n59 {T:Told} (H:qab T):qar T Tryz.prog (envL e59):=q5q (l:=e59) ⟨ok15 H,ok27 H,ok70 H,ok71 H,ok74 H,ok75 H,trivial⟩
theorem qiw {T:Told} (H:qab T):q12q T Tryz.prog 69 (.loop (q3q 3 (q4q Tryz.f59) .skip)) ⟨qbg,qbT,lp qau K0⟩ :=
 q7q H.ty (n59 H) hm (q1q (l:=[]) (by kernel_rfl) trivial) qix K0
theorem ok59 {T:Told} (H:qab T):qal T Tryz.prog 59 c59 :=
 qgx H.ty (n59 H) hm (lh:=qdq) (ct:=c59) (wi:=w59) (dcd:=fun y=>(y.1.1,y.2.1,y.2.2.1,y.2.2.2.1,y.2.2.2.2.1,y.2.2.2.2.2.1)) Tryz.func59 (by kernel_rfl) (by rfl) (q1q (l:=[(.loop (q3q 3 (q4q Tryz.f59) .skip),⟨qbg,qbT,lp qau K0⟩)]) (by kernel_rfl) ⟨qiw H,trivial⟩) (fun _=>rfl) rfl (fun x r h=>(qiy x.1 x.2.1 x.2.2.1 x.2.2.2.1 x.2.2.2.2.1 x.2.2.2.2.2.1 x.2.2.2.2.2.2.1 x.2.2.2.2.2.2.2.1 x.2.2.2.2.2.2.2.2.1 x.2.2.2.2.2.2.2.2.2.1 x.2.2.2.2.2.2.2.2.2.2.1 x.2.2.2.2.2.2.2.2.2.2.2.1 x.2.2.2.2.2.2.2.2.2.2.2.2.1 x.2.2.2.2.2.2.2.2.2.2.2.2.2.1 x.2.2.2.2.2.2.2.2.2.2.2.2.2.2.1).trans h)
theorem n76 {T:Told} (H:qab T):qar T Tryz.prog (envL e76):=q5q (l:=e76) ⟨ok71 H,ok93 H,trivial⟩
theorem ok76 {T:Told} (H:qab T):qal T Tryz.prog 76 c76 :=
 qaN H.ty (n76 H) hm (lh:=qmL) (ct:=c76) (dcd:=fun y=>(y.2.1,y.2.2.1)) Tryz.func76 (by kernel_rfl) (by rfl) (q1q (l:=[]) (by kernel_rfl) trivial) (by decide) (fun _=>rfl) (fun x r h=>(qrd x.1 x.2.1).trans h)
theorem n94 {T:Told} (H:qab T):qar T Tryz.prog (envL e94):=q5q (l:=e94) ⟨ok24 H,trivial⟩
theorem ok94 {T:Told} (H:qab T):qal T Tryz.prog 94 c94 :=
 qaN H.ty (n94 H) hm (lh:=qlm) (ct:=c94) (dcd:=fun y=>(y.2.1)) Tryz.func94 (by kernel_rfl) (by rfl) (q1q (l:=[]) (by kernel_rfl) trivial) (by decide) (fun _=>rfl) (fun x r h=>(qpQ x.1 x.2.1).trans h)
theorem n77 {T:Told} (H:qab T):qar T Tryz.prog (envL e77):=q5q (l:=e77) ⟨ok94 H,trivial⟩
theorem ok77 {T:Told} (H:qab T):qal T Tryz.prog 77 c77 :=
 qaN H.ty (n77 H) hm (lh:=qlo) (ct:=c77) (dcd:=fun y=>(y.2.1)) Tryz.func77 (by kernel_rfl) (by rfl) (q1q (l:=[]) (by kernel_rfl) trivial) (by decide) (fun _=>rfl) (fun x r h=>(qpS x.1 x.2.1).trans h)
theorem n78 {T:Told} (H:qab T):qar T Tryz.prog (envL e78):=q5q (l:=e78) trivial
theorem ok78 {T:Told} (H:qab T):qal T Tryz.prog 78 c78 :=
 qgx H.ty (n78 H) hm (lh:=qgf) (ct:=c78) (wi:=w78) (dcd:=fun y=>(y.2.1,y.2.2.1)) Tryz.func78 (by kernel_rfl) (by rfl) (q1q (l:=[]) (by kernel_rfl) trivial) (fun _=>rfl) rfl (fun x r h=>(qjt x.1).trans h)
theorem n60 {T:Told} (H:qab T):qar T Tryz.prog (envL e60):=q5q (l:=e60) ⟨ok71 H,ok76 H,ok77 H,ok78 H,trivial⟩
theorem ok60 {T:Told} (H:qab T):qal T Tryz.prog 60 c60 :=
 qgx H.ty (n60 H) hm (lh:=qe8) (ct:=c60) (wi:=w60) (dcd:=fun y=>(y.1.1,y.2.1,y.2.2.1,y.2.2.2.1,y.2.2.2.2.1,y.2.2.2.2.2.1,y.2.2.2.2.2.2.1,y.2.2.2.2.2.2.2.1,y.2.2.2.2.2.2.2.2.1,y.2.2.2.2.2.2.2.2.2.1,y.2.2.2.2.2.2.2.2.2.2.1,y.2.2.2.2.2.2.2.2.2.2.2.1,y.2.2.2.2.2.2.2.2.2.2.2.2.1,y.2.2.2.2.2.2.2.2.2.2.2.2.2.1,y.2.2.2.2.2.2.2.2.2.2.2.2.2.2.1,y.2.2.2.2.2.2.2.2.2.2.2.2.2.2.2.1,y.2.2.2.2.2.2.2.2.2.2.2.2.2.2.2.2.1)) Tryz.func60 (by kernel_rfl) (by rfl) (q1q (l:=[]) (by kernel_rfl) trivial) (fun _=>rfl) rfl (fun x r h=>(qhV x.1 x.2.1 x.2.2.1 x.2.2.2.1 x.2.2.2.2.1 x.2.2.2.2.2.1 x.2.2.2.2.2.2.1 x.2.2.2.2.2.2.2.1 x.2.2.2.2.2.2.2.2.1 x.2.2.2.2.2.2.2.2.2.1 x.2.2.2.2.2.2.2.2.2.2.1 x.2.2.2.2.2.2.2.2.2.2.2.1 x.2.2.2.2.2.2.2.2.2.2.2.2.1 x.2.2.2.2.2.2.2.2.2.2.2.2.2.1 x.2.2.2.2.2.2.2.2.2.2.2.2.2.2.1 x.2.2.2.2.2.2.2.2.2.2.2.2.2.2.2.1 x.2.2.2.2.2.2.2.2.2.2.2.2.2.2.2.2.1).trans h)
theorem n44 {T:Told} (H:qab T):qar T Tryz.prog (envL e44):=q5q (l:=e44) ⟨ok15 H,ok57 H,ok58 H,ok59 H,ok60 H,trivial⟩
theorem qir {T:Told} (H:qab T):q12q T Tryz.prog 91 (.loop (q3q 9 (q4q Tryz.f44) .skip)) ⟨qbe,qbR,lp qam K0⟩ :=
 q7q H.ty (n44 H) hm (q1q (l:=[]) (by kernel_rfl) trivial) qit K0
theorem qis {T:Told} (H:qab T):q12q T Tryz.prog 91 (.loop (q3q 1 (q4q Tryz.f44) .skip)) ⟨qbf,qbS,lp qat K0⟩ :=
 q7q H.ty (n44 H) hm (q1q (l:=[(.loop (q3q 9 (q4q Tryz.f44) .skip),⟨qbe,qbR,lp qam K0⟩)]) (by kernel_rfl) ⟨qir H,trivial⟩) qiu K0
theorem ok44 {T:Told} (H:qab T):qal T Tryz.prog 44 c44 :=
 qgx H.ty (n44 H) hm (lh:=qcB) (ct:=c44) (wi:=w44) (dcd:=fun y=>(y.1.1,y.2.1,y.2.2.1,y.2.2.2.1,y.2.2.2.2.1,y.2.2.2.2.2.1)) Tryz.func44 (by kernel_rfl) (by rfl) (q1q (l:=[(.loop (q3q 1 (q4q Tryz.f44) .skip),⟨qbf,qbS,lp qat K0⟩)]) (by kernel_rfl) ⟨qis H,trivial⟩) (fun _=>rfl) rfl (fun x r h=>(qiv x.1 x.2.1 x.2.2.1 x.2.2.2.1 x.2.2.2.2.1 x.2.2.2.2.2.1).trans h)
theorem n23 {T:Told} (H:qab T):qar T Tryz.prog (envL e23):=q5q (l:=e23) ⟨ok43 H,ok44 H,trivial⟩
theorem qnV {T:Told} (H:qab T):q12q T Tryz.prog 34 (.loop (q3q 3 (q4q Tryz.f23) .skip)) ⟨qde,qd6,lp qbU K0⟩ :=
 q7q H.ty (n23 H) hm (q1q (l:=[]) (by kernel_rfl) trivial) qnW K0
theorem ok23 {T:Told} (H:qab T):qal T Tryz.prog 23 c23 :=
 qaN H.ty (n23 H) hm (lh:=qg3) (ct:=c23) (dcd:=fun y=>(y.2.1)) Tryz.func23 (by kernel_rfl) (by rfl) (q1q (l:=[(.loop (q3q 3 (q4q Tryz.f23) .skip),⟨qde,qd6,lp qbU K0⟩)]) (by kernel_rfl) ⟨qnV H,trivial⟩) (by decide) (fun _=>rfl) (fun x r h=>(qnX x.1 x.2.1 x.2.2.1 x.2.2.2.1).trans h)
theorem n10 {T:Told} (H:qab T):qar T Tryz.prog (envL e10):=q5q (l:=e10) ⟨ok22 H,ok23 H,trivial⟩
theorem ok10 {T:Told} (H:qab T):qal T Tryz.prog 10 c10 :=
 qaN H.ty (n10 H) hm (lh:=qhp) (ct:=c10) (dcd:=fun y=>(y.2.1,y.2.2.1)) Tryz.func10 (by kernel_rfl) (by rfl) (q1q (l:=[]) (by kernel_rfl) trivial) (by decide) (fun _=>rfl) (fun x r h=>(qlz x.1 x.2.1).trans h)
theorem n49 {T:Told} (H:qab T):qar T Tryz.prog (envL e49):=q5q (l:=e49) ⟨ok24 H,trivial⟩
theorem ok49 {T:Told} (H:qab T):qal T Tryz.prog 49 c49 :=
 qaN H.ty (n49 H) hm (lh:=qgy) (ct:=c49) (dcd:=fun y=>(y.2.1)) Tryz.func49 (by kernel_rfl) (by rfl) (q1q (l:=[]) (by kernel_rfl) trivial) (by decide) (fun _=>rfl) (fun x r h=>(qku x.1 x.2.1).trans h)
theorem n26 {T:Told} (H:qab T) (n:Nat) (hr:qal T Tryz.prog 26 (c26 n)):qar T Tryz.prog (envL (e26 n)):=q5q (l:=(e26 n)) ⟨hr,ok49 H,trivial⟩
theorem ok26 {T:Told} (H:qab T):∀ n,qal T Tryz.prog 26 (c26 n)
 | 0=>qal.never Tryz.func26 (by kernel_rfl) (by rfl) (fun _=>rfl)
 | n+1=>qaN H.ty (n26 H n (ok26 H n)) hm (lh:=qhe n) (ct:=c26 (n+1)) (dcd:=fun y=>(y.2.1)) Tryz.func26 (by kernel_rfl) (by rfl) (q1q (l:=[]) (by kernel_rfl) trivial) (Nat.le_of_ble_eq_true rfl) (fun _=>rfl) (fun x r h=>(qk3 n x.1 x.2.1 x.2.2.1).trans h)
theorem n12 {T:Told} (H:qab T):qar T Tryz.prog (envL e12):=q5q (l:=e12) ⟨ok25 H,ok26 H R0,ok27 H,trivial⟩
theorem qiN {T:Told} (H:qab T):q12q T Tryz.prog 40 (.loop (q3q 3 (q4q Tryz.f12) .skip)) ⟨qbk,qb2,lp qaA K0⟩ :=
 q7q H.ty (n12 H) hm (q1q (l:=[]) (by kernel_rfl) trivial) qiO K0
theorem ok12 {T:Told} (H:qab T):qal T Tryz.prog 12 c12 :=
 qaN H.ty (n12 H) hm (lh:=qdw) (ct:=c12) (dcd:=fun y=>(y.2.1)) Tryz.func12 (by kernel_rfl) (by rfl) (q1q (l:=[(.loop (q3q 3 (q4q Tryz.f12) .skip),⟨qbk,qb2,lp qaA K0⟩)]) (by kernel_rfl) ⟨qiN H,trivial⟩) (by decide) (fun _=>rfl) (fun x r h=>(qiP x.1 x.2.1).trans h)
theorem n3 {T:Told} (H:qab T):qar T Tryz.prog (envL e3):=q5q (l:=e3) ⟨ok4 H,ok5 H,ok6 H,ok7 H,ok8 H,ok9 H,ok10 H,ok11 H,ok12 H,trivial⟩
theorem qhk {T:Told} (H:qab T):q12q T Tryz.prog 165 (.loop (q3q 11 (q4q Tryz.f3) .skip)) ⟨qaT,qbn,lp qae K0⟩ :=
 q7q H.ty (n3 H) hm (q1q (l:=[]) (by kernel_rfl) trivial) qhn K0
theorem qhj {T:Told} (H:qab T):q12q T Tryz.prog 165 (.loop (q3q 23 (q4q Tryz.f3) .skip)) ⟨qaS,qbm,lp qag K0⟩ :=
 q7q H.ty (n3 H) hm (q1q (l:=[]) (by kernel_rfl) trivial) qhm K0
theorem qhi {T:Told} (H:qab T):q12q T Tryz.prog 165 (.loop (q3q 31 (q4q Tryz.f3) .skip)) ⟨qaR,qbl,lp qaf K0⟩ :=
 q7q H.ty (n3 H) hm (q1q (l:=[]) (by kernel_rfl) trivial) qhl K0
theorem ok3 {T:Told} (H:qab T):qal T Tryz.prog 3 c3 :=
 qaN H.ty (n3 H) hm (lh:=qbw) (ct:=c3) (dcd:=fun y=>(y.2.1)) Tryz.func3 (by kernel_rfl) (by rfl) (q1q (l:=[(.loop (q3q 11 (q4q Tryz.f3) .skip),⟨qaT,qbn,lp qae K0⟩),(.loop (q3q 23 (q4q Tryz.f3) .skip),⟨qaS,qbm,lp qag K0⟩),(.loop (q3q 31 (q4q Tryz.f3) .skip),⟨qaR,qbl,lp qaf K0⟩)]) (by kernel_rfl) ⟨qhk H,qhj H,qhi H,trivial⟩) (by decide) (fun _=>rfl) (fun x r h=>(qhy x.1 x.2.1 x.2.2.1).trans h)
end Go.Proofs.YtlagkhlolphmdaaGreatDoor.X
