/- Own work: part of the proof; the first line of each part says what it tells. -/
import Derived.Test.YtmabkjhobhbfdaaGreatDoorLa10
import Derived.Test.YtmabkjhobhbfdaaGreatDoorLa13


namespace Go.Proofs.YtmabkjhobhbfdaaGreatDoor.X
open Go
set_option linter.unusedVariables false
set_option linter.unusedSimpArgs false
set_option maxRecDepth 100000
theorem F_in {ps:List (Ty×PM)} {rs:List (Ty×Bool)} {T:Type} {F:HL (fsts ps)->Option T} {enc:T->HL (qio ps)×HL (fsts rs)} {wi:Option Wir} (x:HL (fsts ps)) {r:Option T} (h:F x=r):(Ctr.mk ps rs T F enc wi).F x=r:=h
theorem hm:Tryz.prog.follows .mixedOrders=true:=by kernel_rfl
structure qab (T:Told):Prop where
 ty:TbOk Tryz.prog tb
 h108:qae T Tryz.prog 108 c108
 h119:qae T Tryz.prog 119 c119
theorem n60 {T:Told} (H:qab T):qag T Tryz.prog (envL e60):=q5q (l:=e60) trivial
theorem qtj {T:Told} (H:qab T):q12q T Tryz.prog 23 (.loop (q3q 2 (q4q Tryz.f60) .skip)) ⟨qgT,qh3,lp qd0 K0⟩ :=
 q7q H.ty (n60 H) hm (q1q (l:=[]) (by kernel_rfl) trivial) qtk K0
theorem ok60 {T:Told} (H:qab T):qae T Tryz.prog 60 c60 :=
 qas H.ty (n60 H) hm (lh:=qlV) (ct:=c60) (dcd:=fun y=>(y.2.1)) Tryz.func60 (by kernel_rfl) (by rfl) (q1q (l:=[(.loop (q3q 2 (q4q Tryz.f60) .skip),⟨qgT,qh3,lp qd0 K0⟩)]) (by kernel_rfl) ⟨qtj H,trivial⟩) (by decide) (fun _=>rfl) (fun x r h=>(qtl x.1).trans h)
theorem n40 {T:Told} (H:qab T):qag T Tryz.prog (envL e40):=q5q (l:=e40) ⟨ok60 H,trivial⟩
theorem ok40 {T:Told} (H:qab T):qae T Tryz.prog 40 c40 :=
 qas H.ty (n40 H) hm (lh:=qsj) (ct:=c40) (dcd:=fun y=>(y.2.1)) Tryz.func40 (by kernel_rfl) (by rfl) (q1q (l:=[]) (by kernel_rfl) trivial) (by decide) (fun _=>rfl) (fun x r h=>(qwi x.1).trans h)
theorem n63 {T:Told} (H:qab T):qag T Tryz.prog (envL e63):=q5q (l:=e63) trivial
theorem ok63 {T:Told} (H:qab T):qae T Tryz.prog 63 c63 :=
 qas H.ty (n63 H) hm (lh:=qmj) (ct:=c63) (dcd:=fun y=>(y.2.1)) Tryz.func63 (by kernel_rfl) (by rfl) (q1q (l:=[]) (by kernel_rfl) trivial) (by decide) (fun _=>rfl) (fun x r h=>(qqo x.1 x.2.1).trans h)
theorem n52 {T:Told} (H:qab T):qag T Tryz.prog (envL e52):=q5q (l:=e52) ⟨ok40 H,ok63 H,trivial⟩
theorem ok52 {T:Told} (H:qab T):qae T Tryz.prog 52 c52 :=
 qas H.ty (n52 H) hm (lh:=qox) (ct:=c52) (dcd:=fun y=>(y.2.1)) Tryz.func52 (by kernel_rfl) (by rfl) (q1q (l:=[]) (by kernel_rfl) trivial) (by decide) (fun _=>rfl) (fun x r h=>(qsW x.1).trans h)
theorem n23 {T:Told} (H:qab T):qag T Tryz.prog (envL e23):=q5q (l:=e23) ⟨ok40 H,ok52 H,trivial⟩
theorem ok23 {T:Told} (H:qab T):qae T Tryz.prog 23 c23 :=
 qas H.ty (n23 H) hm (lh:=qoU) (ct:=c23) (dcd:=fun y=>(y.2.1)) Tryz.func23 (by kernel_rfl) (by rfl) (q1q (l:=[]) (by kernel_rfl) trivial) (by decide) (fun _=>rfl) (fun x r h=>(qs8 x.1).trans h)
theorem n8 {T:Told} (H:qab T):qag T Tryz.prog (envL e8):=q5q (l:=e8) ⟨ok23 H,trivial⟩
theorem ok8 {T:Told} (H:qab T):qae T Tryz.prog 8 c8 :=
 qas H.ty (n8 H) hm (lh:=qnZ) (ct:=c8) (dcd:=fun y=>(y.2.1)) Tryz.func8 (by kernel_rfl) (by rfl) (q1q (l:=[]) (by kernel_rfl) trivial) (by decide) (fun _=>rfl) (fun x r h=>(qrK ).trans h)
theorem n5 {T:Told} (H:qab T):qag T Tryz.prog (envL e5):=q5q (l:=e5) ⟨ok8 H,trivial⟩
theorem ok5 {T:Told} (H:qab T):qae T Tryz.prog 5 c5 :=
 qfs H.ty (n5 H) hm (lh:=qkb) (ct:=c5) (wi:=w5) (dcd:=fun y=>(y.2.1)) Tryz.func5 (by kernel_rfl) (by rfl) (q1q (l:=[]) (by kernel_rfl) trivial) (fun _=>rfl) rfl (fun x r h=>(qo3 ).trans h)
theorem n15 {T:Told} (H:qab T):qag T Tryz.prog (envL e15):=q5q (l:=e15) ⟨ok40 H,trivial⟩
theorem ok15 {T:Told} (H:qab T):qae T Tryz.prog 15 c15 :=
 qas H.ty (n15 H) hm (lh:=qms) (ct:=c15) (dcd:=fun y=>(y.2.1)) Tryz.func15 (by kernel_rfl) (by rfl) (q1q (l:=[]) (by kernel_rfl) trivial) (by decide) (fun _=>rfl) (fun x r h=>(qqJ ).trans h)
theorem n49 {T:Told} (H:qab T):qag T Tryz.prog (envL e49):=q5q (l:=e49) ⟨ok60 H,trivial⟩
theorem qsk {T:Told} (H:qab T):q12q T Tryz.prog 24 (.loop (q3q 3 (q4q Tryz.f49) .skip)) ⟨qfV,qhf,lp qde K0⟩ :=
 q7q H.ty (n49 H) hm (q1q (l:=[]) (by kernel_rfl) trivial) qsl K0
theorem ok49 {T:Told} (H:qab T):qae T Tryz.prog 49 c49 :=
 qas H.ty (n49 H) hm (lh:=qkr) (ct:=c49) (dcd:=fun y=>(y.2.1)) Tryz.func49 (by kernel_rfl) (by rfl) (q1q (l:=[(.loop (q3q 3 (q4q Tryz.f49) .skip),⟨qfV,qhf,lp qde K0⟩)]) (by kernel_rfl) ⟨qsk H,trivial⟩) (by decide) (fun _=>rfl) (fun x r h=>(qsm x.1).trans h)
theorem n107 {T:Told} (H:qab T):qag T Tryz.prog (envL e107):=q5q (l:=e107) ⟨ok49 H,trivial⟩
theorem qAU {T:Told} (H:qab T):qae T Tryz.prog 107 c107 :=
 qas H.ty (n107 H) hm (lh:=qsi) (ct:=c107) (dcd:=fun y=>(y.2.1,y.2.2.1)) Tryz.func107 (by kernel_rfl) (by rfl) (q1q (l:=[]) (by kernel_rfl) trivial) (by decide) (fun _=>rfl) (fun x r h=>(qwh x.1).trans h)
theorem n79 {T:Told} (H:qab T):qag T Tryz.prog (envL e79):=q5q (l:=e79) ⟨ok40 H,qAU H,trivial⟩
theorem qqT {T:Told} (H:qab T):q12q T Tryz.prog 27 (.loop (q3q 3 (q4q Tryz.f79) .skip)) ⟨qeV,qgh,lp qdd K0⟩ :=
 q7q H.ty (n79 H) hm (q1q (l:=[]) (by kernel_rfl) trivial) qqU K0
theorem ok79 {T:Told} (H:qab T):qae T Tryz.prog 79 c79 :=
 qas H.ty (n79 H) hm (lh:=qjp) (ct:=c79) (dcd:=fun y=>(y.2.1)) Tryz.func79 (by kernel_rfl) (by rfl) (q1q (l:=[(.loop (q3q 3 (q4q Tryz.f79) .skip),⟨qeV,qgh,lp qdd K0⟩)]) (by kernel_rfl) ⟨qqT H,trivial⟩) (by decide) (fun _=>rfl) (fun x r h=>(qqV x.1 x.2.1).trans h)
theorem n80 {T:Told} (H:qab T):qag T Tryz.prog (envL e80):=q5q (l:=e80) ⟨H.h108,trivial⟩
theorem qr3 {T:Told} (H:qab T):q12q T Tryz.prog 24 (.loop (q3q 3 (q4q Tryz.f80) .skip)) ⟨qfP,qg9,lp qdS K0⟩ :=
 q7q H.ty (n80 H) hm (q1q (l:=[]) (by kernel_rfl) trivial) qr4 K0
theorem ok80 {T:Told} (H:qab T):qae T Tryz.prog 80 c80 :=
 qas H.ty (n80 H) hm (lh:=qki) (ct:=c80) (dcd:=fun y=>(y.2.1)) Tryz.func80 (by kernel_rfl) (by rfl) (q1q (l:=[(.loop (q3q 3 (q4q Tryz.f80) .skip),⟨qfP,qg9,lp qdS K0⟩)]) (by kernel_rfl) ⟨qr3 H,trivial⟩) (by decide) (fun _=>rfl) (fun x r h=>(qr5 x.1).trans h)
theorem n88 {T:Told} (H:qab T):qag T Tryz.prog (envL e88):=q5q (l:=e88) trivial
theorem ok88 {T:Told} (H:qab T):qae T Tryz.prog 88 c88 :=
 qas H.ty (n88 H) hm (lh:=qo9) (ct:=c88) (dcd:=fun y=>(y.2.1)) Tryz.func88 (by kernel_rfl) (by rfl) (q1q (l:=[]) (by kernel_rfl) trivial) (by decide) (fun _=>rfl) (fun x r h=>(qtt x.1 x.2.1).trans h)
theorem n81 {T:Told} (H:qab T):qag T Tryz.prog (envL e81):=q5q (l:=e81) ⟨ok60 H,ok88 H,trivial⟩
theorem qu1 {T:Told} (H:qab T):q12q T Tryz.prog 50 (.loop (q3q 6 (q4q Tryz.f81) .skip)) ⟨qhM,qiT,lp qeT K0⟩ :=
 q7q H.ty (n81 H) hm (q1q (l:=[]) (by kernel_rfl) trivial) qu2 K0
theorem ok81 {T:Told} (H:qab T):qae T Tryz.prog 81 c81 :=
 qas H.ty (n81 H) hm (lh:=qno) (ct:=c81) (dcd:=fun y=>(y.2.1)) Tryz.func81 (by kernel_rfl) (by rfl) (q1q (l:=[(.loop (q3q 6 (q4q Tryz.f81) .skip),⟨qhM,qiT,lp qeT K0⟩)]) (by kernel_rfl) ⟨qu1 H,trivial⟩) (by decide) (fun _=>rfl) (fun x r h=>(qu3 x.1 x.2.1).trans h)
theorem n82 {T:Told} (H:qab T):qag T Tryz.prog (envL e82):=q5q (l:=e82) trivial
theorem qr9 {T:Told} (H:qab T):q12q T Tryz.prog 45 (.loop (q3q 6 (q4q Tryz.f82) .skip)) ⟨qfR,qhb,lp qcO K0⟩ :=
 q7q H.ty (n82 H) hm (q1q (l:=[]) (by kernel_rfl) trivial) qsa K0
theorem ok82 {T:Told} (H:qab T):qae T Tryz.prog 82 c82 :=
 qas H.ty (n82 H) hm (lh:=qkl) (ct:=c82) (dcd:=fun y=>(y.2.1)) Tryz.func82 (by kernel_rfl) (by rfl) (q1q (l:=[(.loop (q3q 6 (q4q Tryz.f82) .skip),⟨qfR,qhb,lp qcO K0⟩)]) (by kernel_rfl) ⟨qr9 H,trivial⟩) (by decide) (fun _=>rfl) (fun x r h=>(qsb x.1 x.2.1).trans h)
theorem n83 {T:Told} (H:qab T):qag T Tryz.prog (envL e83):=q5q (l:=e83) ⟨ok60 H,trivial⟩
theorem qu4 {T:Told} (H:qab T):q12q T Tryz.prog 51 (.loop (q3q 4 (q4q Tryz.f83) .skip)) ⟨qhN,qiU,lp qeU K0⟩ :=
 q7q H.ty (n83 H) hm (q1q (l:=[]) (by kernel_rfl) trivial) qu5 K0
theorem ok83 {T:Told} (H:qab T):qae T Tryz.prog 83 c83 :=
 qas H.ty (n83 H) hm (lh:=qnp) (ct:=c83) (dcd:=fun y=>(y.2.1)) Tryz.func83 (by kernel_rfl) (by rfl) (q1q (l:=[(.loop (q3q 4 (q4q Tryz.f83) .skip),⟨qhN,qiU,lp qeU K0⟩)]) (by kernel_rfl) ⟨qu4 H,trivial⟩) (by decide) (fun _=>rfl) (fun x r h=>(qu6 x.1 x.2.1).trans h)
theorem n86 {T:Told} (H:qab T):qag T Tryz.prog (envL e86):=q5q (l:=e86) ⟨ok60 H,trivial⟩
theorem qr6 {T:Told} (H:qab T):q12q T Tryz.prog 38 (.loop (q3q 4 (q4q Tryz.f86) .skip)) ⟨qfQ,qha,lp qdT K0⟩ :=
 q7q H.ty (n86 H) hm (q1q (l:=[]) (by kernel_rfl) trivial) qr7 K0
theorem ok86 {T:Told} (H:qab T):qae T Tryz.prog 86 c86 :=
 qas H.ty (n86 H) hm (lh:=qkj) (ct:=c86) (dcd:=fun y=>(y.2.1,y.2.2.1)) Tryz.func86 (by kernel_rfl) (by rfl) (q1q (l:=[(.loop (q3q 4 (q4q Tryz.f86) .skip),⟨qfQ,qha,lp qdT K0⟩)]) (by kernel_rfl) ⟨qr6 H,trivial⟩) (by decide) (fun _=>rfl) (fun x r h=>(qr8 x.1 x.2.1).trans h)
theorem n109 {T:Told} (H:qab T):qag T Tryz.prog (envL e109):=q5q (l:=e109) ⟨H.h119,trivial⟩
theorem qAT {T:Told} (H:qab T):qae T Tryz.prog 109 c109 :=
 qas H.ty (n109 H) hm (lh:=qgL) (ct:=c109) (dcd:=fun y=>(y.2.1)) Tryz.func109 (by kernel_rfl) (by rfl) (q1q (l:=[]) (by kernel_rfl) trivial) (by decide) (fun _=>rfl) (fun x r h=>(qjV x.1).trans h)
theorem n120 {T:Told} (H:qab T):qag T Tryz.prog (envL e120):=q5q (l:=e120) ⟨ok88 H,trivial⟩
theorem qtm {T:Told} (H:qab T):q12q T Tryz.prog 46 (.loop (q3q 3 (q4q Tryz.f120) .skip)) ⟨qgU,qh4,lp qeH K0⟩ :=
 q7q H.ty (n120 H) hm (q1q (l:=[]) (by kernel_rfl) trivial) qtn K0
theorem qAN {T:Told} (H:qab T):qae T Tryz.prog 120 c120 :=
 qas H.ty (n120 H) hm (lh:=qlW) (ct:=c120) (dcd:=fun y=>(y.1.1,y.2.1)) Tryz.func120 (by kernel_rfl) (by rfl) (q1q (l:=[(.loop (q3q 3 (q4q Tryz.f120) .skip),⟨qgU,qh4,lp qeH K0⟩)]) (by kernel_rfl) ⟨qtm H,trivial⟩) (by decide) (fun _=>rfl) (fun x r h=>(qto x.1 x.2.1 x.2.2.1).trans h)
theorem n121 {T:Told} (H:qab T):qag T Tryz.prog (envL e121):=q5q (l:=e121) ⟨ok88 H,trivial⟩
theorem qtu {T:Told} (H:qab T):q12q T Tryz.prog 29 (.loop (q3q 2 (q4q Tryz.f121) .skip)) ⟨qgW,qh7,lp qeI K0⟩ :=
 q7q H.ty (n121 H) hm (q1q (l:=[]) (by kernel_rfl) trivial) qtv K0
theorem qAM {T:Told} (H:qab T):qae T Tryz.prog 121 c121 :=
 qas H.ty (n121 H) hm (lh:=qlY) (ct:=c121) (dcd:=fun y=>(y.1.1)) Tryz.func121 (by kernel_rfl) (by rfl) (q1q (l:=[(.loop (q3q 2 (q4q Tryz.f121) .skip),⟨qgW,qh7,lp qeI K0⟩)]) (by kernel_rfl) ⟨qtu H,trivial⟩) (by decide) (fun _=>rfl) (fun x r h=>(qtw x.1 x.2.1).trans h)
theorem n110 {T:Told} (H:qab T):qag T Tryz.prog (envL e110):=q5q (l:=e110) ⟨qAN H,qAM H,trivial⟩
theorem qsf {T:Told} (H:qab T):q12q T Tryz.prog 77 (.loop (q3q 4 (q4q Tryz.f110) .skip)) ⟨qfT,qhe,lp qbA K0⟩ :=
 q7q H.ty (n110 H) hm (q1q (l:=[]) (by kernel_rfl) trivial) qsg K0
theorem qAS {T:Told} (H:qab T):qae T Tryz.prog 110 c110 :=
 qas H.ty (n110 H) hm (lh:=qkn) (ct:=c110) (dcd:=fun y=>(y.1.1,y.2.1)) Tryz.func110 (by kernel_rfl) (by rfl) (q1q (l:=[(.loop (q3q 4 (q4q Tryz.f110) .skip),⟨qfT,qhe,lp qbA K0⟩)]) (by kernel_rfl) ⟨qsf H,trivial⟩) (by decide) (fun _=>rfl) (fun x r h=>(qsh x.1 x.2.1).trans h)
theorem n87 {T:Told} (H:qab T):qag T Tryz.prog (envL e87):=q5q (l:=e87) ⟨ok60 H,ok81 H,ok83 H,qAT H,qAS H,trivial⟩
theorem qtq {T:Told} (H:qab T):q12q T Tryz.prog 64 (.loop (q3q 7 (q4q Tryz.f87) .skip)) ⟨qgV,qh6,lp qd2 K0⟩ :=
 q7q H.ty (n87 H) hm (q1q (l:=[]) (by kernel_rfl) trivial) qtr K0
theorem ok87 {T:Told} (H:qab T):qae T Tryz.prog 87 c87 :=
 qas H.ty (n87 H) hm (lh:=qlX) (ct:=c87) (dcd:=fun y=>(y.2.1,y.2.2.1)) Tryz.func87 (by kernel_rfl) (by rfl) (q1q (l:=[(.loop (q3q 7 (q4q Tryz.f87) .skip),⟨qgV,qh6,lp qd2 K0⟩)]) (by kernel_rfl) ⟨qtq H,trivial⟩) (by decide) (fun _=>rfl) (fun x r h=>(qts x.1 x.2.1).trans h)
theorem n62 {T:Told} (H:qab T):qag T Tryz.prog (envL e62):=q5q (l:=e62) ⟨ok40 H,ok49 H,ok82 H,ok86 H,ok87 H,trivial⟩
theorem ok62 {T:Told} (H:qab T):qae T Tryz.prog 62 c62 :=
 qas H.ty (n62 H) hm (lh:=qmK) (ct:=c62) (dcd:=fun y=>(y.2.1,y.2.2.1,y.2.2.2.1)) Tryz.func62 (by kernel_rfl) (by rfl) (q1q (l:=[]) (by kernel_rfl) trivial) (by decide) (fun _=>rfl) (fun x r h=>(qqW x.1 x.2.1).trans h)
theorem n84 {T:Told} (H:qab T):qag T Tryz.prog (envL e84):=q5q (l:=e84) ⟨ok62 H,trivial⟩
theorem ok84 {T:Told} (H:qab T):qae T Tryz.prog 84 c84 :=
 qas H.ty (n84 H) hm (lh:=qo8) (ct:=c84) (dcd:=fun y=>(y.2.1,y.2.2.1)) Tryz.func84 (by kernel_rfl) (by rfl) (q1q (l:=[]) (by kernel_rfl) trivial) (by decide) (fun _=>rfl) (fun x r h=>(qtp x.1 x.2.1).trans h)
theorem n85 {T:Told} (H:qab T):qag T Tryz.prog (envL e85):=q5q (l:=e85) ⟨ok60 H,ok88 H,trivial⟩
theorem qsc {T:Told} (H:qab T):q12q T Tryz.prog 39 (.loop (q3q 4 (q4q Tryz.f85) .skip)) ⟨qfS,qhd,lp qdU K0⟩ :=
 q7q H.ty (n85 H) hm (q1q (l:=[]) (by kernel_rfl) trivial) qsd K0
theorem ok85 {T:Told} (H:qab T):qae T Tryz.prog 85 c85 :=
 qas H.ty (n85 H) hm (lh:=qkm) (ct:=c85) (dcd:=fun y=>(y.2.1)) Tryz.func85 (by kernel_rfl) (by rfl) (q1q (l:=[(.loop (q3q 4 (q4q Tryz.f85) .skip),⟨qfS,qhd,lp qdU K0⟩)]) (by kernel_rfl) ⟨qsc H,trivial⟩) (by decide) (fun _=>rfl) (fun x r h=>(qse x.1 x.2.1).trans h)
theorem n61 {T:Told} (H:qab T):qag T Tryz.prog (envL e61):=q5q (l:=e61) ⟨ok49 H,ok79 H,ok80 H,ok81 H,ok82 H,ok83 H,ok84 H,ok85 H,trivial⟩
theorem qtx {T:Told} (H:qab T):q12q T Tryz.prog 86 (.loop (q3q 10 (q4q Tryz.f61) .skip)) ⟨qgX,qh8,lp qbY K0⟩ :=
 q7q H.ty (n61 H) hm (q1q (l:=[]) (by kernel_rfl) trivial) qty K0
theorem ok61 {T:Told} (H:qab T):qae T Tryz.prog 61 c61 :=
 qas H.ty (n61 H) hm (lh:=qnq) (ct:=c61) (dcd:=fun y=>(y.2.1)) Tryz.func61 (by kernel_rfl) (by rfl) (q1q (l:=[(.loop (q3q 10 (q4q Tryz.f61) .skip),⟨qgX,qh8,lp qbY K0⟩)]) (by kernel_rfl) ⟨qtx H,trivial⟩) (by decide) (fun _=>rfl) (fun x r h=>(qvd x.1 x.2.1).trans h)
theorem n41 {T:Told} (H:qab T):qag T Tryz.prog (envL e41):=q5q (l:=e41) ⟨ok40 H,ok61 H,ok62 H,trivial⟩
theorem ok41 {T:Told} (H:qab T):qae T Tryz.prog 41 c41 :=
 qas H.ty (n41 H) hm (lh:=qmr) (ct:=c41) (dcd:=fun y=>(y.2.1)) Tryz.func41 (by kernel_rfl) (by rfl) (q1q (l:=[]) (by kernel_rfl) trivial) (by decide) (fun _=>rfl) (fun x r h=>(qqI x.1 x.2.1).trans h)
theorem n50 {T:Told} (H:qab T):qag T Tryz.prog (envL e50):=q5q (l:=e50) ⟨ok49 H,ok63 H,trivial⟩
theorem ok50 {T:Told} (H:qab T):qae T Tryz.prog 50 c50 :=
 qas H.ty (n50 H) hm (lh:=qlI) (ct:=c50) (dcd:=fun y=>(y.2.1)) Tryz.func50 (by kernel_rfl) (by rfl) (q1q (l:=[]) (by kernel_rfl) trivial) (by decide) (fun _=>rfl) (fun x r h=>(qpB x.1).trans h)
theorem n20 {T:Told} (H:qab T):qag T Tryz.prog (envL e20):=q5q (l:=e20) ⟨ok15 H,ok41 H,ok49 H,ok50 H,trivial⟩
theorem ok20 {T:Told} (H:qab T):qae T Tryz.prog 20 c20 :=
 qas H.ty (n20 H) hm (lh:=qlM) (ct:=c20) (dcd:=fun y=>(y.2.1)) Tryz.func20 (by kernel_rfl) (by rfl) (q1q (l:=[]) (by kernel_rfl) trivial) (by decide) (fun _=>rfl) (fun x r h=>(qpL x.1).trans h)
theorem n64 {T:Told} (H:qab T):qag T Tryz.prog (envL e64):=q5q (l:=e64) ⟨ok49 H,ok60 H,ok88 H,trivial⟩
theorem qvf {T:Told} (H:qab T):q12q T Tryz.prog 43 (.loop (q3q 5 (q4q Tryz.f64) .skip)) ⟨qhQ,qiZ,lp qfW K0⟩ :=
 q7q H.ty (n64 H) hm (q1q (l:=[]) (by kernel_rfl) trivial) qvg K0
theorem ok64 {T:Told} (H:qab T):qae T Tryz.prog 64 c64 :=
 qas H.ty (n64 H) hm (lh:=qnr) (ct:=c64) (dcd:=fun y=>(y.2.1)) Tryz.func64 (by kernel_rfl) (by rfl) (q1q (l:=[(.loop (q3q 5 (q4q Tryz.f64) .skip),⟨qhQ,qiZ,lp qfW K0⟩)]) (by kernel_rfl) ⟨qvf H,trivial⟩) (by decide) (fun _=>rfl) (fun x r h=>(qvh x.1 x.2.1).trans h)
theorem n65 {T:Told} (H:qab T):qag T Tryz.prog (envL e65):=q5q (l:=e65) ⟨ok49 H,ok82 H,trivial⟩
theorem ok65 {T:Told} (H:qab T):qae T Tryz.prog 65 c65 :=
 qas H.ty (n65 H) hm (lh:=qp7) (ct:=c65) (dcd:=fun y=>(y.2.1)) Tryz.func65 (by kernel_rfl) (by rfl) (q1q (l:=[]) (by kernel_rfl) trivial) (by decide) (fun _=>rfl) (fun x r h=>(qve x.1 x.2.1).trans h)
theorem n66 {T:Told} (H:qab T):qag T Tryz.prog (envL e66):=q5q (l:=e66) ⟨ok49 H,ok82 H,ok85 H,trivial⟩
theorem ok66 {T:Told} (H:qab T):qae T Tryz.prog 66 c66 :=
 qas H.ty (n66 H) hm (lh:=qp6) (ct:=c66) (dcd:=fun y=>(y.2.1,y.2.2.1)) Tryz.func66 (by kernel_rfl) (by rfl) (q1q (l:=[]) (by kernel_rfl) trivial) (by decide) (fun _=>rfl) (fun x r h=>(qu7 x.1 x.2.1).trans h)
theorem n42 {T:Told} (H:qab T):qag T Tryz.prog (envL e42):=q5q (l:=e42) ⟨ok50 H,ok63 H,ok64 H,ok65 H,ok66 H,trivial⟩
theorem ok42 {T:Told} (H:qab T):qae T Tryz.prog 42 c42 :=
 qas H.ty (n42 H) hm (lh:=qnO) (ct:=c42) (dcd:=fun y=>(y.2.1)) Tryz.func42 (by kernel_rfl) (by rfl) (q1q (l:=[]) (by kernel_rfl) trivial) (by decide) (fun _=>rfl) (fun x r h=>(qrp x.1 x.2.1).trans h)
theorem n45 {T:Told} (H:qab T):qag T Tryz.prog (envL e45):=q5q (l:=e45) ⟨ok49 H,ok60 H,trivial⟩
theorem qu8 {T:Told} (H:qab T):q12q T Tryz.prog 67 (.loop (q3q 8 (q4q Tryz.f45) .skip)) ⟨qhO,qiX,lp qeW K0⟩ :=
 q7q H.ty (n45 H) hm (q1q (l:=[]) (by kernel_rfl) trivial) qva K0
theorem qu9 {T:Told} (H:qab T):q12q T Tryz.prog 67 (.loop (q3q 4 (q4q Tryz.f45) .skip)) ⟨qhP,qiY,lp qfU K0⟩ :=
 q7q H.ty (n45 H) hm (q1q (l:=[(.loop (q3q 8 (q4q Tryz.f45) .skip),⟨qhO,qiX,lp qeW K0⟩)]) (by kernel_rfl) ⟨qu8 H,trivial⟩) qvb K0
theorem ok45 {T:Told} (H:qab T):qae T Tryz.prog 45 c45 :=
 qas H.ty (n45 H) hm (lh:=qlf) (ct:=c45) (dcd:=fun y=>(y.2.1)) Tryz.func45 (by kernel_rfl) (by rfl) (q1q (l:=[(.loop (q3q 4 (q4q Tryz.f45) .skip),⟨qhP,qiY,lp qfU K0⟩)]) (by kernel_rfl) ⟨qu9 H,trivial⟩) (by decide) (fun _=>rfl) (fun x r h=>(qvc x.1 x.2.1).trans h)
theorem n43 {T:Told} (H:qab T):qag T Tryz.prog (envL e43):=q5q (l:=e43) ⟨ok45 H,ok50 H,ok63 H,trivial⟩
theorem ok43 {T:Told} (H:qab T):qae T Tryz.prog 43 c43 :=
 qas H.ty (n43 H) hm (lh:=qnM) (ct:=c43) (dcd:=fun y=>(y.2.1)) Tryz.func43 (by kernel_rfl) (by rfl) (q1q (l:=[]) (by kernel_rfl) trivial) (by decide) (fun _=>rfl) (fun x r h=>(qrn x.1 x.2.1).trans h)
theorem n44 {T:Told} (H:qab T):qag T Tryz.prog (envL e44):=q5q (l:=e44) trivial
theorem ok44 {T:Told} (H:qab T):qae T Tryz.prog 44 c44 :=
 qas H.ty (n44 H) hm (lh:=qnW) (ct:=c44) (dcd:=fun y=>(y.2.1)) Tryz.func44 (by kernel_rfl) (by rfl) (q1q (l:=[]) (by kernel_rfl) trivial) (by decide) (fun _=>rfl) (fun x r h=>(qrD x.1).trans h)
theorem n16 {T:Told} (H:qab T):qag T Tryz.prog (envL e16):=q5q (l:=e16) ⟨ok20 H,ok41 H,ok42 H,ok43 H,ok44 H,ok45 H,trivial⟩
theorem ok16 {T:Told} (H:qab T):qae T Tryz.prog 16 c16 :=
 qas H.ty (n16 H) hm (lh:=qn5) (ct:=c16) (dcd:=fun y=>(y.2.1)) Tryz.func16 (by kernel_rfl) (by rfl) (q1q (l:=[]) (by kernel_rfl) trivial) (by decide) (fun _=>rfl) (fun x r h=>(qrS x.1 x.2.1).trans h)
theorem n18 {T:Told} (H:qab T):qag T Tryz.prog (envL e18):=q5q (l:=e18) trivial
theorem qj7 {T:Told} (H:qab T):q12q T Tryz.prog 29 (.loop (q3q 4 (q4q Tryz.f18) .skip)) ⟨qby,qcj,lp qak K0⟩ :=
 q7q H.ty (n18 H) hm (q1q (l:=[]) (by kernel_rfl) trivial) qj8 K0
theorem ok18 {T:Told} (H:qab T):qae T Tryz.prog 18 c18 :=
 qfs H.ty (n18 H) hm (lh:=qeC) (ct:=c18) (wi:=w18) (dcd:=fun y=>(y.2.1,y.2.2.1)) Tryz.func18 (by kernel_rfl) (by rfl) (q1q (l:=[(.loop (q3q 4 (q4q Tryz.f18) .skip),⟨qby,qcj,lp qak K0⟩)]) (by kernel_rfl) ⟨qj7 H,trivial⟩) (fun _=>rfl) rfl (fun x r h=>(qj9 x.1 x.2.1).trans h)
theorem n48 {T:Told} (H:qab T):qag T Tryz.prog (envL e48):=q5q (l:=e48) ⟨ok50 H,trivial⟩
theorem ok48 {T:Told} (H:qab T):qae T Tryz.prog 48 c48 :=
 qas H.ty (n48 H) hm (lh:=qmk) (ct:=c48) (dcd:=fun y=>(y.2.1)) Tryz.func48 (by kernel_rfl) (by rfl) (q1q (l:=[]) (by kernel_rfl) trivial) (by decide) (fun _=>rfl) (fun x r h=>(qqp x.1).trans h)
theorem n19 {T:Told} (H:qab T):qag T Tryz.prog (envL e19):=q5q (l:=e19) ⟨ok20 H,ok48 H,trivial⟩
theorem ok19 {T:Told} (H:qab T):qae T Tryz.prog 19 c19 :=
 qas H.ty (n19 H) hm (lh:=qmu) (ct:=c19) (dcd:=fun y=>(y.2.1)) Tryz.func19 (by kernel_rfl) (by rfl) (q1q (l:=[]) (by kernel_rfl) trivial) (by decide) (fun _=>rfl) (fun x r h=>(qqK x.1).trans h)
theorem n21 {T:Told} (H:qab T):qag T Tryz.prog (envL e21):=q5q (l:=e21) ⟨ok20 H,ok41 H,ok43 H,ok45 H,trivial⟩
theorem ok21 {T:Told} (H:qab T):qae T Tryz.prog 21 c21 :=
 qas H.ty (n21 H) hm (lh:=qn1) (ct:=c21) (dcd:=fun y=>(y.2.1)) Tryz.func21 (by kernel_rfl) (by rfl) (q1q (l:=[]) (by kernel_rfl) trivial) (by decide) (fun _=>rfl) (fun x r h=>(qrN x.1 x.2.1).trans h)
theorem n72 {T:Told} (H:qab T):qag T Tryz.prog (envL e72):=q5q (l:=e72) ⟨ok50 H,ok63 H,trivial⟩
theorem ok72 {T:Told} (H:qab T):qae T Tryz.prog 72 c72 :=
 qas H.ty (n72 H) hm (lh:=qnL) (ct:=c72) (dcd:=fun y=>(y.2.1)) Tryz.func72 (by kernel_rfl) (by rfl) (q1q (l:=[]) (by kernel_rfl) trivial) (by decide) (fun _=>rfl) (fun x r h=>(qrm x.1).trans h)
theorem n51 {T:Told} (H:qab T):qag T Tryz.prog (envL e51):=q5q (l:=e51) ⟨ok41 H,ok48 H,ok50 H,ok72 H,trivial⟩
theorem ok51 {T:Told} (H:qab T):qae T Tryz.prog 51 c51 :=
 qas H.ty (n51 H) hm (lh:=qmw) (ct:=c51) (dcd:=fun y=>(y.2.1,y.2.2.1)) Tryz.func51 (by kernel_rfl) (by rfl) (q1q (l:=[]) (by kernel_rfl) trivial) (by decide) (fun _=>rfl) (fun x r h=>(qqM x.1 x.2.1).trans h)
theorem n22 {T:Told} (H:qab T):qag T Tryz.prog (envL e22):=q5q (l:=e22) ⟨ok20 H,ok51 H,ok52 H,trivial⟩
theorem ok22 {T:Told} (H:qab T):qae T Tryz.prog 22 c22 :=
 qas H.ty (n22 H) hm (lh:=qmx) (ct:=c22) (dcd:=fun y=>(y.2.1)) Tryz.func22 (by kernel_rfl) (by rfl) (q1q (l:=[]) (by kernel_rfl) trivial) (by decide) (fun _=>rfl) (fun x r h=>(qqO x.1 x.2.1).trans h)
theorem n7 {T:Told} (H:qab T):qag T Tryz.prog (envL e7):=q5q (l:=e7) ⟨ok15 H,ok16 H,ok18 H,ok19 H,ok20 H,ok21 H,ok22 H,trivial⟩
theorem qiQ {T:Told} (H:qab T):q12q T Tryz.prog 113 (.loop (q3q 10 (q4q Tryz.f7) .skip)) ⟨qa8,qbz,lp qao K0⟩ :=
 q7q H.ty (n7 H) hm (q1q (l:=[]) (by kernel_rfl) trivial) qiR K0
theorem ok7 {T:Told} (H:qab T):qae T Tryz.prog 7 c7 :=
 qfs H.ty (n7 H) hm (lh:=qdZ) (ct:=c7) (wi:=w7) (dcd:=fun y=>(y.2.1,y.2.2.1)) Tryz.func7 (by kernel_rfl) (by rfl) (q1q (l:=[(.loop (q3q 10 (q4q Tryz.f7) .skip),⟨qa8,qbz,lp qao K0⟩)]) (by kernel_rfl) ⟨qiQ H,trivial⟩) (fun _=>rfl) rfl (fun x r h=>(qjm x.1 x.2.1 x.2.2.1 x.2.2.2.1).trans h)
theorem n14 {T:Told} (H:qab T):qag T Tryz.prog (envL e14):=q5q (l:=e14) trivial
theorem ok14 {T:Told} (H:qab T):qae T Tryz.prog 14 c14 :=
 qas H.ty (n14 H) hm (lh:=qgz) (ct:=c14) (dcd:=fun y=>(y.2.1)) Tryz.func14 (by kernel_rfl) (by rfl) (q1q (l:=[]) (by kernel_rfl) trivial) (by decide) (fun _=>rfl) (fun x r h=>(qjw x.1 x.2.1).trans h)
theorem n57 {T:Told} (H:qab T):qag T Tryz.prog (envL e57):=q5q (l:=e57) ⟨ok20 H,ok44 H,ok51 H,trivial⟩
theorem ok57 {T:Told} (H:qab T):qae T Tryz.prog 57 c57 :=
 qas H.ty (n57 H) hm (lh:=qn2) (ct:=c57) (dcd:=fun y=>(y.2.1,y.2.2.1)) Tryz.func57 (by kernel_rfl) (by rfl) (q1q (l:=[]) (by kernel_rfl) trivial) (by decide) (fun _=>rfl) (fun x r h=>(qrP x.1).trans h)
theorem n77 {T:Told} (H:qab T):qag T Tryz.prog (envL e77):=q5q (l:=e77) ⟨ok20 H,ok72 H,trivial⟩
theorem ok77 {T:Told} (H:qab T):qae T Tryz.prog 77 c77 :=
 qas H.ty (n77 H) hm (lh:=qn0) (ct:=c77) (dcd:=fun y=>(y.2.1)) Tryz.func77 (by kernel_rfl) (by rfl) (q1q (l:=[]) (by kernel_rfl) trivial) (by decide) (fun _=>rfl) (fun x r h=>(qrM x.1).trans h)
theorem n58 {T:Told} (H:qab T):qag T Tryz.prog (envL e58):=q5q (l:=e58) ⟨ok16 H,ok77 H,trivial⟩
theorem ok58 {T:Told} (H:qab T):qae T Tryz.prog 58 c58 :=
 qas H.ty (n58 H) hm (lh:=qnX) (ct:=c58) (dcd:=fun y=>(y.2.1)) Tryz.func58 (by kernel_rfl) (by rfl) (q1q (l:=[]) (by kernel_rfl) trivial) (by decide) (fun _=>rfl) (fun x r h=>(qrJ x.1 x.2.1).trans h)
theorem n34 {T:Told} (H:qab T):qag T Tryz.prog (envL e34):=q5q (l:=e34) ⟨ok21 H,ok22 H,ok57 H,ok58 H,trivial⟩
theorem qiK {T:Told} (H:qab T):q12q T Tryz.prog 104 (.loop (q3q 7 (q4q Tryz.f34) .skip)) ⟨qa6,qbv,lp qan K0⟩ :=
 q7q H.ty (n34 H) hm (q1q (l:=[]) (by kernel_rfl) trivial) qiL K0
theorem ok34 {T:Told} (H:qab T):qae T Tryz.prog 34 c34 :=
 qfs H.ty (n34 H) hm (lh:=qdG) (ct:=c34) (wi:=w34) (dcd:=fun y=>(y.2.1,y.2.2.1)) Tryz.func34 (by kernel_rfl) (by rfl) (q1q (l:=[(.loop (q3q 7 (q4q Tryz.f34) .skip),⟨qa6,qbv,lp qan K0⟩)]) (by kernel_rfl) ⟨qiK H,trivial⟩) (fun _=>rfl) rfl (fun x r h=>(qiM x.1 x.2.1).trans h)
theorem n24 {T:Told} (H:qab T):qag T Tryz.prog (envL e24):=q5q (l:=e24) ⟨ok34 H,trivial⟩
theorem qjj {T:Told} (H:qab T):q12q T Tryz.prog 66 (.loop (q3q 8 (q4q Tryz.f24) .skip)) ⟨qbg,qbW,lp qbV K0⟩ :=
 q7q H.ty (n24 H) hm (q1q (l:=[]) (by kernel_rfl) trivial) qjk K0
theorem ok24 {T:Told} (H:qab T):qae T Tryz.prog 24 c24 :=
 qfs H.ty (n24 H) hm (lh:=qdY) (ct:=c24) (wi:=w24) (dcd:=fun y=>(y.2.1,y.2.2.1)) Tryz.func24 (by kernel_rfl) (by rfl) (q1q (l:=[(.loop (q3q 8 (q4q Tryz.f24) .skip),⟨qbg,qbW,lp qbV K0⟩)]) (by kernel_rfl) ⟨qjj H,trivial⟩) (fun _=>rfl) rfl (fun x r h=>(qjl x.1 x.2.1).trans h)
theorem n53 {T:Told} (H:qab T):qag T Tryz.prog (envL e53):=q5q (l:=e53) trivial
theorem ok53 {T:Told} (H:qab T):qae T Tryz.prog 53 c53 :=
 qas H.ty (n53 H) hm (lh:=qgK) (ct:=c53) (dcd:=fun y=>(y.2.1)) Tryz.func53 (by kernel_rfl) (by rfl) (q1q (l:=[]) (by kernel_rfl) trivial) (by decide) (fun _=>rfl) (fun x r h=>(qjU x.1).trans h)
theorem n25 {T:Told} (H:qab T):qag T Tryz.prog (envL e25):=q5q (l:=e25) ⟨ok53 H,trivial⟩
theorem qmd {T:Told} (H:qab T):q12q T Tryz.prog 32 (.loop (q3q 3 (q4q Tryz.f25) .skip)) ⟨qcg,qc2,lp qaV K0⟩ :=
 q7q H.ty (n25 H) hm (q1q (l:=[]) (by kernel_rfl) trivial) qme K0
theorem ok25 {T:Told} (H:qab T):qae T Tryz.prog 25 c25 :=
 qas H.ty (n25 H) hm (lh:=qfH) (ct:=c25) (dcd:=fun y=>(y.2.1)) Tryz.func25 (by kernel_rfl) (by rfl) (q1q (l:=[(.loop (q3q 3 (q4q Tryz.f25) .skip),⟨qcg,qc2,lp qaV K0⟩)]) (by kernel_rfl) ⟨qmd H,trivial⟩) (by decide) (fun _=>rfl) (fun x r h=>(qmf x.1 x.2.1).trans h)
theorem n26 {T:Told} (H:qab T):qag T Tryz.prog (envL e26):=q5q (l:=e26) trivial
theorem qk3 {T:Told} (H:qab T):q12q T Tryz.prog 21 (.loop (q3q 2 (q4q Tryz.f26) .skip)) ⟨qbL,qct,lp qal K0⟩ :=
 q7q H.ty (n26 H) hm (q1q (l:=[]) (by kernel_rfl) trivial) qk4 K0
theorem ok26 {T:Told} (H:qab T):qae T Tryz.prog 26 c26 :=
 qas H.ty (n26 H) hm (lh:=qeO) (ct:=c26) (dcd:=fun y=>(y.2.1)) Tryz.func26 (by kernel_rfl) (by rfl) (q1q (l:=[(.loop (q3q 2 (q4q Tryz.f26) .skip),⟨qbL,qct,lp qal K0⟩)]) (by kernel_rfl) ⟨qk3 H,trivial⟩) (by decide) (fun _=>rfl) (fun x r h=>(qk5 x.1 x.2.1).trans h)
theorem n9 {T:Told} (H:qab T):qag T Tryz.prog (envL e9):=q5q (l:=e9) ⟨ok7 H,ok14 H,ok19 H,ok24 H,ok25 H,ok26 H,trivial⟩
theorem ok9 {T:Told} (H:qab T):qae T Tryz.prog 9 c9 :=
 qfs H.ty (n9 H) hm (lh:=qhw) (ct:=c9) (wi:=w9) (dcd:=fun y=>(y.2.1,y.2.2.1,y.2.2.2.1)) Tryz.func9 (by kernel_rfl) (by rfl) (q1q (l:=[]) (by kernel_rfl) trivial) (fun _=>rfl) rfl (fun x r h=>(qlE x.1 x.2.1 x.2.2.1).trans h)
theorem n35 {T:Told} (H:qab T):qag T Tryz.prog (envL e35):=q5q (l:=e35) trivial
theorem ok35 {T:Told} (H:qab T):qae T Tryz.prog 35 c35 :=
 qfs H.ty (n35 H) hm (lh:=qnQ) (ct:=c35) (wi:=w35) (dcd:=fun y=>(y.2.1,y.2.2.1,y.2.2.2.1,y.2.2.2.2.1)) Tryz.func35 (by kernel_rfl) (by rfl) (q1q (l:=[]) (by kernel_rfl) trivial) (fun _=>rfl) rfl (fun x r h=>(qrq ).trans h)
theorem n36 {T:Told} (H:qab T):qag T Tryz.prog (envL e36):=q5q (l:=e36) trivial
theorem qma {T:Told} (H:qab T):q12q T Tryz.prog 13 (.loop (q3q 3 (q4q Tryz.f36) .skip)) ⟨qcf,qcZ,lp qaU K0⟩ :=
 q7q H.ty (n36 H) hm (q1q (l:=[]) (by kernel_rfl) trivial) qmb K0
theorem ok36 {T:Told} (H:qab T):qae T Tryz.prog 36 c36 :=
 qas H.ty (n36 H) hm (lh:=qfG) (ct:=c36) (dcd:=fun y=>(y.2.1)) Tryz.func36 (by kernel_rfl) (by rfl) (q1q (l:=[(.loop (q3q 3 (q4q Tryz.f36) .skip),⟨qcf,qcZ,lp qaU K0⟩)]) (by kernel_rfl) ⟨qma H,trivial⟩) (by decide) (fun _=>rfl) (fun x r h=>(qmc x.1).trans h)
theorem n37 {T:Told} (H:qab T):qag T Tryz.prog (envL e37):=q5q (l:=e37) trivial
theorem qmX {T:Told} (H:qab T):q12q T Tryz.prog 16 (.loop (q3q 2 (q4q Tryz.f37) .skip)) ⟨qcx,qdl,lp qa1 K0⟩ :=
 q7q H.ty (n37 H) hm (q1q (l:=[]) (by kernel_rfl) trivial) qmY K0
theorem ok37 {T:Told} (H:qab T):qae T Tryz.prog 37 c37 :=
 qas H.ty (n37 H) hm (lh:=qgA) (ct:=c37) (dcd:=fun y=>(y.2.1)) Tryz.func37 (by kernel_rfl) (by rfl) (q1q (l:=[(.loop (q3q 2 (q4q Tryz.f37) .skip),⟨qcx,qdl,lp qa1 K0⟩)]) (by kernel_rfl) ⟨qmX H,trivial⟩) (by decide) (fun _=>rfl) (fun x r h=>(qmZ x.1 x.2.1).trans h)
theorem n38 {T:Told} (H:qab T):qag T Tryz.prog (envL e38):=q5q (l:=e38) ⟨ok37 H,trivial⟩
theorem qlF {T:Told} (H:qab T):q12q T Tryz.prog 18 (.loop (q3q 3 (q4q Tryz.f38) .skip)) ⟨qb9,qcJ,lp qaO K0⟩ :=
 q7q H.ty (n38 H) hm (q1q (l:=[]) (by kernel_rfl) trivial) qlG K0
theorem ok38 {T:Told} (H:qab T):qae T Tryz.prog 38 c38 :=
 qas H.ty (n38 H) hm (lh:=qfc) (ct:=c38) (dcd:=fun y=>(y.2.1)) Tryz.func38 (by kernel_rfl) (by rfl) (q1q (l:=[(.loop (q3q 3 (q4q Tryz.f38) .skip),⟨qb9,qcJ,lp qaO K0⟩)]) (by kernel_rfl) ⟨qlF H,trivial⟩) (by decide) (fun _=>rfl) (fun x r h=>(qlH x.1 x.2.1).trans h)
theorem n106 {T:Told} (H:qab T):qag T Tryz.prog (envL e106):=q5q (l:=e106) ⟨ok43 H,ok52 H,trivial⟩
theorem qna {T:Told} (H:qab T):q12q T Tryz.prog 21 (.loop (q3q 4 (q4q Tryz.f106) .skip)) ⟨qcP,qdw,lp qdv K0⟩ :=
 q7q H.ty (n106 H) hm (q1q (l:=[]) (by kernel_rfl) trivial) qnb K0
theorem qAV {T:Told} (H:qab T):qae T Tryz.prog 106 c106 :=
 qas H.ty (n106 H) hm (lh:=qgN) (ct:=c106) (dcd:=fun y=>(y.2.1)) Tryz.func106 (by kernel_rfl) (by rfl) (q1q (l:=[(.loop (q3q 4 (q4q Tryz.f106) .skip),⟨qcP,qdw,lp qdv K0⟩)]) (by kernel_rfl) ⟨qna H,trivial⟩) (by decide) (fun _=>rfl) (fun x r h=>(qnc ).trans h)
theorem n105 {T:Told} (H:qab T):qag T Tryz.prog (envL e105):=q5q (l:=e105) ⟨qAV H,trivial⟩
theorem qAW {T:Told} (H:qab T):qae T Tryz.prog 105 c105 :=
 qfs H.ty (n105 H) hm (lh:=qhq) (ct:=c105) (wi:=w105) (dcd:=fun y=>(y.2.1,y.2.2.1,y.2.2.2.1,y.2.2.2.2.1)) Tryz.func105 (by kernel_rfl) (by rfl) (q1q (l:=[]) (by kernel_rfl) trivial) (fun _=>rfl) rfl (fun x r h=>(qlk x.1 x.2.1 x.2.2.1 x.2.2.2.1).trans h)
theorem ok78 {T:Told} (H:qab T):qae T Tryz.prog 78 c78:=qzN (qAW H)
theorem n59 {T:Told} (H:qab T):qag T Tryz.prog (envL e59):=q5q (l:=e59) ⟨ok43 H,ok51 H,ok78 H,trivial⟩
theorem ok59 {T:Told} (H:qab T):qae T Tryz.prog 59 c59 :=
 qfs H.ty (n59 H) hm (lh:=qf2) (ct:=c59) (wi:=w59) (dcd:=fun y=>(y.2.1,y.2.2.1,y.2.2.2.1,y.2.2.2.2.1,y.2.2.2.2.2.1)) Tryz.func59 (by kernel_rfl) (by rfl) (q1q (l:=[]) (by kernel_rfl) trivial) (fun _=>rfl) rfl (fun x r h=>(qi5 x.1 x.2.1 x.2.2.1 x.2.2.2.1 x.2.2.2.2.1 x.2.2.2.2.2.1 x.2.2.2.2.2.2.1).trans h)
theorem n39 {T:Told} (H:qab T):qag T Tryz.prog (envL e39):=q5q (l:=e39) ⟨ok59 H,trivial⟩
theorem ok39 {T:Told} (H:qab T):qae T Tryz.prog 39 c39 :=
 qfs H.ty (n39 H) hm (lh:=qg1) (ct:=c39) (wi:=w39) (dcd:=fun y=>(y.2.1,y.2.2.1,y.2.2.2.1,y.2.2.2.2.1,y.2.2.2.2.2.1,y.2.2.2.2.2.2.1)) Tryz.func39 (by kernel_rfl) (by rfl) (q1q (l:=[]) (by kernel_rfl) trivial) (fun _=>rfl) rfl (fun x r h=>(qjY x.1 x.2.1 x.2.2.1 x.2.2.2.1 x.2.2.2.2.1 x.2.2.2.2.2.1).trans h)
theorem n13 {T:Told} (H:qab T):qag T Tryz.prog (envL e13):=q5q (l:=e13) ⟨ok8 H,ok15 H,ok16 H,ok21 H,ok35 H,ok36 H,ok37 H,ok38 H,ok39 H,trivial⟩
theorem qjx {T:Told} (H:qab T):q12q T Tryz.prog 71 (.loop (q3q 9 (q4q Tryz.f13) .skip)) ⟨qbh,qb0,lp qau K0⟩ :=
 q7q H.ty (n13 H) hm (q1q (l:=[]) (by kernel_rfl) trivial) qjz K0
theorem qjy {T:Told} (H:qab T):q12q T Tryz.prog 71 (.loop (q3q 5 (q4q Tryz.f13) .skip)) ⟨qbi,qb1,lp qaK K0⟩ :=
 q7q H.ty (n13 H) hm (q1q (l:=[(.loop (q3q 9 (q4q Tryz.f13) .skip),⟨qbh,qb0,lp qau K0⟩)]) (by kernel_rfl) ⟨qjx H,trivial⟩) qjA K0
theorem ok13 {T:Told} (H:qab T):qae T Tryz.prog 13 c13 :=
 qas H.ty (n13 H) hm (lh:=qcM) (ct:=c13) (dcd:=fun y=>(y.2.1)) Tryz.func13 (by kernel_rfl) (by rfl) (q1q (l:=[(.loop (q3q 5 (q4q Tryz.f13) .skip),⟨qbi,qb1,lp qaK K0⟩)]) (by kernel_rfl) ⟨qjy H,trivial⟩) (by decide) (fun _=>rfl) (fun x r h=>(qjB x.1).trans h)
theorem n92 {T:Told} (H:qab T):qag T Tryz.prog (envL e92):=q5q (l:=e92) trivial
theorem qkP {T:Told} (H:qab T):q12q T Tryz.prog 14 (.loop (q3q 2 (q4q Tryz.f92) .skip)) ⟨qbG,qco,lp qaS K0⟩ :=
 q7q H.ty (n92 H) hm (q1q (l:=[]) (by kernel_rfl) trivial) qkQ K0
theorem ok92 {T:Told} (H:qab T):qae T Tryz.prog 92 c92 :=
 qas H.ty (n92 H) hm (lh:=qeK) (ct:=c92) (dcd:=fun y=>(y.2.1)) Tryz.func92 (by kernel_rfl) (by rfl) (q1q (l:=[(.loop (q3q 2 (q4q Tryz.f92) .skip),⟨qbG,qco,lp qaS K0⟩)]) (by kernel_rfl) ⟨qkP H,trivial⟩) (by decide) (fun _=>rfl) (fun x r h=>(qkR x.1).trans h)
theorem n112 {T:Told} (H:qab T):qag T Tryz.prog (envL e112):=q5q (l:=e112) trivial
theorem qAf {T:Told} (H:qab T):qae T Tryz.prog 112 c112 :=
 qas H.ty (n112 H) hm (lh:=qhm) (ct:=c112) (dcd:=fun y=>(y.2.1)) Tryz.func112 (by kernel_rfl) (by rfl) (q1q (l:=[]) (by kernel_rfl) trivial) (by decide) (fun _=>rfl) (fun x r h=>(qkJ x.1 x.2.1).trans h)
theorem n96 {T:Told} (H:qab T):qag T Tryz.prog (envL e96):=q5q (l:=e96) ⟨qAf H,trivial⟩
theorem qlv {T:Told} (H:qab T):q12q T Tryz.prog 41 (.loop (q3q 4 (q4q Tryz.f96) .skip)) ⟨qb4,qcG,lp qaB K0⟩ :=
 q7q H.ty (n96 H) hm (q1q (l:=[]) (by kernel_rfl) trivial) qlw K0
theorem ok96 {T:Told} (H:qab T):qae T Tryz.prog 96 c96 :=
 qas H.ty (n96 H) hm (lh:=qfa) (ct:=c96) (dcd:=fun y=>(y.2.1)) Tryz.func96 (by kernel_rfl) (by rfl) (q1q (l:=[(.loop (q3q 4 (q4q Tryz.f96) .skip),⟨qb4,qcG,lp qaB K0⟩)]) (by kernel_rfl) ⟨qlv H,trivial⟩) (by decide) (fun _=>rfl) (fun x r h=>(qlx x.1 x.2.1).trans h)
theorem n113 {T:Told} (H:qab T):qag T Tryz.prog (envL e113):=q5q (l:=e113) trivial
theorem qls {T:Told} (H:qab T):q12q T Tryz.prog 21 (.loop (q3q 2 (q4q Tryz.f113) .skip)) ⟨qb3,qcF,lp qaN K0⟩ :=
 q7q H.ty (n113 H) hm (q1q (l:=[]) (by kernel_rfl) trivial) qlt K0
theorem qzh {T:Told} (H:qab T):qae T Tryz.prog 113 c113 :=
 qas H.ty (n113 H) hm (lh:=qe9) (ct:=c113) (dcd:=fun y=>(y.2.1)) Tryz.func113 (by kernel_rfl) (by rfl) (q1q (l:=[(.loop (q3q 2 (q4q Tryz.f113) .skip),⟨qb3,qcF,lp qaN K0⟩)]) (by kernel_rfl) ⟨qls H,trivial⟩) (by decide) (fun _=>rfl) (fun x r h=>(qlu x.1).trans h)
theorem n97 {T:Told} (H:qab T):qag T Tryz.prog (envL e97):=q5q (l:=e97) ⟨qzh H,trivial⟩
theorem qkK {T:Told} (H:qab T):q12q T Tryz.prog 63 (.loop (q3q 7 (q4q Tryz.f97) .skip)) ⟨qbE,qcm,lp qaH K0⟩ :=
 q7q H.ty (n97 H) hm (q1q (l:=[]) (by kernel_rfl) trivial) qkM K0
theorem qkL {T:Told} (H:qab T):q12q T Tryz.prog 63 (.loop (q3q 3 (q4q Tryz.f97) .skip)) ⟨qbF,qcn,lp qaR K0⟩ :=
 q7q H.ty (n97 H) hm (q1q (l:=[(.loop (q3q 7 (q4q Tryz.f97) .skip),⟨qbE,qcm,lp qaH K0⟩)]) (by kernel_rfl) ⟨qkK H,trivial⟩) qkN K0
theorem ok97 {T:Told} (H:qab T):qae T Tryz.prog 97 c97 :=
 qas H.ty (n97 H) hm (lh:=qdj) (ct:=c97) (dcd:=fun y=>(y.2.1)) Tryz.func97 (by kernel_rfl) (by rfl) (q1q (l:=[(.loop (q3q 3 (q4q Tryz.f97) .skip),⟨qbF,qcn,lp qaR K0⟩)]) (by kernel_rfl) ⟨qkL H,trivial⟩) (by decide) (fun _=>rfl) (fun x r h=>(qkO x.1 x.2.1).trans h)
theorem n69 {T:Told} (H:qab T):qag T Tryz.prog (envL e69):=q5q (l:=e69) ⟨ok92 H,ok96 H,ok97 H,trivial⟩
theorem qlB {T:Told} (H:qab T):q12q T Tryz.prog 26 (.loop (q3q 4 (q4q Tryz.f69) .skip)) ⟨qb6,qcI,lp qaZ K0⟩ :=
 q7q H.ty (n69 H) hm (q1q (l:=[]) (by kernel_rfl) trivial) qlC K0
theorem ok69 {T:Told} (H:qab T):qae T Tryz.prog 69 c69 :=
 qas H.ty (n69 H) hm (lh:=qfb) (ct:=c69) (dcd:=fun y=>(y.2.1)) Tryz.func69 (by kernel_rfl) (by rfl) (q1q (l:=[(.loop (q3q 4 (q4q Tryz.f69) .skip),⟨qb6,qcI,lp qaZ K0⟩)]) (by kernel_rfl) ⟨qlB H,trivial⟩) (by decide) (fun _=>rfl) (fun x r h=>(qlD x.1).trans h)
theorem n99 {T:Told} (H:qab T):qag T Tryz.prog (envL e99):=q5q (l:=e99) trivial
theorem ok99 {T:Told} (H:qab T):qae T Tryz.prog 99 c99 :=
 qas H.ty (n99 H) hm (lh:=qhu) (ct:=c99) (dcd:=fun y=>(y.2.1)) Tryz.func99 (by kernel_rfl) (by rfl) (q1q (l:=[]) (by kernel_rfl) trivial) (by decide) (fun _=>rfl) (fun x r h=>(qlq x.1 x.2.1).trans h)
theorem n98 {T:Told} (H:qab T):qag T Tryz.prog (envL e98):=q5q (l:=e98) ⟨ok92 H,ok96 H,ok99 H,trivial⟩
theorem ok98 {T:Told} (H:qab T):qae T Tryz.prog 98 c98 :=
 qas H.ty (n98 H) hm (lh:=qhk) (ct:=c98) (dcd:=fun y=>(y.2.1)) Tryz.func98 (by kernel_rfl) (by rfl) (q1q (l:=[]) (by kernel_rfl) trivial) (by decide) (fun _=>rfl) (fun x r h=>(qkH x.1).trans h)
theorem n70 {T:Told} (H:qab T):qag T Tryz.prog (envL e70):=q5q (l:=e70) ⟨ok92 H,ok98 H,trivial⟩
theorem ok70 {T:Told} (H:qab T):qae T Tryz.prog 70 c70 :=
 qas H.ty (n70 H) hm (lh:=qhg) (ct:=c70) (dcd:=fun y=>(y.2.1)) Tryz.func70 (by kernel_rfl) (by rfl) (q1q (l:=[]) (by kernel_rfl) trivial) (by decide) (fun _=>rfl) (fun x r h=>(qkD x.1 x.2.1).trans h)
theorem n71 {T:Told} (H:qab T):qag T Tryz.prog (envL e71):=q5q (l:=e71) ⟨ok69 H,ok99 H,trivial⟩
theorem ok71 {T:Told} (H:qab T):qae T Tryz.prog 71 c71 :=
 qas H.ty (n71 H) hm (lh:=qhv) (ct:=c71) (dcd:=fun y=>(y.2.1)) Tryz.func71 (by kernel_rfl) (by rfl) (q1q (l:=[]) (by kernel_rfl) trivial) (by decide) (fun _=>rfl) (fun x r h=>(qlr x.1).trans h)
theorem n47 {T:Told} (H:qab T):qag T Tryz.prog (envL e47):=q5q (l:=e47) ⟨ok69 H,ok70 H,ok71 H,trivial⟩
theorem ok47 {T:Told} (H:qab T):qae T Tryz.prog 47 c47 :=
 qas H.ty (n47 H) hm (lh:=qht) (ct:=c47) (dcd:=fun y=>(y.2.1)) Tryz.func47 (by kernel_rfl) (by rfl) (q1q (l:=[]) (by kernel_rfl) trivial) (by decide) (fun _=>rfl) (fun x r h=>(qlp x.1).trans h)
theorem n89 {T:Told} (H:qab T):qag T Tryz.prog (envL e89):=q5q (l:=e89) trivial
theorem qkS {T:Told} (H:qab T):q12q T Tryz.prog 27 (.loop (q3q 2 (q4q Tryz.f89) .skip)) ⟨qbH,qcp,lp qaI K0⟩ :=
 q7q H.ty (n89 H) hm (q1q (l:=[]) (by kernel_rfl) trivial) qkT K0
theorem ok89 {T:Told} (H:qab T):qae T Tryz.prog 89 c89 :=
 qas H.ty (n89 H) hm (lh:=qeL) (ct:=c89) (dcd:=fun y=>(y.2.1)) Tryz.func89 (by kernel_rfl) (by rfl) (q1q (l:=[(.loop (q3q 2 (q4q Tryz.f89) .skip),⟨qbH,qcp,lp qaI K0⟩)]) (by kernel_rfl) ⟨qkS H,trivial⟩) (by decide) (fun _=>rfl) (fun x r h=>(qkU x.1).trans h)
theorem n91 {T:Told} (H:qab T):qag T Tryz.prog (envL e91):=q5q (l:=e91) trivial
theorem qkX {T:Told} (H:qab T):q12q T Tryz.prog 41 (.loop (q3q 6 (q4q Tryz.f91) .skip)) ⟨qbJ,qcr,lp qaw K0⟩ :=
 q7q H.ty (n91 H) hm (q1q (l:=[]) (by kernel_rfl) trivial) qkY K0
theorem ok91 {T:Told} (H:qab T):qae T Tryz.prog 91 c91 :=
 qas H.ty (n91 H) hm (lh:=qeM) (ct:=c91) (dcd:=fun y=>(y.2.1)) Tryz.func91 (by kernel_rfl) (by rfl) (q1q (l:=[(.loop (q3q 6 (q4q Tryz.f91) .skip),⟨qbJ,qcr,lp qaw K0⟩)]) (by kernel_rfl) ⟨qkX H,trivial⟩) (by decide) (fun _=>rfl) (fun x r h=>(qkZ x.1 x.2.1).trans h)
theorem n122 {T:Told} (H:qab T):qag T Tryz.prog (envL e122):=q5q (l:=e122) ⟨qAf H,qzh H,trivial⟩
theorem qk0 {T:Told} (H:qab T):q12q T Tryz.prog 35 (.loop (q3q 4 (q4q Tryz.f122) .skip)) ⟨qbK,qcs,lp qaJ K0⟩ :=
 q7q H.ty (n122 H) hm (q1q (l:=[]) (by kernel_rfl) trivial) qk1 K0
theorem qAL {T:Told} (H:qab T):qae T Tryz.prog 122 c122 :=
 qas H.ty (n122 H) hm (lh:=qeN) (ct:=c122) (dcd:=fun y=>(y.2.1)) Tryz.func122 (by kernel_rfl) (by rfl) (q1q (l:=[(.loop (q3q 4 (q4q Tryz.f122) .skip),⟨qbK,qcs,lp qaJ K0⟩)]) (by kernel_rfl) ⟨qk0 H,trivial⟩) (by decide) (fun _=>rfl) (fun x r h=>(qk2 x.1 x.2.1).trans h)
theorem n111 {T:Told} (H:qab T):qag T Tryz.prog (envL e111):=q5q (l:=e111) ⟨ok91 H,ok92 H,ok97 H,qzh H,qAL H,trivial⟩
theorem qkV {T:Told} (H:qab T):q12q T Tryz.prog 65 (.loop (q3q 12 (q4q Tryz.f111) .skip)) ⟨qbI,qcq,lp qav K0⟩ :=
 q7q H.ty (n111 H) hm (q1q (l:=[]) (by kernel_rfl) trivial) qkW K0
theorem qly {T:Told} (H:qab T):q12q T Tryz.prog 65 (.loop (q3q 4 (q4q Tryz.f111) .skip)) ⟨qb5,qcH,lp qaY K0⟩ :=
 q7q H.ty (n111 H) hm (q1q (l:=[(.loop (q3q 12 (q4q Tryz.f111) .skip),⟨qbI,qcq,lp qav K0⟩)]) (by kernel_rfl) ⟨qkV H,trivial⟩) qlz K0
theorem qAR {T:Told} (H:qab T):qae T Tryz.prog 111 c111 :=
 qas H.ty (n111 H) hm (lh:=qds) (ct:=c111) (dcd:=fun y=>(y.2.1,y.2.2.1)) Tryz.func111 (by kernel_rfl) (by rfl) (q1q (l:=[(.loop (q3q 4 (q4q Tryz.f111) .skip),⟨qb5,qcH,lp qaY K0⟩)]) (by kernel_rfl) ⟨qly H,trivial⟩) (by decide) (fun _=>rfl) (fun x r h=>(qlA x.1 x.2.1).trans h)
theorem n90 {T:Told} (H:qab T):qag T Tryz.prog (envL e90):=q5q (l:=e90) ⟨qAR H,trivial⟩
theorem ql7 {T:Told} (H:qab T):q12q T Tryz.prog 19 (.loop (q3q 1 (q4q Tryz.f90) .skip)) ⟨qce,qcY,lp qba K0⟩ :=
 q7q H.ty (n90 H) hm (q1q (l:=[]) (by kernel_rfl) trivial) ql8 K0
theorem ok90 {T:Told} (H:qab T):qae T Tryz.prog 90 c90 :=
 qas H.ty (n90 H) hm (lh:=qfF) (ct:=c90) (dcd:=fun y=>(y.2.1)) Tryz.func90 (by kernel_rfl) (by rfl) (q1q (l:=[(.loop (q3q 1 (q4q Tryz.f90) .skip),⟨qce,qcY,lp qba K0⟩)]) (by kernel_rfl) ⟨ql7 H,trivial⟩) (by decide) (fun _=>rfl) (fun x r h=>(ql9 x.1 x.2.1).trans h)
theorem n67 {T:Told} (H:qab T):qag T Tryz.prog (envL e67):=q5q (l:=e67) ⟨ok69 H,ok89 H,ok90 H,ok91 H,ok92 H,trivial⟩
theorem ok67 {T:Told} (H:qab T):qae T Tryz.prog 67 c67 :=
 qas H.ty (n67 H) hm (lh:=qhh) (ct:=c67) (dcd:=fun y=>(y.2.1)) Tryz.func67 (by kernel_rfl) (by rfl) (q1q (l:=[]) (by kernel_rfl) trivial) (by decide) (fun _=>rfl) (fun x r h=>(qkE x.1).trans h)
theorem n93 {T:Told} (H:qab T):qag T Tryz.prog (envL e93):=q5q (l:=e93) ⟨ok91 H,trivial⟩
theorem ok93 {T:Told} (H:qab T):qae T Tryz.prog 93 c93 :=
 qas H.ty (n93 H) hm (lh:=qhl) (ct:=c93) (dcd:=fun y=>(y.2.1)) Tryz.func93 (by kernel_rfl) (by rfl) (q1q (l:=[]) (by kernel_rfl) trivial) (by decide) (fun _=>rfl) (fun x r h=>(qkI x.1 x.2.1).trans h)
theorem n94 {T:Told} (H:qab T):qag T Tryz.prog (envL e94):=q5q (l:=e94) ⟨ok97 H,ok99 H,trivial⟩
theorem ok94 {T:Told} (H:qab T):qae T Tryz.prog 94 c94 :=
 qas H.ty (n94 H) hm (lh:=qhj) (ct:=c94) (dcd:=fun y=>(y.2.1)) Tryz.func94 (by kernel_rfl) (by rfl) (q1q (l:=[]) (by kernel_rfl) trivial) (by decide) (fun _=>rfl) (fun x r h=>(qkG x.1 x.2.1).trans h)
theorem n95 {T:Told} (H:qab T):qag T Tryz.prog (envL e95):=q5q (l:=e95) ⟨ok99 H,trivial⟩
theorem ok95 {T:Told} (H:qab T):qae T Tryz.prog 95 c95 :=
 qas H.ty (n95 H) hm (lh:=qib) (ct:=c95) (dcd:=fun y=>(y.2.1)) Tryz.func95 (by kernel_rfl) (by rfl) (q1q (l:=[]) (by kernel_rfl) trivial) (by decide) (fun _=>rfl) (fun x r h=>(ql6 x.1).trans h)
theorem n68 {T:Told} (H:qab T):qag T Tryz.prog (envL e68):=q5q (l:=e68) ⟨ok93 H,ok94 H,ok95 H,trivial⟩
theorem ok68 {T:Told} (H:qab T):qae T Tryz.prog 68 c68 :=
 qas H.ty (n68 H) hm (lh:=qhi) (ct:=c68) (dcd:=fun y=>(y.2.1)) Tryz.func68 (by kernel_rfl) (by rfl) (q1q (l:=[]) (by kernel_rfl) trivial) (by decide) (fun _=>rfl) (fun x r h=>(qkF x.1 x.2.1).trans h)
theorem n46 {T:Told} (H:qab T):qag T Tryz.prog (envL e46):=q5q (l:=e46) ⟨ok47 H,ok67 H,ok68 H,trivial⟩
theorem ok46 {T:Told} (H:qab T):qae T Tryz.prog 46 c46 :=
 qas H.ty (n46 H) hm (lh:=qih) (ct:=c46) (dcd:=fun y=>(y.2.1)) Tryz.func46 (by kernel_rfl) (by rfl) (q1q (l:=[]) (by kernel_rfl) trivial) (by decide) (fun _=>rfl) (fun x r h=>(qmW x.1 x.2.1).trans h)
theorem n17 {T:Told} (H:qab T):qag T Tryz.prog (envL e17):=q5q (l:=e17) ⟨ok46 H,ok47 H,trivial⟩
theorem ok17 {T:Told} (H:qab T):qae T Tryz.prog 17 c17 :=
 qas H.ty (n17 H) hm (lh:=qig) (ct:=c17) (dcd:=fun y=>(y.2.1)) Tryz.func17 (by kernel_rfl) (by rfl) (q1q (l:=[]) (by kernel_rfl) trivial) (by decide) (fun _=>rfl) (fun x r h=>(qmV x.1 x.2.1).trans h)
theorem n27 {T:Told} (H:qab T):qag T Tryz.prog (envL e27):=q5q (l:=e27) trivial
theorem qjN {T:Told} (H:qab T):q12q T Tryz.prog 32 (.loop (q3q 5 (q4q Tryz.f27) .skip)) ⟨qbn,qca,lp qay K0⟩ :=
 q7q H.ty (n27 H) hm (q1q (l:=[]) (by kernel_rfl) trivial) qjO K0
theorem ok27 {T:Told} (H:qab T):qae T Tryz.prog 27 c27 :=
 qfs H.ty (n27 H) hm (lh:=qeh) (ct:=c27) (wi:=w27) (dcd:=fun y=>(y.2.1,y.2.2.1)) Tryz.func27 (by kernel_rfl) (by rfl) (q1q (l:=[(.loop (q3q 5 (q4q Tryz.f27) .skip),⟨qbn,qca,lp qay K0⟩)]) (by kernel_rfl) ⟨qjN H,trivial⟩) (fun _=>rfl) rfl (fun x r h=>(qjP x.1).trans h)
theorem n28 {T:Told} (H:qab T):qag T Tryz.prog (envL e28):=q5q (l:=e28) trivial
theorem ok28 {T:Told} (H:qab T):qae T Tryz.prog 28 c28 :=
 qfs H.ty (n28 H) hm (lh:=qhs) (ct:=c28) (wi:=w28) (dcd:=fun y=>(y.2.1,y.2.2.1)) Tryz.func28 (by kernel_rfl) (by rfl) (q1q (l:=[]) (by kernel_rfl) trivial) (fun _=>rfl) rfl (fun x r h=>(qln x.1).trans h)
theorem n29 {T:Told} (H:qab T):qag T Tryz.prog (envL e29):=q5q (l:=e29) ⟨ok17 H,trivial⟩
theorem ql3 {T:Told} (H:qab T):q12q T Tryz.prog 27 (.loop (q3q 4 (q4q Tryz.f29) .skip)) ⟨qcd,qcX,lp qaT K0⟩ :=
 q7q H.ty (n29 H) hm (q1q (l:=[]) (by kernel_rfl) trivial) ql4 K0
theorem ok29 {T:Told} (H:qab T):qae T Tryz.prog 29 c29 :=
 qas H.ty (n29 H) hm (lh:=qfE) (ct:=c29) (dcd:=fun y=>(y.2.1)) Tryz.func29 (by kernel_rfl) (by rfl) (q1q (l:=[(.loop (q3q 4 (q4q Tryz.f29) .skip),⟨qcd,qcX,lp qaT K0⟩)]) (by kernel_rfl) ⟨ql3 H,trivial⟩) (by decide) (fun _=>rfl) (fun x r h=>(ql5 x.1 x.2.1).trans h)
theorem n30 {T:Told} (H:qab T):qag T Tryz.prog (envL e30):=q5q (l:=e30) trivial
theorem qiN {T:Told} (H:qab T):q12q T Tryz.prog 24 (.loop (q3q 5 (q4q Tryz.f30) .skip)) ⟨qa7,qbx,lp qaq K0⟩ :=
 q7q H.ty (n30 H) hm (q1q (l:=[]) (by kernel_rfl) trivial) qiO K0
theorem ok30 {T:Told} (H:qab T):qae T Tryz.prog 30 c30 :=
 qfs H.ty (n30 H) hm (lh:=qdH) (ct:=c30) (wi:=w30) (dcd:=fun y=>(y.2.1,y.2.2.1)) Tryz.func30 (by kernel_rfl) (by rfl) (q1q (l:=[(.loop (q3q 5 (q4q Tryz.f30) .skip),⟨qa7,qbx,lp qaq K0⟩)]) (by kernel_rfl) ⟨qiN H,trivial⟩) (fun _=>rfl) rfl (fun x r h=>(qiP x.1).trans h)
theorem n10 {T:Told} (H:qab T):qag T Tryz.prog (envL e10):=q5q (l:=e10) ⟨ok13 H,ok17 H,ok18 H,ok27 H,ok28 H,ok29 H,ok30 H,trivial⟩
theorem qjR {T:Told} (H:qab T):q12q T Tryz.prog 85 (.loop (q3q 5 (q4q Tryz.f10) .skip)) ⟨qbo,qcc,lp qaz K0⟩ :=
 q7q H.ty (n10 H) hm (q1q (l:=[]) (by kernel_rfl) trivial) qjS K0
theorem ok10 {T:Told} (H:qab T):qae T Tryz.prog 10 c10 :=
 qfs H.ty (n10 H) hm (lh:=qei) (ct:=c10) (wi:=w10) (dcd:=fun y=>(y.2.1,y.2.2.1)) Tryz.func10 (by kernel_rfl) (by rfl) (q1q (l:=[(.loop (q3q 5 (q4q Tryz.f10) .skip),⟨qbo,qcc,lp qaz K0⟩)]) (by kernel_rfl) ⟨qjR H,trivial⟩) (fun _=>rfl) rfl (fun x r h=>(qjT x.1 x.2.1).trans h)
theorem n123 {T:Told} (H:qab T):qag T Tryz.prog (envL e123):=q5q (l:=e123) trivial
theorem qqX {T:Told} (H:qab T):q12q T Tryz.prog 72 (.loop (q3q 9 (q4q Tryz.f123) .skip)) ⟨qeY,qgk,lp qgi K0⟩ :=
 q7q H.ty (n123 H) hm (q1q (l:=[]) (by kernel_rfl) trivial) qqZ K0
theorem qqY {T:Told} (H:qab T):q12q T Tryz.prog 72 (.loop (q3q 4 (q4q Tryz.f123) .skip)) ⟨qeZ,qgl,lp qgj K0⟩ :=
 q7q H.ty (n123 H) hm (q1q (l:=[(.loop (q3q 9 (q4q Tryz.f123) .skip),⟨qeY,qgk,lp qgi K0⟩)]) (by kernel_rfl) ⟨qqX H,trivial⟩) qq0 K0
theorem qAK {T:Told} (H:qab T):qae T Tryz.prog 123 c123 :=
 qas H.ty (n123 H) hm (lh:=qhz) (ct:=c123) (dcd:=fun y=>(y.2.1)) Tryz.func123 (by kernel_rfl) (by rfl) (q1q (l:=[(.loop (q3q 4 (q4q Tryz.f123) .skip),⟨qeZ,qgl,lp qgj K0⟩)]) (by kernel_rfl) ⟨qqY H,trivial⟩) (by decide) (fun _=>rfl) (fun x r h=>(qq1 x.1).trans h)
theorem n124 {T:Told} (H:qab T):qag T Tryz.prog (envL e124):=q5q (l:=e124) trivial
theorem qoF {T:Told} (H:qab T):q12q T Tryz.prog 52 (.loop (q3q 2 (q4q Tryz.f124) .skip)) ⟨qdA,qew,lp qev K0⟩ :=
 q7q H.ty (n124 H) hm (q1q (l:=[]) (by kernel_rfl) trivial) qoG K0
theorem qAJ {T:Told} (H:qab T):qae T Tryz.prog 124 c124 :=
 qas H.ty (n124 H) hm (lh:=qhU) (ct:=c124) (dcd:=fun y=>(y.2.1,y.2.2.1)) Tryz.func124 (by kernel_rfl) (by rfl) (q1q (l:=[(.loop (q3q 2 (q4q Tryz.f124) .skip),⟨qdA,qew,lp qev K0⟩)]) (by kernel_rfl) ⟨qoF H,trivial⟩) (by decide) (fun _=>rfl) (fun x r h=>(qoH x.1 x.2.1).trans h)
theorem n125 {T:Told} (H:qab T):qag T Tryz.prog (envL e125):=q5q (l:=e125) trivial
theorem qpC {T:Told} (H:qab T):q12q T Tryz.prog 103 (.loop (q3q 3 (q4q Tryz.f125) .skip)) ⟨qec,qfe,lp qfd K0⟩ :=
 q7q H.ty (n125 H) hm (q1q (l:=[]) (by kernel_rfl) trivial) qpD K0
theorem qoB {T:Told} (H:qab T):q12q T Tryz.prog 103 (.loop (q3q 10 (q4q Tryz.f125) .skip)) ⟨qdz,qeu,lp qer K0⟩ :=
 q7q H.ty (n125 H) hm (q1q (l:=[]) (by kernel_rfl) trivial) qoE K0
theorem qoA {T:Told} (H:qab T):q12q T Tryz.prog 103 (.loop (q3q 17 (q4q Tryz.f125) .skip)) ⟨qdy,qet,lp qeq K0⟩ :=
 q7q H.ty (n125 H) hm (q1q (l:=[]) (by kernel_rfl) trivial) qoD K0
theorem qoz {T:Told} (H:qab T):q12q T Tryz.prog 103 (.loop (q3q 25 (q4q Tryz.f125) .skip)) ⟨qdx,qes,lp qep K0⟩ :=
 q7q H.ty (n125 H) hm (q1q (l:=[]) (by kernel_rfl) trivial) qoC K0
theorem qAI {T:Told} (H:qab T):qae T Tryz.prog 125 c125 :=
 qas H.ty (n125 H) hm (lh:=qeb) (ct:=c125) (dcd:=fun y=>(y.2.1,y.2.2.1)) Tryz.func125 (by kernel_rfl) (by rfl) (q1q (l:=[(.loop (q3q 3 (q4q Tryz.f125) .skip),⟨qec,qfe,lp qfd K0⟩),(.loop (q3q 10 (q4q Tryz.f125) .skip),⟨qdz,qeu,lp qer K0⟩),(.loop (q3q 17 (q4q Tryz.f125) .skip),⟨qdy,qet,lp qeq K0⟩),(.loop (q3q 25 (q4q Tryz.f125) .skip),⟨qdx,qes,lp qep K0⟩)]) (by kernel_rfl) ⟨qpC H,qoB H,qoA H,qoz H,trivial⟩) (by decide) (fun _=>rfl) (fun x r h=>(qpE x.1).trans h)
theorem n126 {T:Told} (H:qab T):qag T Tryz.prog (envL e126):=q5q (l:=e126) ⟨ok19 H,trivial⟩
theorem qoI {T:Told} (H:qab T):q12q T Tryz.prog 19 (.loop (q3q 2 (q4q Tryz.f126) .skip)) ⟨qdB,qey,lp qex K0⟩ :=
 q7q H.ty (n126 H) hm (q1q (l:=[]) (by kernel_rfl) trivial) qoJ K0
theorem qAH {T:Told} (H:qab T):qae T Tryz.prog 126 c126 :=
 qas H.ty (n126 H) hm (lh:=qhV) (ct:=c126) (dcd:=fun y=>(y.2.1,y.2.2.1)) Tryz.func126 (by kernel_rfl) (by rfl) (q1q (l:=[(.loop (q3q 2 (q4q Tryz.f126) .skip),⟨qdB,qey,lp qex K0⟩)]) (by kernel_rfl) ⟨qoI H,trivial⟩) (by decide) (fun _=>rfl) (fun x r h=>(qoK x.1).trans h)
theorem n76 {T:Told} (H:qab T):qag T Tryz.prog (envL e76):=q5q (l:=e76) ⟨ok50 H,ok65 H,trivial⟩
theorem ok76 {T:Told} (H:qab T):qae T Tryz.prog 76 c76 :=
 qas H.ty (n76 H) hm (lh:=qnN) (ct:=c76) (dcd:=fun y=>(y.2.1)) Tryz.func76 (by kernel_rfl) (by rfl) (q1q (l:=[]) (by kernel_rfl) trivial) (by decide) (fun _=>rfl) (fun x r h=>(qro x.1 x.2.1).trans h)
theorem n56 {T:Told} (H:qab T):qag T Tryz.prog (envL e56):=q5q (l:=e56) ⟨ok20 H,ok43 H,ok44 H,ok76 H,trivial⟩
theorem ok56 {T:Told} (H:qab T):qae T Tryz.prog 56 c56 :=
 qas H.ty (n56 H) hm (lh:=qn4) (ct:=c56) (dcd:=fun y=>(y.2.1)) Tryz.func56 (by kernel_rfl) (by rfl) (q1q (l:=[]) (by kernel_rfl) trivial) (by decide) (fun _=>rfl) (fun x r h=>(qrR x.1 x.2.1).trans h)
theorem n32 {T:Told} (H:qab T):qag T Tryz.prog (envL e32):=q5q (l:=e32) ⟨ok56 H,trivial⟩
theorem ok32 {T:Told} (H:qab T):qae T Tryz.prog 32 c32 :=
 qas H.ty (n32 H) hm (lh:=qmv) (ct:=c32) (dcd:=fun y=>(y.2.1)) Tryz.func32 (by kernel_rfl) (by rfl) (q1q (l:=[]) (by kernel_rfl) trivial) (by decide) (fun _=>rfl) (fun x r h=>(qqL x.1 x.2.1).trans h)
theorem n127 {T:Told} (H:qab T):qag T Tryz.prog (envL e127):=q5q (l:=e127) ⟨ok16 H,ok32 H,trivial⟩
theorem qqr {T:Told} (H:qab T):q12q T Tryz.prog 37 (.loop (q3q 2 (q4q Tryz.f127) .skip)) ⟨qeR,qf5,lp qf4 K0⟩ :=
 q7q H.ty (n127 H) hm (q1q (l:=[]) (by kernel_rfl) trivial) qqs K0
theorem qAG {T:Told} (H:qab T):qae T Tryz.prog 127 c127 :=
 qas H.ty (n127 H) hm (lh:=qi6) (ct:=c127) (dcd:=fun y=>(y.2.1,y.2.2.1)) Tryz.func127 (by kernel_rfl) (by rfl) (q1q (l:=[(.loop (q3q 2 (q4q Tryz.f127) .skip),⟨qeR,qf5,lp qf4 K0⟩)]) (by kernel_rfl) ⟨qqr H,trivial⟩) (by decide) (fun _=>rfl) (fun x r h=>(qqt x.1).trans h)
theorem n128 {T:Told} (H:qab T):qag T Tryz.prog (envL e128):=q5q (l:=e128) trivial
theorem qAF {T:Told} (H:qab T):qae T Tryz.prog 128 c128 :=
 qas H.ty (n128 H) hm (lh:=qlJ) (ct:=c128) (dcd:=fun y=>(y.2.1)) Tryz.func128 (by kernel_rfl) (by rfl) (q1q (l:=[]) (by kernel_rfl) trivial) (by decide) (fun _=>rfl) (fun x r h=>(qpF x.1 x.2.1 x.2.2.1).trans h)
theorem n114 {T:Told} (H:qab T):qag T Tryz.prog (envL e114):=q5q (l:=e114) ⟨qAK H,qAJ H,qAI H,qAH H,qAG H,qAF H,trivial⟩
theorem qpG {T:Told} (H:qab T):q12q T Tryz.prog 63 (.loop (q3q 7 (q4q Tryz.f114) .skip)) ⟨qed,qfh,lp qff K0⟩ :=
 q7q H.ty (n114 H) hm (q1q (l:=[]) (by kernel_rfl) trivial) qpI K0
theorem qpH {T:Told} (H:qab T):q12q T Tryz.prog 63 (.loop (q3q 4 (q4q Tryz.f114) .skip)) ⟨qee,qfi,lp qfg K0⟩ :=
 q7q H.ty (n114 H) hm (q1q (l:=[(.loop (q3q 7 (q4q Tryz.f114) .skip),⟨qed,qfh,lp qff K0⟩)]) (by kernel_rfl) ⟨qpG H,trivial⟩) qpJ K0
theorem qAQ {T:Told} (H:qab T):qae T Tryz.prog 114 c114 :=
 qas H.ty (n114 H) hm (lh:=qgZ) (ct:=c114) (dcd:=fun y=>(y.2.1)) Tryz.func114 (by kernel_rfl) (by rfl) (q1q (l:=[(.loop (q3q 4 (q4q Tryz.f114) .skip),⟨qee,qfi,lp qfg K0⟩)]) (by kernel_rfl) ⟨qpH H,trivial⟩) (by decide) (fun _=>rfl) (fun x r h=>(qpK x.1).trans h)
theorem n100 {T:Told} (H:qab T):qag T Tryz.prog (envL e100):=q5q (l:=e100) ⟨qAQ H,trivial⟩
theorem qA0 {T:Told} (H:qab T):qae T Tryz.prog 100 c100 :=
 qas H.ty (n100 H) hm (lh:=qoL) (ct:=c100) (dcd:=fun y=>(y.2.1)) Tryz.func100 (by kernel_rfl) (by rfl) (q1q (l:=[]) (by kernel_rfl) trivial) (by decide) (fun _=>rfl) (fun x r h=>(qsZ x.1).trans h)
theorem n73 {T:Told} (H:qab T):qag T Tryz.prog (envL e73):=q5q (l:=e73) ⟨qA0 H,trivial⟩
theorem ok73 {T:Told} (H:qab T):qae T Tryz.prog 73 c73 :=
 qas H.ty (n73 H) hm (lh:=qmo) (ct:=c73) (dcd:=fun y=>(y.2.1)) Tryz.func73 (by kernel_rfl) (by rfl) (q1q (l:=[]) (by kernel_rfl) trivial) (by decide) (fun _=>rfl) (fun x r h=>(qqF x.1 x.2.1).trans h)
theorem n54 {T:Told} (H:qab T):qag T Tryz.prog (envL e54):=q5q (l:=e54) ⟨ok73 H,trivial⟩
theorem ok54 {T:Told} (H:qab T):qae T Tryz.prog 54 c54 :=
 qas H.ty (n54 H) hm (lh:=qmq) (ct:=c54) (dcd:=fun y=>(y.2.1)) Tryz.func54 (by kernel_rfl) (by rfl) (q1q (l:=[]) (by kernel_rfl) trivial) (by decide) (fun _=>rfl) (fun x r h=>(qqH x.1 x.2.1).trans h)
theorem n74 {T:Told} (H:qab T):qag T Tryz.prog (envL e74):=q5q (l:=e74) ⟨ok15 H,trivial⟩
theorem qnl {T:Told} (H:qab T):q12q T Tryz.prog 13 (.loop (q3q 3 (q4q Tryz.f74) .skip)) ⟨qcQ,qdE,lp qdD K0⟩ :=
 q7q H.ty (n74 H) hm (q1q (l:=[]) (by kernel_rfl) trivial) qnm K0
theorem ok74 {T:Told} (H:qab T):qae T Tryz.prog 74 c74 :=
 qas H.ty (n74 H) hm (lh:=qgR) (ct:=c74) (dcd:=fun y=>(y.2.1)) Tryz.func74 (by kernel_rfl) (by rfl) (q1q (l:=[(.loop (q3q 3 (q4q Tryz.f74) .skip),⟨qcQ,qdE,lp qdD K0⟩)]) (by kernel_rfl) ⟨qnl H,trivial⟩) (by decide) (fun _=>rfl) (fun x r h=>(qnn x.1).trans h)
theorem n101 {T:Told} (H:qab T):qag T Tryz.prog (envL e101):=q5q (l:=e101) ⟨ok7 H,ok18 H,ok21 H,ok24 H,ok27 H,trivial⟩
theorem qAZ {T:Told} (H:qab T):qae T Tryz.prog 101 c101 :=
 qfs H.ty (n101 H) hm (lh:=qgD) (ct:=c101) (wi:=w101) (dcd:=fun y=>(y.2.1,y.2.2.1,y.2.2.2.1,y.2.2.2.2.1,y.2.2.2.2.2.1,y.2.2.2.2.2.2.1,y.2.2.2.2.2.2.2.1,y.2.2.2.2.2.2.2.2.1,y.2.2.2.2.2.2.2.2.2.1,y.2.2.2.2.2.2.2.2.2.2.1)) Tryz.func101 (by kernel_rfl) (by rfl) (q1q (l:=[]) (by kernel_rfl) trivial) (fun _=>rfl) rfl (fun x r h=>(qjM x.1 x.2.1 x.2.2.1 x.2.2.2.1 x.2.2.2.2.1 x.2.2.2.2.2.1 x.2.2.2.2.2.2.1 x.2.2.2.2.2.2.2.1 x.2.2.2.2.2.2.2.2.1 x.2.2.2.2.2.2.2.2.2.1).trans h)
theorem n33 {T:Told} (H:qab T):qag T Tryz.prog (envL e33):=q5q (l:=e33) ⟨ok15 H,ok16 H,trivial⟩
theorem qrE {T:Told} (H:qab T):q12q T Tryz.prog 18 (.loop (q3q 3 (q4q Tryz.f33) .skip)) ⟨qfI,qg6,lp qdb K0⟩ :=
 q7q H.ty (n33 H) hm (q1q (l:=[]) (by kernel_rfl) trivial) qrG K0
theorem ok33 {T:Told} (H:qab T):qae T Tryz.prog 33 c33 :=
 qas H.ty (n33 H) hm (lh:=qj4) (ct:=c33) (dcd:=fun y=>(y.2.1)) Tryz.func33 (by kernel_rfl) (by rfl) (q1q (l:=[(.loop (q3q 3 (q4q Tryz.f33) .skip),⟨qfI,qg6,lp qdb K0⟩)]) (by kernel_rfl) ⟨qrE H,trivial⟩) (by decide) (fun _=>rfl) (fun x r h=>(qrH x.1).trans h)
theorem n12 {T:Told} (H:qab T):qag T Tryz.prog (envL e12):=q5q (l:=e12) ⟨ok33 H,ok34 H,trivial⟩
theorem ok12 {T:Told} (H:qab T):qae T Tryz.prog 12 c12 :=
 qfs H.ty (n12 H) hm (lh:=qhr) (ct:=c12) (wi:=w12) (dcd:=fun y=>(y.2.1,y.2.2.1,y.2.2.2.1)) Tryz.func12 (by kernel_rfl) (by rfl) (q1q (l:=[]) (by kernel_rfl) trivial) (fun _=>rfl) rfl (fun x r h=>(qlm x.1 x.2.1).trans h)
theorem n102 {T:Told} (H:qab T):qag T Tryz.prog (envL e102):=q5q (l:=e102) ⟨ok8 H,ok12 H,ok16 H,ok21 H,ok27 H,ok77 H,trivial⟩
theorem qjg {T:Told} (H:qab T):q12q T Tryz.prog 69 (.loop (q3q 3 (q4q Tryz.f102) .skip)) ⟨qbf,qbU,lp qbT K0⟩ :=
 q7q H.ty (n102 H) hm (q1q (l:=[]) (by kernel_rfl) trivial) qjh K0
theorem qAY {T:Told} (H:qab T):qae T Tryz.prog 102 c102 :=
 qfs H.ty (n102 H) hm (lh:=qdX) (ct:=c102) (wi:=w102) (dcd:=fun y=>(y.1.1,y.2.1,y.2.2.1,y.2.2.2.1,y.2.2.2.2.1,y.2.2.2.2.2.1)) Tryz.func102 (by kernel_rfl) (by rfl) (q1q (l:=[(.loop (q3q 3 (q4q Tryz.f102) .skip),⟨qbf,qbU,lp qbT K0⟩)]) (by kernel_rfl) ⟨qjg H,trivial⟩) (fun _=>rfl) rfl (fun x r h=>(qji x.1 x.2.1 x.2.2.1 x.2.2.2.1 x.2.2.2.2.1 x.2.2.2.2.2.1 x.2.2.2.2.2.2.1 x.2.2.2.2.2.2.2.1 x.2.2.2.2.2.2.2.2.1 x.2.2.2.2.2.2.2.2.2.1 x.2.2.2.2.2.2.2.2.2.2.1 x.2.2.2.2.2.2.2.2.2.2.2.1 x.2.2.2.2.2.2.2.2.2.2.2.2.1 x.2.2.2.2.2.2.2.2.2.2.2.2.2.1 x.2.2.2.2.2.2.2.2.2.2.2.2.2.2.1).trans h)
theorem n6 {T:Told} (H:qab T):qag T Tryz.prog (envL e6):=q5q (l:=e6) trivial
theorem ok6 {T:Told} (H:qab T):qae T Tryz.prog 6 c6 :=
 qfs H.ty (n6 H) hm (lh:=qg8) (ct:=c6) (wi:=w6) (dcd:=fun y=>(y.2.1,y.2.2.1)) Tryz.func6 (by kernel_rfl) (by rfl) (q1q (l:=[]) (by kernel_rfl) trivial) (fun _=>rfl) rfl (fun x r h=>(qka x.1).trans h)
theorem n115 {T:Told} (H:qab T):qag T Tryz.prog (envL e115):=q5q (l:=e115) ⟨ok21 H,ok57 H,trivial⟩
theorem qAP {T:Told} (H:qab T):qae T Tryz.prog 115 c115 :=
 qas H.ty (n115 H) hm (lh:=qn3) (ct:=c115) (dcd:=fun y=>(y.2.1,y.2.2.1)) Tryz.func115 (by kernel_rfl) (by rfl) (q1q (l:=[]) (by kernel_rfl) trivial) (by decide) (fun _=>rfl) (fun x r h=>(qrQ x.1 x.2.1).trans h)
theorem n129 {T:Told} (H:qab T):qag T Tryz.prog (envL e129):=q5q (l:=e129) ⟨ok56 H,trivial⟩
theorem qAE {T:Told} (H:qab T):qae T Tryz.prog 129 c129 :=
 qas H.ty (n129 H) hm (lh:=qmn) (ct:=c129) (dcd:=fun y=>(y.2.1)) Tryz.func129 (by kernel_rfl) (by rfl) (q1q (l:=[]) (by kernel_rfl) trivial) (by decide) (fun _=>rfl) (fun x r h=>(qqE x.1 x.2.1).trans h)
theorem n116 {T:Told} (H:qab T):qag T Tryz.prog (envL e116):=q5q (l:=e116) ⟨qAE H,trivial⟩
theorem qAO {T:Told} (H:qab T):qae T Tryz.prog 116 c116 :=
 qas H.ty (n116 H) hm (lh:=qmp) (ct:=c116) (dcd:=fun y=>(y.2.1)) Tryz.func116 (by kernel_rfl) (by rfl) (q1q (l:=[]) (by kernel_rfl) trivial) (by decide) (fun _=>rfl) (fun x r h=>(qqG x.1 x.2.1).trans h)
theorem n103 {T:Told} (H:qab T):qag T Tryz.prog (envL e103):=q5q (l:=e103) ⟨ok6 H,ok21 H,qAP H,qAO H,trivial⟩
theorem qAX {T:Told} (H:qab T):qae T Tryz.prog 103 c103 :=
 qfs H.ty (n103 H) hm (lh:=qfK) (ct:=c103) (wi:=w103) (dcd:=fun y=>(y.1.1,y.2.1,y.2.2.1,y.2.2.2.1,y.2.2.2.2.1,y.2.2.2.2.2.1,y.2.2.2.2.2.2.1,y.2.2.2.2.2.2.2.1,y.2.2.2.2.2.2.2.2.1,y.2.2.2.2.2.2.2.2.2.1,y.2.2.2.2.2.2.2.2.2.2.1,y.2.2.2.2.2.2.2.2.2.2.2.1,y.2.2.2.2.2.2.2.2.2.2.2.2.1,y.2.2.2.2.2.2.2.2.2.2.2.2.2.1,y.2.2.2.2.2.2.2.2.2.2.2.2.2.2.1,y.2.2.2.2.2.2.2.2.2.2.2.2.2.2.2.1,y.2.2.2.2.2.2.2.2.2.2.2.2.2.2.2.2.1)) Tryz.func103 (by kernel_rfl) (by rfl) (q1q (l:=[]) (by kernel_rfl) trivial) (fun _=>rfl) rfl (fun x r h=>(qiH x.1 x.2.1 x.2.2.1 x.2.2.2.1 x.2.2.2.2.1 x.2.2.2.2.2.1 x.2.2.2.2.2.2.1 x.2.2.2.2.2.2.2.1 x.2.2.2.2.2.2.2.2.1 x.2.2.2.2.2.2.2.2.2.1 x.2.2.2.2.2.2.2.2.2.2.1 x.2.2.2.2.2.2.2.2.2.2.2.1 x.2.2.2.2.2.2.2.2.2.2.2.2.1 x.2.2.2.2.2.2.2.2.2.2.2.2.2.1 x.2.2.2.2.2.2.2.2.2.2.2.2.2.2.1 x.2.2.2.2.2.2.2.2.2.2.2.2.2.2.2.1 x.2.2.2.2.2.2.2.2.2.2.2.2.2.2.2.2.1).trans h)
theorem n75 {T:Told} (H:qab T):qag T Tryz.prog (envL e75):=q5q (l:=e75) ⟨ok5 H,ok8 H,qAZ H,qAY H,qAX H,trivial⟩
theorem qjb {T:Told} (H:qab T):q12q T Tryz.prog 91 (.loop (q3q 9 (q4q Tryz.f75) .skip)) ⟨qbd,qbR,lp qbP K0⟩ :=
 q7q H.ty (n75 H) hm (q1q (l:=[]) (by kernel_rfl) trivial) qjd K0
theorem qjc {T:Told} (H:qab T):q12q T Tryz.prog 91 (.loop (q3q 1 (q4q Tryz.f75) .skip)) ⟨qbe,qbS,lp qbQ K0⟩ :=
 q7q H.ty (n75 H) hm (q1q (l:=[(.loop (q3q 9 (q4q Tryz.f75) .skip),⟨qbd,qbR,lp qbP K0⟩)]) (by kernel_rfl) ⟨qjb H,trivial⟩) qje K0
theorem ok75 {T:Told} (H:qab T):qae T Tryz.prog 75 c75 :=
 qfs H.ty (n75 H) hm (lh:=qcL) (ct:=c75) (wi:=w75) (dcd:=fun y=>(y.1.1,y.2.1,y.2.2.1,y.2.2.2.1,y.2.2.2.2.1,y.2.2.2.2.2.1)) Tryz.func75 (by kernel_rfl) (by rfl) (q1q (l:=[(.loop (q3q 1 (q4q Tryz.f75) .skip),⟨qbe,qbS,lp qbQ K0⟩)]) (by kernel_rfl) ⟨qjc H,trivial⟩) (fun _=>rfl) rfl (fun x r h=>(qjf x.1 x.2.1 x.2.2.1 x.2.2.2.1 x.2.2.2.2.1 x.2.2.2.2.2.1).trans h)
theorem n55 {T:Told} (H:qab T):qag T Tryz.prog (envL e55):=q5q (l:=e55) ⟨ok74 H,ok75 H,trivial⟩
theorem qo0 {T:Told} (H:qab T):q12q T Tryz.prog 34 (.loop (q3q 3 (q4q Tryz.f55) .skip)) ⟨qdF,qeB,lp qeA K0⟩ :=
 q7q H.ty (n55 H) hm (q1q (l:=[]) (by kernel_rfl) trivial) qo1 K0
theorem ok55 {T:Told} (H:qab T):qae T Tryz.prog 55 c55 :=
 qas H.ty (n55 H) hm (lh:=qhY) (ct:=c55) (dcd:=fun y=>(y.2.1)) Tryz.func55 (by kernel_rfl) (by rfl) (q1q (l:=[(.loop (q3q 3 (q4q Tryz.f55) .skip),⟨qdF,qeB,lp qeA K0⟩)]) (by kernel_rfl) ⟨qo0 H,trivial⟩) (by decide) (fun _=>rfl) (fun x r h=>(qo2 x.1 x.2.1 x.2.2.1 x.2.2.2.1).trans h)
theorem n31 {T:Told} (H:qab T):qag T Tryz.prog (envL e31):=q5q (l:=e31) ⟨ok54 H,ok55 H,trivial⟩
theorem ok31 {T:Told} (H:qab T):qae T Tryz.prog 31 c31 :=
 qas H.ty (n31 H) hm (lh:=qid) (ct:=c31) (dcd:=fun y=>(y.2.1,y.2.2.1)) Tryz.func31 (by kernel_rfl) (by rfl) (q1q (l:=[]) (by kernel_rfl) trivial) (by decide) (fun _=>rfl) (fun x r h=>(qmC x.1 x.2.1).trans h)
theorem n11 {T:Told} (H:qab T):qag T Tryz.prog (envL e11):=q5q (l:=e11) ⟨ok8 H,ok22 H,ok23 H,ok31 H,ok32 H,trivial⟩
theorem qk8 {r} (h:c11.F ()=r):qbl=r:=by
 subst h
 delta c11
 exact(@F_in [] _ _ (fun _=>qbl) _ _ () _ rfl).symm
theorem qk6 (x) (r:c11.T) (h:c11.F x=some r):fnF tb (envL e11) Tryz.f11 qeP c11.ps c11.rs (T:=c11.T) (fun y=>(y.2.1)) x=some r:=by
 cases x;exact qk7.trans (qk8 h)
theorem ok11 {T:Told} (H:qab T):qae T Tryz.prog 11 c11 :=
 qas H.ty (n11 H) hm (lh:=qeP) (ct:=c11) (dcd:=fun y=>(y.2.1)) Tryz.func11 (by kernel_rfl) (by rfl) (q1q (l:=[]) (by kernel_rfl) trivial) (by decide) (fun _=>rfl) (fun x r h=>qk6 x r h)
theorem n4 {T:Told} (H:qab T):qag T Tryz.prog (envL e4):=q5q (l:=e4) ⟨ok5 H,ok9 H,ok10 H,ok11 H,ok12 H,ok13 H,ok14 H,ok15 H,ok16 H,ok17 H,trivial⟩
theorem qhG {T:Told} (H:qab T):q12q T Tryz.prog 105 (.loop (q3q 4 (q4q Tryz.f4) .skip)) ⟨qaM,qa2,lp qap K0⟩ :=
 q7q H.ty (n4 H) hm (q1q (l:=[]) (by kernel_rfl) trivial) qhH K0
theorem qho {T:Told} (H:qab T):q12q T Tryz.prog 105 (.loop (q3q 16 (q4q Tryz.f4) .skip)) ⟨qaE,qaW,lp qai K0⟩ :=
 q7q H.ty (n4 H) hm (q1q (l:=[]) (by kernel_rfl) trivial) qhp K0
theorem ok4 {T:Told} (H:qab T):qae T Tryz.prog 4 c4 :=
 qas H.ty (n4 H) hm (lh:=qbM) (ct:=c4) (dcd:=fun y=>(y.2.1)) Tryz.func4 (by kernel_rfl) (by rfl) (q1q (l:=[(.loop (q3q 4 (q4q Tryz.f4) .skip),⟨qaM,qa2,lp qap K0⟩),(.loop (q3q 16 (q4q Tryz.f4) .skip),⟨qaE,qaW,lp qai K0⟩)]) (by kernel_rfl) ⟨qhG H,qho H,trivial⟩) (by decide) (fun _=>rfl) (fun x r h=>(qhI x.1 x.2.1).trans h)
end Go.Proofs.YtmabkjhobhbfdaaGreatDoor.X
