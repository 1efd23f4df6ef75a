/- Own work: part of the proof; the first line of each part says what it tells. -/
import Derived.Test.YtmabkjhobhbfdaaGreatDoorLb10
import Derived.Test.YtmabkjhobhbfdaaGreatDoorLb13


namespace Go.Proofs.YtmabkjhobhbfdaaGreatDoor.X
open Go
set_option linter.unusedVariables false
set_option linter.unusedSimpArgs false
set_option maxRecDepth 100000
theorem F_in {ps:List (Ty×PM)} {rs:List (Ty×Bool)} {T:Type} {F:HL (fsts ps)->Option T} {enc:T->HL (qii ps)×HL (fsts rs)} {wi:Option Wir} (x:HL (fsts ps)) {r:Option T} (h:F x=r):(Ctr.mk ps rs T F enc wi).F x=r:=h
theorem hm:Tryz.prog.follows .mixedOrders=true:=by kernel_rfl
structure qab (T:Told):Prop where
 ty:TbOk Tryz.prog tb
 h108:qaf T Tryz.prog 108 c108
 h119:qaf T Tryz.prog 119 c119
theorem n60 {T:Told} (H:qab T):qag T Tryz.prog (envL e60):=q5q (l:=e60) trivial
theorem qte {T:Told} (H:qab T):q12q T Tryz.prog 23 (.loop (q3q 2 (q4q Tryz.f60) .skip)) ⟨qgM,qhW,lp qdW K0⟩ :=
 q7q H.ty (n60 H) hm (q1q (l:=[]) (by kernel_rfl) trivial) qtf K0
theorem ok60 {T:Told} (H:qab T):qaf T Tryz.prog 60 c60 :=
 qas H.ty (n60 H) hm (lh:=qlO) (ct:=c60) (dcd:=fun y=>(y.2.1)) Tryz.func60 (by kernel_rfl) (by rfl) (q1q (l:=[(.loop (q3q 2 (q4q Tryz.f60) .skip),⟨qgM,qhW,lp qdW K0⟩)]) (by kernel_rfl) ⟨qte H,trivial⟩) (by decide) (fun _=>rfl) (fun x r h=>(qtg x.1).trans h)
theorem n40 {T:Told} (H:qab T):qag T Tryz.prog (envL e40):=q5q (l:=e40) ⟨ok60 H,trivial⟩
theorem ok40 {T:Told} (H:qab T):qaf T Tryz.prog 40 c40 :=
 qas H.ty (n40 H) hm (lh:=qse) (ct:=c40) (dcd:=fun y=>(y.2.1)) Tryz.func40 (by kernel_rfl) (by rfl) (q1q (l:=[]) (by kernel_rfl) trivial) (by decide) (fun _=>rfl) (fun x r h=>(qwh x.1).trans h)
theorem n63 {T:Told} (H:qab T):qag T Tryz.prog (envL e63):=q5q (l:=e63) trivial
theorem ok63 {T:Told} (H:qab T):qaf T Tryz.prog 63 c63 :=
 qas H.ty (n63 H) hm (lh:=qmb) (ct:=c63) (dcd:=fun y=>(y.2.1)) Tryz.func63 (by kernel_rfl) (by rfl) (q1q (l:=[]) (by kernel_rfl) trivial) (by decide) (fun _=>rfl) (fun x r h=>(qqk x.1 x.2.1).trans h)
theorem n52 {T:Told} (H:qab T):qag T Tryz.prog (envL e52):=q5q (l:=e52) ⟨ok40 H,ok63 H,trivial⟩
theorem ok52 {T:Told} (H:qab T):qaf T Tryz.prog 52 c52 :=
 qas H.ty (n52 H) hm (lh:=qoo) (ct:=c52) (dcd:=fun y=>(y.2.1)) Tryz.func52 (by kernel_rfl) (by rfl) (q1q (l:=[]) (by kernel_rfl) trivial) (by decide) (fun _=>rfl) (fun x r h=>(qsQ x.1).trans h)
theorem n23 {T:Told} (H:qab T):qag T Tryz.prog (envL e23):=q5q (l:=e23) ⟨ok40 H,ok52 H,trivial⟩
theorem ok23 {T:Told} (H:qab T):qaf T Tryz.prog 23 c23 :=
 qas H.ty (n23 H) hm (lh:=qoM) (ct:=c23) (dcd:=fun y=>(y.2.1)) Tryz.func23 (by kernel_rfl) (by rfl) (q1q (l:=[]) (by kernel_rfl) trivial) (by decide) (fun _=>rfl) (fun x r h=>(qs2 x.1).trans h)
theorem n8 {T:Told} (H:qab T):qag T Tryz.prog (envL e8):=q5q (l:=e8) ⟨ok23 H,trivial⟩
theorem ok8 {T:Told} (H:qab T):qaf T Tryz.prog 8 c8 :=
 qas H.ty (n8 H) hm (lh:=qnP) (ct:=c8) (dcd:=fun y=>(y.2.1)) Tryz.func8 (by kernel_rfl) (by rfl) (q1q (l:=[]) (by kernel_rfl) trivial) (by decide) (fun _=>rfl) (fun x r h=>(qrF ).trans h)
theorem n5 {T:Told} (H:qab T):qag T Tryz.prog (envL e5):=q5q (l:=e5) ⟨ok8 H,trivial⟩
theorem ok5 {T:Told} (H:qab T):qaf T Tryz.prog 5 c5 :=
 qfm H.ty (n5 H) hm (lh:=qj4) (ct:=c5) (wi:=w5) (dcd:=fun y=>(y.2.1)) Tryz.func5 (by kernel_rfl) (by rfl) (q1q (l:=[]) (by kernel_rfl) trivial) (fun _=>rfl) rfl (fun x r h=>(qoV ).trans h)
theorem n6 {T:Told} (H:qab T):qag T Tryz.prog (envL e6):=q5q (l:=e6) trivial
theorem ok6 {T:Told} (H:qab T):qaf T Tryz.prog 6 c6 :=
 qfm H.ty (n6 H) hm (lh:=qg2) (ct:=c6) (wi:=w6) (dcd:=fun y=>(y.2.1,y.2.2.1)) Tryz.func6 (by kernel_rfl) (by rfl) (q1q (l:=[]) (by kernel_rfl) trivial) (fun _=>rfl) rfl (fun x r h=>(qj3 x.1).trans h)
theorem n15 {T:Told} (H:qab T):qag T Tryz.prog (envL e15):=q5q (l:=e15) ⟨ok40 H,trivial⟩
theorem ok15 {T:Told} (H:qab T):qaf T Tryz.prog 15 c15 :=
 qas H.ty (n15 H) hm (lh:=qmk) (ct:=c15) (dcd:=fun y=>(y.2.1)) Tryz.func15 (by kernel_rfl) (by rfl) (q1q (l:=[]) (by kernel_rfl) trivial) (by decide) (fun _=>rfl) (fun x r h=>(qqE ).trans h)
theorem n49 {T:Told} (H:qab T):qag T Tryz.prog (envL e49):=q5q (l:=e49) ⟨ok60 H,trivial⟩
theorem qsf {T:Told} (H:qab T):q12q T Tryz.prog 24 (.loop (q3q 3 (q4q Tryz.f49) .skip)) ⟨qfP,qg9,lp qdd K0⟩ :=
 q7q H.ty (n49 H) hm (q1q (l:=[]) (by kernel_rfl) trivial) qsg K0
theorem ok49 {T:Told} (H:qab T):qaf T Tryz.prog 49 c49 :=
 qas H.ty (n49 H) hm (lh:=qkk) (ct:=c49) (dcd:=fun y=>(y.2.1)) Tryz.func49 (by kernel_rfl) (by rfl) (q1q (l:=[(.loop (q3q 3 (q4q Tryz.f49) .skip),⟨qfP,qg9,lp qdd K0⟩)]) (by kernel_rfl) ⟨qsf H,trivial⟩) (by decide) (fun _=>rfl) (fun x r h=>(qsh x.1).trans h)
theorem n107 {T:Told} (H:qab T):qag T Tryz.prog (envL e107):=q5q (l:=e107) ⟨ok49 H,trivial⟩
theorem qAV {T:Told} (H:qab T):qaf T Tryz.prog 107 c107 :=
 qas H.ty (n107 H) hm (lh:=qsd) (ct:=c107) (dcd:=fun y=>(y.2.1,y.2.2.1)) Tryz.func107 (by kernel_rfl) (by rfl) (q1q (l:=[]) (by kernel_rfl) trivial) (by decide) (fun _=>rfl) (fun x r h=>(qwg x.1).trans h)
theorem n79 {T:Told} (H:qab T):qag T Tryz.prog (envL e79):=q5q (l:=e79) ⟨ok40 H,qAV H,trivial⟩
theorem qqO {T:Told} (H:qab T):q12q T Tryz.prog 27 (.loop (q3q 3 (q4q Tryz.f79) .skip)) ⟨qeO,qf9,lp qdc K0⟩ :=
 q7q H.ty (n79 H) hm (q1q (l:=[]) (by kernel_rfl) trivial) qqP K0
theorem ok79 {T:Told} (H:qab T):qaf T Tryz.prog 79 c79 :=
 qas H.ty (n79 H) hm (lh:=qjg) (ct:=c79) (dcd:=fun y=>(y.2.1)) Tryz.func79 (by kernel_rfl) (by rfl) (q1q (l:=[(.loop (q3q 3 (q4q Tryz.f79) .skip),⟨qeO,qf9,lp qdc K0⟩)]) (by kernel_rfl) ⟨qqO H,trivial⟩) (by decide) (fun _=>rfl) (fun x r h=>(qqQ x.1 x.2.1).trans h)
theorem n80 {T:Told} (H:qab T):qag T Tryz.prog (envL e80):=q5q (l:=e80) ⟨H.h108,trivial⟩
theorem qrY {T:Told} (H:qab T):q12q T Tryz.prog 24 (.loop (q3q 3 (q4q Tryz.f80) .skip)) ⟨qfJ,qg3,lp qdQ K0⟩ :=
 q7q H.ty (n80 H) hm (q1q (l:=[]) (by kernel_rfl) trivial) qrZ K0
theorem ok80 {T:Told} (H:qab T):qaf T Tryz.prog 80 c80 :=
 qas H.ty (n80 H) hm (lh:=qkb) (ct:=c80) (dcd:=fun y=>(y.2.1)) Tryz.func80 (by kernel_rfl) (by rfl) (q1q (l:=[(.loop (q3q 3 (q4q Tryz.f80) .skip),⟨qfJ,qg3,lp qdQ K0⟩)]) (by kernel_rfl) ⟨qrY H,trivial⟩) (by decide) (fun _=>rfl) (fun x r h=>(qr0 x.1).trans h)
theorem n88 {T:Told} (H:qab T):qag T Tryz.prog (envL e88):=q5q (l:=e88) trivial
theorem ok88 {T:Told} (H:qab T):qaf T Tryz.prog 88 c88 :=
 qas H.ty (n88 H) hm (lh:=qo1) (ct:=c88) (dcd:=fun y=>(y.2.1)) Tryz.func88 (by kernel_rfl) (by rfl) (q1q (l:=[]) (by kernel_rfl) trivial) (by decide) (fun _=>rfl) (fun x r h=>(qto x.1 x.2.1).trans h)
theorem n81 {T:Told} (H:qab T):qag T Tryz.prog (envL e81):=q5q (l:=e81) ⟨ok60 H,ok88 H,trivial⟩
theorem qu2 {T:Told} (H:qab T):q12q T Tryz.prog 50 (.loop (q3q 6 (q4q Tryz.f81) .skip)) ⟨qhF,qiK,lp qeM K0⟩ :=
 q7q H.ty (n81 H) hm (q1q (l:=[]) (by kernel_rfl) trivial) qu3 K0
theorem ok81 {T:Told} (H:qab T):qaf T Tryz.prog 81 c81 :=
 qas H.ty (n81 H) hm (lh:=qng) (ct:=c81) (dcd:=fun y=>(y.2.1)) Tryz.func81 (by kernel_rfl) (by rfl) (q1q (l:=[(.loop (q3q 6 (q4q Tryz.f81) .skip),⟨qhF,qiK,lp qeM K0⟩)]) (by kernel_rfl) ⟨qu2 H,trivial⟩) (by decide) (fun _=>rfl) (fun x r h=>(qu4 x.1 x.2.1).trans h)
theorem n82 {T:Told} (H:qab T):qag T Tryz.prog (envL e82):=q5q (l:=e82) trivial
theorem qr4 {T:Told} (H:qab T):q12q T Tryz.prog 45 (.loop (q3q 6 (q4q Tryz.f82) .skip)) ⟨qfL,qg5,lp qcO K0⟩ :=
 q7q H.ty (n82 H) hm (q1q (l:=[]) (by kernel_rfl) trivial) qr5 K0
theorem ok82 {T:Told} (H:qab T):qaf T Tryz.prog 82 c82 :=
 qas H.ty (n82 H) hm (lh:=qke) (ct:=c82) (dcd:=fun y=>(y.2.1)) Tryz.func82 (by kernel_rfl) (by rfl) (q1q (l:=[(.loop (q3q 6 (q4q Tryz.f82) .skip),⟨qfL,qg5,lp qcO K0⟩)]) (by kernel_rfl) ⟨qr4 H,trivial⟩) (by decide) (fun _=>rfl) (fun x r h=>(qr6 x.1 x.2.1).trans h)
theorem n83 {T:Told} (H:qab T):qag T Tryz.prog (envL e83):=q5q (l:=e83) ⟨ok60 H,trivial⟩
theorem qu5 {T:Told} (H:qab T):q12q T Tryz.prog 51 (.loop (q3q 4 (q4q Tryz.f83) .skip)) ⟨qhG,qiL,lp qeN K0⟩ :=
 q7q H.ty (n83 H) hm (q1q (l:=[]) (by kernel_rfl) trivial) qu6 K0
theorem ok83 {T:Told} (H:qab T):qaf T Tryz.prog 83 c83 :=
 qas H.ty (n83 H) hm (lh:=qnh) (ct:=c83) (dcd:=fun y=>(y.2.1)) Tryz.func83 (by kernel_rfl) (by rfl) (q1q (l:=[(.loop (q3q 4 (q4q Tryz.f83) .skip),⟨qhG,qiL,lp qeN K0⟩)]) (by kernel_rfl) ⟨qu5 H,trivial⟩) (by decide) (fun _=>rfl) (fun x r h=>(qu7 x.1 x.2.1).trans h)
theorem n86 {T:Told} (H:qab T):qag T Tryz.prog (envL e86):=q5q (l:=e86) ⟨ok60 H,trivial⟩
theorem qr1 {T:Told} (H:qab T):q12q T Tryz.prog 38 (.loop (q3q 4 (q4q Tryz.f86) .skip)) ⟨qfK,qg4,lp qdR K0⟩ :=
 q7q H.ty (n86 H) hm (q1q (l:=[]) (by kernel_rfl) trivial) qr2 K0
theorem ok86 {T:Told} (H:qab T):qaf T Tryz.prog 86 c86 :=
 qas H.ty (n86 H) hm (lh:=qkc) (ct:=c86) (dcd:=fun y=>(y.2.1,y.2.2.1)) Tryz.func86 (by kernel_rfl) (by rfl) (q1q (l:=[(.loop (q3q 4 (q4q Tryz.f86) .skip),⟨qfK,qg4,lp qdR K0⟩)]) (by kernel_rfl) ⟨qr1 H,trivial⟩) (by decide) (fun _=>rfl) (fun x r h=>(qr3 x.1 x.2.1).trans h)
theorem n109 {T:Told} (H:qab T):qag T Tryz.prog (envL e109):=q5q (l:=e109) ⟨H.h119,trivial⟩
theorem qAU {T:Told} (H:qab T):qaf T Tryz.prog 109 c109 :=
 qas H.ty (n109 H) hm (lh:=qgD) (ct:=c109) (dcd:=fun y=>(y.2.1)) Tryz.func109 (by kernel_rfl) (by rfl) (q1q (l:=[]) (by kernel_rfl) trivial) (by decide) (fun _=>rfl) (fun x r h=>(qjM x.1).trans h)
theorem n120 {T:Told} (H:qab T):qag T Tryz.prog (envL e120):=q5q (l:=e120) ⟨ok88 H,trivial⟩
theorem qth {T:Told} (H:qab T):q12q T Tryz.prog 46 (.loop (q3q 3 (q4q Tryz.f120) .skip)) ⟨qgN,qhX,lp qey K0⟩ :=
 q7q H.ty (n120 H) hm (q1q (l:=[]) (by kernel_rfl) trivial) qti K0
theorem qAO {T:Told} (H:qab T):qaf T Tryz.prog 120 c120 :=
 qas H.ty (n120 H) hm (lh:=qlP) (ct:=c120) (dcd:=fun y=>(y.1.1,y.2.1)) Tryz.func120 (by kernel_rfl) (by rfl) (q1q (l:=[(.loop (q3q 3 (q4q Tryz.f120) .skip),⟨qgN,qhX,lp qey K0⟩)]) (by kernel_rfl) ⟨qth H,trivial⟩) (by decide) (fun _=>rfl) (fun x r h=>(qtj x.1 x.2.1 x.2.2.1).trans h)
theorem n121 {T:Told} (H:qab T):qag T Tryz.prog (envL e121):=q5q (l:=e121) ⟨ok88 H,trivial⟩
theorem qtp {T:Told} (H:qab T):q12q T Tryz.prog 29 (.loop (q3q 2 (q4q Tryz.f121) .skip)) ⟨qgP,qh0,lp qez K0⟩ :=
 q7q H.ty (n121 H) hm (q1q (l:=[]) (by kernel_rfl) trivial) qtq K0
theorem qAN {T:Told} (H:qab T):qaf T Tryz.prog 121 c121 :=
 qas H.ty (n121 H) hm (lh:=qlR) (ct:=c121) (dcd:=fun y=>(y.1.1)) Tryz.func121 (by kernel_rfl) (by rfl) (q1q (l:=[(.loop (q3q 2 (q4q Tryz.f121) .skip),⟨qgP,qh0,lp qez K0⟩)]) (by kernel_rfl) ⟨qtp H,trivial⟩) (by decide) (fun _=>rfl) (fun x r h=>(qtr x.1 x.2.1).trans h)
theorem n110 {T:Told} (H:qab T):qag T Tryz.prog (envL e110):=q5q (l:=e110) ⟨qAO H,qAN H,trivial⟩
theorem qsa {T:Told} (H:qab T):q12q T Tryz.prog 77 (.loop (q3q 4 (q4q Tryz.f110) .skip)) ⟨qfN,qg8,lp qbv K0⟩ :=
 q7q H.ty (n110 H) hm (q1q (l:=[]) (by kernel_rfl) trivial) qsb K0
theorem qAT {T:Told} (H:qab T):qaf T Tryz.prog 110 c110 :=
 qas H.ty (n110 H) hm (lh:=qkg) (ct:=c110) (dcd:=fun y=>(y.1.1,y.2.1)) Tryz.func110 (by kernel_rfl) (by rfl) (q1q (l:=[(.loop (q3q 4 (q4q Tryz.f110) .skip),⟨qfN,qg8,lp qbv K0⟩)]) (by kernel_rfl) ⟨qsa H,trivial⟩) (by decide) (fun _=>rfl) (fun x r h=>(qsc x.1 x.2.1).trans h)
theorem n87 {T:Told} (H:qab T):qag T Tryz.prog (envL e87):=q5q (l:=e87) ⟨ok60 H,ok81 H,ok83 H,qAU H,qAT H,trivial⟩
theorem qtl {T:Told} (H:qab T):q12q T Tryz.prog 64 (.loop (q3q 7 (q4q Tryz.f87) .skip)) ⟨qgO,qhZ,lp qdY K0⟩ :=
 q7q H.ty (n87 H) hm (q1q (l:=[]) (by kernel_rfl) trivial) qtm K0
theorem ok87 {T:Told} (H:qab T):qaf T Tryz.prog 87 c87 :=
 qas H.ty (n87 H) hm (lh:=qlQ) (ct:=c87) (dcd:=fun y=>(y.2.1,y.2.2.1)) Tryz.func87 (by kernel_rfl) (by rfl) (q1q (l:=[(.loop (q3q 7 (q4q Tryz.f87) .skip),⟨qgO,qhZ,lp qdY K0⟩)]) (by kernel_rfl) ⟨qtl H,trivial⟩) (by decide) (fun _=>rfl) (fun x r h=>(qtn x.1 x.2.1).trans h)
theorem n62 {T:Told} (H:qab T):qag T Tryz.prog (envL e62):=q5q (l:=e62) ⟨ok40 H,ok49 H,ok82 H,ok86 H,ok87 H,trivial⟩
theorem ok62 {T:Told} (H:qab T):qaf T Tryz.prog 62 c62 :=
 qas H.ty (n62 H) hm (lh:=qmC) (ct:=c62) (dcd:=fun y=>(y.2.1,y.2.2.1,y.2.2.2.1)) Tryz.func62 (by kernel_rfl) (by rfl) (q1q (l:=[]) (by kernel_rfl) trivial) (by decide) (fun _=>rfl) (fun x r h=>(qqR x.1 x.2.1).trans h)
theorem n84 {T:Told} (H:qab T):qag T Tryz.prog (envL e84):=q5q (l:=e84) ⟨ok62 H,trivial⟩
theorem ok84 {T:Told} (H:qab T):qaf T Tryz.prog 84 c84 :=
 qas H.ty (n84 H) hm (lh:=qo0) (ct:=c84) (dcd:=fun y=>(y.2.1,y.2.2.1)) Tryz.func84 (by kernel_rfl) (by rfl) (q1q (l:=[]) (by kernel_rfl) trivial) (by decide) (fun _=>rfl) (fun x r h=>(qtk x.1 x.2.1).trans h)
theorem n85 {T:Told} (H:qab T):qag T Tryz.prog (envL e85):=q5q (l:=e85) ⟨ok60 H,ok88 H,trivial⟩
theorem qr7 {T:Told} (H:qab T):q12q T Tryz.prog 39 (.loop (q3q 4 (q4q Tryz.f85) .skip)) ⟨qfM,qg7,lp qdS K0⟩ :=
 q7q H.ty (n85 H) hm (q1q (l:=[]) (by kernel_rfl) trivial) qr8 K0
theorem ok85 {T:Told} (H:qab T):qaf T Tryz.prog 85 c85 :=
 qas H.ty (n85 H) hm (lh:=qkf) (ct:=c85) (dcd:=fun y=>(y.2.1)) Tryz.func85 (by kernel_rfl) (by rfl) (q1q (l:=[(.loop (q3q 4 (q4q Tryz.f85) .skip),⟨qfM,qg7,lp qdS K0⟩)]) (by kernel_rfl) ⟨qr7 H,trivial⟩) (by decide) (fun _=>rfl) (fun x r h=>(qr9 x.1 x.2.1).trans h)
theorem n61 {T:Told} (H:qab T):qag T Tryz.prog (envL e61):=q5q (l:=e61) ⟨ok49 H,ok79 H,ok80 H,ok81 H,ok82 H,ok83 H,ok84 H,ok85 H,trivial⟩
theorem qts {T:Told} (H:qab T):q12q T Tryz.prog 86 (.loop (q3q 10 (q4q Tryz.f61) .skip)) ⟨qgQ,qh1,lp qbS K0⟩ :=
 q7q H.ty (n61 H) hm (q1q (l:=[]) (by kernel_rfl) trivial) qtt K0
theorem ok61 {T:Told} (H:qab T):qaf T Tryz.prog 61 c61 :=
 qas H.ty (n61 H) hm (lh:=qni) (ct:=c61) (dcd:=fun y=>(y.2.1)) Tryz.func61 (by kernel_rfl) (by rfl) (q1q (l:=[(.loop (q3q 10 (q4q Tryz.f61) .skip),⟨qgQ,qh1,lp qbS K0⟩)]) (by kernel_rfl) ⟨qts H,trivial⟩) (by decide) (fun _=>rfl) (fun x r h=>(qve x.1 x.2.1).trans h)
theorem n41 {T:Told} (H:qab T):qag T Tryz.prog (envL e41):=q5q (l:=e41) ⟨ok40 H,ok61 H,ok62 H,trivial⟩
theorem ok41 {T:Told} (H:qab T):qaf T Tryz.prog 41 c41 :=
 qas H.ty (n41 H) hm (lh:=qmj) (ct:=c41) (dcd:=fun y=>(y.2.1)) Tryz.func41 (by kernel_rfl) (by rfl) (q1q (l:=[]) (by kernel_rfl) trivial) (by decide) (fun _=>rfl) (fun x r h=>(qqD x.1 x.2.1).trans h)
theorem n50 {T:Told} (H:qab T):qag T Tryz.prog (envL e50):=q5q (l:=e50) ⟨ok49 H,ok63 H,trivial⟩
theorem ok50 {T:Told} (H:qab T):qaf T Tryz.prog 50 c50 :=
 qas H.ty (n50 H) hm (lh:=qlB) (ct:=c50) (dcd:=fun y=>(y.2.1)) Tryz.func50 (by kernel_rfl) (by rfl) (q1q (l:=[]) (by kernel_rfl) trivial) (by decide) (fun _=>rfl) (fun x r h=>(qpt x.1).trans h)
theorem n20 {T:Told} (H:qab T):qag T Tryz.prog (envL e20):=q5q (l:=e20) ⟨ok15 H,ok41 H,ok49 H,ok50 H,trivial⟩
theorem ok20 {T:Told} (H:qab T):qaf T Tryz.prog 20 c20 :=
 qas H.ty (n20 H) hm (lh:=qlF) (ct:=c20) (dcd:=fun y=>(y.2.1)) Tryz.func20 (by kernel_rfl) (by rfl) (q1q (l:=[]) (by kernel_rfl) trivial) (by decide) (fun _=>rfl) (fun x r h=>(qpD x.1).trans h)
theorem n64 {T:Told} (H:qab T):qag T Tryz.prog (envL e64):=q5q (l:=e64) ⟨ok49 H,ok60 H,ok88 H,trivial⟩
theorem qvg {T:Told} (H:qab T):q12q T Tryz.prog 43 (.loop (q3q 5 (q4q Tryz.f64) .skip)) ⟨qhJ,qiQ,lp qfQ K0⟩ :=
 q7q H.ty (n64 H) hm (q1q (l:=[]) (by kernel_rfl) trivial) qvh K0
theorem ok64 {T:Told} (H:qab T):qaf T Tryz.prog 64 c64 :=
 qas H.ty (n64 H) hm (lh:=qnj) (ct:=c64) (dcd:=fun y=>(y.2.1)) Tryz.func64 (by kernel_rfl) (by rfl) (q1q (l:=[(.loop (q3q 5 (q4q Tryz.f64) .skip),⟨qhJ,qiQ,lp qfQ K0⟩)]) (by kernel_rfl) ⟨qvg H,trivial⟩) (by decide) (fun _=>rfl) (fun x r h=>(qvi x.1 x.2.1).trans h)
theorem n65 {T:Told} (H:qab T):qag T Tryz.prog (envL e65):=q5q (l:=e65) ⟨ok49 H,ok82 H,trivial⟩
theorem ok65 {T:Told} (H:qab T):qaf T Tryz.prog 65 c65 :=
 qas H.ty (n65 H) hm (lh:=qp0) (ct:=c65) (dcd:=fun y=>(y.2.1)) Tryz.func65 (by kernel_rfl) (by rfl) (q1q (l:=[]) (by kernel_rfl) trivial) (by decide) (fun _=>rfl) (fun x r h=>(qvf x.1 x.2.1).trans h)
theorem n66 {T:Told} (H:qab T):qag T Tryz.prog (envL e66):=q5q (l:=e66) ⟨ok49 H,ok82 H,ok85 H,trivial⟩
theorem ok66 {T:Told} (H:qab T):qaf T Tryz.prog 66 c66 :=
 qas H.ty (n66 H) hm (lh:=qpZ) (ct:=c66) (dcd:=fun y=>(y.2.1,y.2.2.1)) Tryz.func66 (by kernel_rfl) (by rfl) (q1q (l:=[]) (by kernel_rfl) trivial) (by decide) (fun _=>rfl) (fun x r h=>(qu8 x.1 x.2.1).trans h)
theorem n42 {T:Told} (H:qab T):qag T Tryz.prog (envL e42):=q5q (l:=e42) ⟨ok50 H,ok63 H,ok64 H,ok65 H,ok66 H,trivial⟩
theorem ok42 {T:Told} (H:qab T):qaf T Tryz.prog 42 c42 :=
 qas H.ty (n42 H) hm (lh:=qnG) (ct:=c42) (dcd:=fun y=>(y.2.1)) Tryz.func42 (by kernel_rfl) (by rfl) (q1q (l:=[]) (by kernel_rfl) trivial) (by decide) (fun _=>rfl) (fun x r h=>(qrk x.1 x.2.1).trans h)
theorem n45 {T:Told} (H:qab T):qag T Tryz.prog (envL e45):=q5q (l:=e45) ⟨ok49 H,ok60 H,trivial⟩
theorem qu9 {T:Told} (H:qab T):q12q T Tryz.prog 67 (.loop (q3q 8 (q4q Tryz.f45) .skip)) ⟨qhH,qiO,lp qeP K0⟩ :=
 q7q H.ty (n45 H) hm (q1q (l:=[]) (by kernel_rfl) trivial) qvb K0
theorem qva {T:Told} (H:qab T):q12q T Tryz.prog 67 (.loop (q3q 4 (q4q Tryz.f45) .skip)) ⟨qhI,qiP,lp qfO K0⟩ :=
 q7q H.ty (n45 H) hm (q1q (l:=[(.loop (q3q 8 (q4q Tryz.f45) .skip),⟨qhH,qiO,lp qeP K0⟩)]) (by kernel_rfl) ⟨qu9 H,trivial⟩) qvc K0
theorem ok45 {T:Told} (H:qab T):qaf T Tryz.prog 45 c45 :=
 qas H.ty (n45 H) hm (lh:=qk8) (ct:=c45) (dcd:=fun y=>(y.2.1)) Tryz.func45 (by kernel_rfl) (by rfl) (q1q (l:=[(.loop (q3q 4 (q4q Tryz.f45) .skip),⟨qhI,qiP,lp qfO K0⟩)]) (by kernel_rfl) ⟨qva H,trivial⟩) (by decide) (fun _=>rfl) (fun x r h=>(qvd x.1 x.2.1).trans h)
theorem n43 {T:Told} (H:qab T):qag T Tryz.prog (envL e43):=q5q (l:=e43) ⟨ok45 H,ok50 H,ok63 H,trivial⟩
theorem ok43 {T:Told} (H:qab T):qaf T Tryz.prog 43 c43 :=
 qas H.ty (n43 H) hm (lh:=qnE) (ct:=c43) (dcd:=fun y=>(y.2.1)) Tryz.func43 (by kernel_rfl) (by rfl) (q1q (l:=[]) (by kernel_rfl) trivial) (by decide) (fun _=>rfl) (fun x r h=>(qri x.1 x.2.1).trans h)
theorem n44 {T:Told} (H:qab T):qag T Tryz.prog (envL e44):=q5q (l:=e44) trivial
theorem ok44 {T:Told} (H:qab T):qaf T Tryz.prog 44 c44 :=
 qas H.ty (n44 H) hm (lh:=qnN) (ct:=c44) (dcd:=fun y=>(y.2.1)) Tryz.func44 (by kernel_rfl) (by rfl) (q1q (l:=[]) (by kernel_rfl) trivial) (by decide) (fun _=>rfl) (fun x r h=>(qrz x.1).trans h)
theorem n16 {T:Told} (H:qab T):qag T Tryz.prog (envL e16):=q5q (l:=e16) ⟨ok20 H,ok41 H,ok42 H,ok43 H,ok44 H,ok45 H,trivial⟩
theorem ok16 {T:Told} (H:qab T):qaf T Tryz.prog 16 c16 :=
 qas H.ty (n16 H) hm (lh:=qnV) (ct:=c16) (dcd:=fun y=>(y.2.1)) Tryz.func16 (by kernel_rfl) (by rfl) (q1q (l:=[]) (by kernel_rfl) trivial) (by decide) (fun _=>rfl) (fun x r h=>(qrN x.1 x.2.1).trans h)
theorem n18 {T:Told} (H:qab T):qag T Tryz.prog (envL e18):=q5q (l:=e18) trivial
theorem qj0 {T:Told} (H:qab T):q12q T Tryz.prog 29 (.loop (q3q 4 (q4q Tryz.f18) .skip)) ⟨qbt,qce,lp qak K0⟩ :=
 q7q H.ty (n18 H) hm (q1q (l:=[]) (by kernel_rfl) trivial) qj1 K0
theorem ok18 {T:Told} (H:qab T):qaf T Tryz.prog 18 c18 :=
 qfm H.ty (n18 H) hm (lh:=qeu) (ct:=c18) (wi:=w18) (dcd:=fun y=>(y.2.1,y.2.2.1)) Tryz.func18 (by kernel_rfl) (by rfl) (q1q (l:=[(.loop (q3q 4 (q4q Tryz.f18) .skip),⟨qbt,qce,lp qak K0⟩)]) (by kernel_rfl) ⟨qj0 H,trivial⟩) (fun _=>rfl) rfl (fun x r h=>(qj2 x.1 x.2.1).trans h)
theorem n48 {T:Told} (H:qab T):qag T Tryz.prog (envL e48):=q5q (l:=e48) ⟨ok50 H,trivial⟩
theorem ok48 {T:Told} (H:qab T):qaf T Tryz.prog 48 c48 :=
 qas H.ty (n48 H) hm (lh:=qmc) (ct:=c48) (dcd:=fun y=>(y.2.1)) Tryz.func48 (by kernel_rfl) (by rfl) (q1q (l:=[]) (by kernel_rfl) trivial) (by decide) (fun _=>rfl) (fun x r h=>(qql x.1).trans h)
theorem n19 {T:Told} (H:qab T):qag T Tryz.prog (envL e19):=q5q (l:=e19) ⟨ok20 H,ok48 H,trivial⟩
theorem ok19 {T:Told} (H:qab T):qaf T Tryz.prog 19 c19 :=
 qas H.ty (n19 H) hm (lh:=qmm) (ct:=c19) (dcd:=fun y=>(y.2.1)) Tryz.func19 (by kernel_rfl) (by rfl) (q1q (l:=[]) (by kernel_rfl) trivial) (by decide) (fun _=>rfl) (fun x r h=>(qqF x.1).trans h)
theorem n21 {T:Told} (H:qab T):qag T Tryz.prog (envL e21):=q5q (l:=e21) ⟨ok20 H,ok41 H,ok43 H,ok45 H,trivial⟩
theorem ok21 {T:Told} (H:qab T):qaf T Tryz.prog 21 c21 :=
 qas H.ty (n21 H) hm (lh:=qnR) (ct:=c21) (dcd:=fun y=>(y.2.1)) Tryz.func21 (by kernel_rfl) (by rfl) (q1q (l:=[]) (by kernel_rfl) trivial) (by decide) (fun _=>rfl) (fun x r h=>(qrI x.1 x.2.1).trans h)
theorem n72 {T:Told} (H:qab T):qag T Tryz.prog (envL e72):=q5q (l:=e72) ⟨ok50 H,ok63 H,trivial⟩
theorem ok72 {T:Told} (H:qab T):qaf T Tryz.prog 72 c72 :=
 qas H.ty (n72 H) hm (lh:=qnD) (ct:=c72) (dcd:=fun y=>(y.2.1)) Tryz.func72 (by kernel_rfl) (by rfl) (q1q (l:=[]) (by kernel_rfl) trivial) (by decide) (fun _=>rfl) (fun x r h=>(qrh x.1).trans h)
theorem n51 {T:Told} (H:qab T):qag T Tryz.prog (envL e51):=q5q (l:=e51) ⟨ok41 H,ok48 H,ok50 H,ok72 H,trivial⟩
theorem ok51 {T:Told} (H:qab T):qaf T Tryz.prog 51 c51 :=
 qas H.ty (n51 H) hm (lh:=qmo) (ct:=c51) (dcd:=fun y=>(y.2.1,y.2.2.1)) Tryz.func51 (by kernel_rfl) (by rfl) (q1q (l:=[]) (by kernel_rfl) trivial) (by decide) (fun _=>rfl) (fun x r h=>(qqH x.1 x.2.1).trans h)
theorem n22 {T:Told} (H:qab T):qag T Tryz.prog (envL e22):=q5q (l:=e22) ⟨ok20 H,ok51 H,ok52 H,trivial⟩
theorem ok22 {T:Told} (H:qab T):qaf T Tryz.prog 22 c22 :=
 qas H.ty (n22 H) hm (lh:=qmp) (ct:=c22) (dcd:=fun y=>(y.2.1)) Tryz.func22 (by kernel_rfl) (by rfl) (q1q (l:=[]) (by kernel_rfl) trivial) (by decide) (fun _=>rfl) (fun x r h=>(qqJ x.1 x.2.1).trans h)
theorem n7 {T:Told} (H:qab T):qag T Tryz.prog (envL e7):=q5q (l:=e7) ⟨ok15 H,ok16 H,ok18 H,ok19 H,ok20 H,ok21 H,ok22 H,trivial⟩
theorem qiH {T:Told} (H:qab T):q12q T Tryz.prog 113 (.loop (q3q 10 (q4q Tryz.f7) .skip)) ⟨qa6,qbu,lp qao K0⟩ :=
 q7q H.ty (n7 H) hm (q1q (l:=[]) (by kernel_rfl) trivial) qiI K0
theorem ok7 {T:Told} (H:qab T):qaf T Tryz.prog 7 c7 :=
 qfm H.ty (n7 H) hm (lh:=qdV) (ct:=c7) (wi:=w7) (dcd:=fun y=>(y.2.1,y.2.2.1)) Tryz.func7 (by kernel_rfl) (by rfl) (q1q (l:=[(.loop (q3q 10 (q4q Tryz.f7) .skip),⟨qa6,qbu,lp qao K0⟩)]) (by kernel_rfl) ⟨qiH H,trivial⟩) (fun _=>rfl) rfl (fun x r h=>(qjd x.1 x.2.1 x.2.2.1 x.2.2.2.1).trans h)
theorem n14 {T:Told} (H:qab T):qag T Tryz.prog (envL e14):=q5q (l:=e14) trivial
theorem ok14 {T:Told} (H:qab T):qaf T Tryz.prog 14 c14 :=
 qas H.ty (n14 H) hm (lh:=qgr) (ct:=c14) (dcd:=fun y=>(y.2.1)) Tryz.func14 (by kernel_rfl) (by rfl) (q1q (l:=[]) (by kernel_rfl) trivial) (by decide) (fun _=>rfl) (fun x r h=>(qjn x.1 x.2.1).trans h)
theorem n57 {T:Told} (H:qab T):qag T Tryz.prog (envL e57):=q5q (l:=e57) ⟨ok20 H,ok44 H,ok51 H,trivial⟩
theorem ok57 {T:Told} (H:qab T):qaf T Tryz.prog 57 c57 :=
 qas H.ty (n57 H) hm (lh:=qnS) (ct:=c57) (dcd:=fun y=>(y.2.1,y.2.2.1)) Tryz.func57 (by kernel_rfl) (by rfl) (q1q (l:=[]) (by kernel_rfl) trivial) (by decide) (fun _=>rfl) (fun x r h=>(qrK x.1).trans h)
theorem n77 {T:Told} (H:qab T):qag T Tryz.prog (envL e77):=q5q (l:=e77) ⟨ok20 H,ok72 H,trivial⟩
theorem ok77 {T:Told} (H:qab T):qaf T Tryz.prog 77 c77 :=
 qas H.ty (n77 H) hm (lh:=qnQ) (ct:=c77) (dcd:=fun y=>(y.2.1)) Tryz.func77 (by kernel_rfl) (by rfl) (q1q (l:=[]) (by kernel_rfl) trivial) (by decide) (fun _=>rfl) (fun x r h=>(qrH x.1).trans h)
theorem n58 {T:Told} (H:qab T):qag T Tryz.prog (envL e58):=q5q (l:=e58) ⟨ok16 H,ok77 H,trivial⟩
theorem ok58 {T:Told} (H:qab T):qaf T Tryz.prog 58 c58 :=
 qas H.ty (n58 H) hm (lh:=qnO) (ct:=c58) (dcd:=fun y=>(y.2.1)) Tryz.func58 (by kernel_rfl) (by rfl) (q1q (l:=[]) (by kernel_rfl) trivial) (by decide) (fun _=>rfl) (fun x r h=>(qrE x.1 x.2.1).trans h)
theorem n34 {T:Told} (H:qab T):qag T Tryz.prog (envL e34):=q5q (l:=e34) ⟨ok21 H,ok22 H,ok57 H,ok58 H,trivial⟩
theorem qiB {T:Told} (H:qab T):q12q T Tryz.prog 104 (.loop (q3q 7 (q4q Tryz.f34) .skip)) ⟨qa4,qbq,lp qan K0⟩ :=
 q7q H.ty (n34 H) hm (q1q (l:=[]) (by kernel_rfl) trivial) qiC K0
theorem ok34 {T:Told} (H:qab T):qaf T Tryz.prog 34 c34 :=
 qfm H.ty (n34 H) hm (lh:=qdG) (ct:=c34) (wi:=w34) (dcd:=fun y=>(y.2.1,y.2.2.1)) Tryz.func34 (by kernel_rfl) (by rfl) (q1q (l:=[(.loop (q3q 7 (q4q Tryz.f34) .skip),⟨qa4,qbq,lp qan K0⟩)]) (by kernel_rfl) ⟨qiB H,trivial⟩) (fun _=>rfl) rfl (fun x r h=>(qiD x.1 x.2.1).trans h)
theorem n24 {T:Told} (H:qab T):qag T Tryz.prog (envL e24):=q5q (l:=e24) ⟨ok34 H,trivial⟩
theorem qja {T:Told} (H:qab T):q12q T Tryz.prog 66 (.loop (q3q 8 (q4q Tryz.f24) .skip)) ⟨qbd,qbQ,lp qat K0⟩ :=
 q7q H.ty (n24 H) hm (q1q (l:=[]) (by kernel_rfl) trivial) qjb K0
theorem ok24 {T:Told} (H:qab T):qaf T Tryz.prog 24 c24 :=
 qfm H.ty (n24 H) hm (lh:=qdU) (ct:=c24) (wi:=w24) (dcd:=fun y=>(y.2.1,y.2.2.1)) Tryz.func24 (by kernel_rfl) (by rfl) (q1q (l:=[(.loop (q3q 8 (q4q Tryz.f24) .skip),⟨qbd,qbQ,lp qat K0⟩)]) (by kernel_rfl) ⟨qja H,trivial⟩) (fun _=>rfl) rfl (fun x r h=>(qjc x.1 x.2.1).trans h)
theorem n53 {T:Told} (H:qab T):qag T Tryz.prog (envL e53):=q5q (l:=e53) trivial
theorem ok53 {T:Told} (H:qab T):qaf T Tryz.prog 53 c53 :=
 qas H.ty (n53 H) hm (lh:=qgC) (ct:=c53) (dcd:=fun y=>(y.2.1)) Tryz.func53 (by kernel_rfl) (by rfl) (q1q (l:=[]) (by kernel_rfl) trivial) (by decide) (fun _=>rfl) (fun x r h=>(qjL x.1).trans h)
theorem n25 {T:Told} (H:qab T):qag T Tryz.prog (envL e25):=q5q (l:=e25) ⟨ok53 H,trivial⟩
theorem ql6 {T:Told} (H:qab T):q12q T Tryz.prog 32 (.loop (q3q 3 (q4q Tryz.f25) .skip)) ⟨qcb,qc2,lp qaW K0⟩ :=
 q7q H.ty (n25 H) hm (q1q (l:=[]) (by kernel_rfl) trivial) ql7 K0
theorem ok25 {T:Told} (H:qab T):qaf T Tryz.prog 25 c25 :=
 qas H.ty (n25 H) hm (lh:=qfB) (ct:=c25) (dcd:=fun y=>(y.2.1)) Tryz.func25 (by kernel_rfl) (by rfl) (q1q (l:=[(.loop (q3q 3 (q4q Tryz.f25) .skip),⟨qcb,qc2,lp qaW K0⟩)]) (by kernel_rfl) ⟨ql6 H,trivial⟩) (by decide) (fun _=>rfl) (fun x r h=>(ql8 x.1 x.2.1).trans h)
theorem n26 {T:Told} (H:qab T):qag T Tryz.prog (envL e26):=q5q (l:=e26) trivial
theorem qkW {T:Told} (H:qab T):q12q T Tryz.prog 21 (.loop (q3q 2 (q4q Tryz.f26) .skip)) ⟨qbG,qco,lp qal K0⟩ :=
 q7q H.ty (n26 H) hm (q1q (l:=[]) (by kernel_rfl) trivial) qkX K0
theorem ok26 {T:Told} (H:qab T):qaf T Tryz.prog 26 c26 :=
 qas H.ty (n26 H) hm (lh:=qeG) (ct:=c26) (dcd:=fun y=>(y.2.1)) Tryz.func26 (by kernel_rfl) (by rfl) (q1q (l:=[(.loop (q3q 2 (q4q Tryz.f26) .skip),⟨qbG,qco,lp qal K0⟩)]) (by kernel_rfl) ⟨qkW H,trivial⟩) (by decide) (fun _=>rfl) (fun x r h=>(qkY x.1 x.2.1).trans h)
theorem n9 {T:Told} (H:qab T):qag T Tryz.prog (envL e9):=q5q (l:=e9) ⟨ok7 H,ok14 H,ok19 H,ok24 H,ok25 H,ok26 H,trivial⟩
theorem ok9 {T:Told} (H:qab T):qaf T Tryz.prog 9 c9 :=
 qfm H.ty (n9 H) hm (lh:=qhs) (ct:=c9) (wi:=w9) (dcd:=fun y=>(y.2.1,y.2.2.1,y.2.2.2.1)) Tryz.func9 (by kernel_rfl) (by rfl) (q1q (l:=[]) (by kernel_rfl) trivial) (fun _=>rfl) rfl (fun x r h=>(qlw x.1 x.2.1 x.2.2.1).trans h)
theorem n35 {T:Told} (H:qab T):qag T Tryz.prog (envL e35):=q5q (l:=e35) trivial
theorem ok35 {T:Told} (H:qab T):qaf T Tryz.prog 35 c35 :=
 qfm H.ty (n35 H) hm (lh:=qnH) (ct:=c35) (wi:=w35) (dcd:=fun y=>(y.2.1,y.2.2.1,y.2.2.2.1,y.2.2.2.2.1)) Tryz.func35 (by kernel_rfl) (by rfl) (q1q (l:=[]) (by kernel_rfl) trivial) (fun _=>rfl) rfl (fun x r h=>(qrm ).trans h)
theorem n36 {T:Told} (H:qab T):qag T Tryz.prog (envL e36):=q5q (l:=e36) trivial
theorem ql3 {T:Told} (H:qab T):q12q T Tryz.prog 13 (.loop (q3q 3 (q4q Tryz.f36) .skip)) ⟨qca,qcZ,lp qaV K0⟩ :=
 q7q H.ty (n36 H) hm (q1q (l:=[]) (by kernel_rfl) trivial) ql4 K0
theorem ok36 {T:Told} (H:qab T):qaf T Tryz.prog 36 c36 :=
 qas H.ty (n36 H) hm (lh:=qfA) (ct:=c36) (dcd:=fun y=>(y.2.1)) Tryz.func36 (by kernel_rfl) (by rfl) (q1q (l:=[(.loop (q3q 3 (q4q Tryz.f36) .skip),⟨qca,qcZ,lp qaV K0⟩)]) (by kernel_rfl) ⟨ql3 H,trivial⟩) (by decide) (fun _=>rfl) (fun x r h=>(ql5 x.1).trans h)
theorem n37 {T:Told} (H:qab T):qag T Tryz.prog (envL e37):=q5q (l:=e37) trivial
theorem qmP {T:Told} (H:qab T):q12q T Tryz.prog 16 (.loop (q3q 2 (q4q Tryz.f37) .skip)) ⟨qcv,qdk,lp qa0 K0⟩ :=
 q7q H.ty (n37 H) hm (q1q (l:=[]) (by kernel_rfl) trivial) qmQ K0
theorem ok37 {T:Told} (H:qab T):qaf T Tryz.prog 37 c37 :=
 qas H.ty (n37 H) hm (lh:=qgs) (ct:=c37) (dcd:=fun y=>(y.2.1)) Tryz.func37 (by kernel_rfl) (by rfl) (q1q (l:=[(.loop (q3q 2 (q4q Tryz.f37) .skip),⟨qcv,qdk,lp qa0 K0⟩)]) (by kernel_rfl) ⟨qmP H,trivial⟩) (by decide) (fun _=>rfl) (fun x r h=>(qmR x.1 x.2.1).trans h)
theorem n38 {T:Told} (H:qab T):qag T Tryz.prog (envL e38):=q5q (l:=e38) ⟨ok37 H,trivial⟩
theorem qlx {T:Told} (H:qab T):q12q T Tryz.prog 18 (.loop (q3q 3 (q4q Tryz.f38) .skip)) ⟨qb1,qcI,lp qaO K0⟩ :=
 q7q H.ty (n38 H) hm (q1q (l:=[]) (by kernel_rfl) trivial) qly K0
theorem ok38 {T:Told} (H:qab T):qaf T Tryz.prog 38 c38 :=
 qas H.ty (n38 H) hm (lh:=qe5) (ct:=c38) (dcd:=fun y=>(y.2.1)) Tryz.func38 (by kernel_rfl) (by rfl) (q1q (l:=[(.loop (q3q 3 (q4q Tryz.f38) .skip),⟨qb1,qcI,lp qaO K0⟩)]) (by kernel_rfl) ⟨qlx H,trivial⟩) (by decide) (fun _=>rfl) (fun x r h=>(qlz x.1 x.2.1).trans h)
theorem n106 {T:Told} (H:qab T):qag T Tryz.prog (envL e106):=q5q (l:=e106) ⟨ok43 H,ok52 H,trivial⟩
theorem qm3 {T:Told} (H:qab T):q12q T Tryz.prog 21 (.loop (q3q 4 (q4q Tryz.f106) .skip)) ⟨qcP,qdu,lp qdt K0⟩ :=
 q7q H.ty (n106 H) hm (q1q (l:=[]) (by kernel_rfl) trivial) qm4 K0
theorem qAW {T:Told} (H:qab T):qaf T Tryz.prog 106 c106 :=
 qas H.ty (n106 H) hm (lh:=qgF) (ct:=c106) (dcd:=fun y=>(y.2.1)) Tryz.func106 (by kernel_rfl) (by rfl) (q1q (l:=[(.loop (q3q 4 (q4q Tryz.f106) .skip),⟨qcP,qdu,lp qdt K0⟩)]) (by kernel_rfl) ⟨qm3 H,trivial⟩) (by decide) (fun _=>rfl) (fun x r h=>(qm5 ).trans h)
theorem n105 {T:Told} (H:qab T):qag T Tryz.prog (envL e105):=q5q (l:=e105) ⟨qAW H,trivial⟩
theorem qAX {T:Told} (H:qab T):qaf T Tryz.prog 105 c105 :=
 qfm H.ty (n105 H) hm (lh:=qhm) (ct:=c105) (wi:=w105) (dcd:=fun y=>(y.2.1,y.2.2.1,y.2.2.2.1,y.2.2.2.2.1)) Tryz.func105 (by kernel_rfl) (by rfl) (q1q (l:=[]) (by kernel_rfl) trivial) (fun _=>rfl) rfl (fun x r h=>(qlc x.1 x.2.1 x.2.2.1 x.2.2.2.1).trans h)
theorem ok78 {T:Told} (H:qab T):qaf T Tryz.prog 78 c78:=qzO (qAX H)
theorem n59 {T:Told} (H:qab T):qag T Tryz.prog (envL e59):=q5q (l:=e59) ⟨ok43 H,ok51 H,ok78 H,trivial⟩
theorem ok59 {T:Told} (H:qab T):qaf T Tryz.prog 59 c59 :=
 qfm H.ty (n59 H) hm (lh:=qfW) (ct:=c59) (wi:=w59) (dcd:=fun y=>(y.2.1,y.2.2.1,y.2.2.2.1,y.2.2.2.2.1,y.2.2.2.2.2.1)) Tryz.func59 (by kernel_rfl) (by rfl) (q1q (l:=[]) (by kernel_rfl) trivial) (fun _=>rfl) rfl (fun x r h=>(qiV x.1 x.2.1 x.2.2.1 x.2.2.2.1 x.2.2.2.2.1 x.2.2.2.2.2.1 x.2.2.2.2.2.2.1).trans h)
theorem n39 {T:Told} (H:qab T):qag T Tryz.prog (envL e39):=q5q (l:=e39) ⟨ok59 H,trivial⟩
theorem ok39 {T:Told} (H:qab T):qaf T Tryz.prog 39 c39 :=
 qfm H.ty (n39 H) hm (lh:=qgV) (ct:=c39) (wi:=w39) (dcd:=fun y=>(y.2.1,y.2.2.1,y.2.2.2.1,y.2.2.2.2.1,y.2.2.2.2.2.1,y.2.2.2.2.2.2.1)) Tryz.func39 (by kernel_rfl) (by rfl) (q1q (l:=[]) (by kernel_rfl) trivial) (fun _=>rfl) rfl (fun x r h=>(qjP x.1 x.2.1 x.2.2.1 x.2.2.2.1 x.2.2.2.2.1 x.2.2.2.2.2.1).trans h)
theorem n13 {T:Told} (H:qab T):qag T Tryz.prog (envL e13):=q5q (l:=e13) ⟨ok8 H,ok15 H,ok16 H,ok21 H,ok35 H,ok36 H,ok37 H,ok38 H,ok39 H,trivial⟩
theorem qjo {T:Told} (H:qab T):q12q T Tryz.prog 71 (.loop (q3q 9 (q4q Tryz.f13) .skip)) ⟨qbe,qbU,lp qau K0⟩ :=
 q7q H.ty (n13 H) hm (q1q (l:=[]) (by kernel_rfl) trivial) qjq K0
theorem qjp {T:Told} (H:qab T):q12q T Tryz.prog 71 (.loop (q3q 5 (q4q Tryz.f13) .skip)) ⟨qbf,qbV,lp qaL K0⟩ :=
 q7q H.ty (n13 H) hm (q1q (l:=[(.loop (q3q 9 (q4q Tryz.f13) .skip),⟨qbe,qbU,lp qau K0⟩)]) (by kernel_rfl) ⟨qjo H,trivial⟩) qjr K0
theorem ok13 {T:Told} (H:qab T):qaf T Tryz.prog 13 c13 :=
 qas H.ty (n13 H) hm (lh:=qcM) (ct:=c13) (dcd:=fun y=>(y.2.1)) Tryz.func13 (by kernel_rfl) (by rfl) (q1q (l:=[(.loop (q3q 5 (q4q Tryz.f13) .skip),⟨qbf,qbV,lp qaL K0⟩)]) (by kernel_rfl) ⟨qjp H,trivial⟩) (by decide) (fun _=>rfl) (fun x r h=>(qjs x.1).trans h)
theorem n92 {T:Told} (H:qab T):qag T Tryz.prog (envL e92):=q5q (l:=e92) trivial
theorem qkI {T:Told} (H:qab T):q12q T Tryz.prog 14 (.loop (q3q 2 (q4q Tryz.f92) .skip)) ⟨qbB,qcj,lp qaT K0⟩ :=
 q7q H.ty (n92 H) hm (q1q (l:=[]) (by kernel_rfl) trivial) qkJ K0
theorem ok92 {T:Told} (H:qab T):qaf T Tryz.prog 92 c92 :=
 qas H.ty (n92 H) hm (lh:=qeC) (ct:=c92) (dcd:=fun y=>(y.2.1)) Tryz.func92 (by kernel_rfl) (by rfl) (q1q (l:=[(.loop (q3q 2 (q4q Tryz.f92) .skip),⟨qbB,qcj,lp qaT K0⟩)]) (by kernel_rfl) ⟨qkI H,trivial⟩) (by decide) (fun _=>rfl) (fun x r h=>(qkK x.1).trans h)
theorem n112 {T:Told} (H:qab T):qag T Tryz.prog (envL e112):=q5q (l:=e112) trivial
theorem qAf {T:Told} (H:qab T):qaf T Tryz.prog 112 c112 :=
 qas H.ty (n112 H) hm (lh:=qhg) (ct:=c112) (dcd:=fun y=>(y.2.1)) Tryz.func112 (by kernel_rfl) (by rfl) (q1q (l:=[]) (by kernel_rfl) trivial) (by decide) (fun _=>rfl) (fun x r h=>(qkC x.1 x.2.1).trans h)
theorem n96 {T:Told} (H:qab T):qag T Tryz.prog (envL e96):=q5q (l:=e96) ⟨qAf H,trivial⟩
theorem qln {T:Told} (H:qab T):q12q T Tryz.prog 41 (.loop (q3q 4 (q4q Tryz.f96) .skip)) ⟨qbY,qcD,lp qaC K0⟩ :=
 q7q H.ty (n96 H) hm (q1q (l:=[]) (by kernel_rfl) trivial) qlo K0
theorem ok96 {T:Told} (H:qab T):qaf T Tryz.prog 96 c96 :=
 qas H.ty (n96 H) hm (lh:=qe3) (ct:=c96) (dcd:=fun y=>(y.2.1)) Tryz.func96 (by kernel_rfl) (by rfl) (q1q (l:=[(.loop (q3q 4 (q4q Tryz.f96) .skip),⟨qbY,qcD,lp qaC K0⟩)]) (by kernel_rfl) ⟨qln H,trivial⟩) (by decide) (fun _=>rfl) (fun x r h=>(qlp x.1 x.2.1).trans h)
theorem n113 {T:Told} (H:qab T):qag T Tryz.prog (envL e113):=q5q (l:=e113) trivial
theorem qlk {T:Told} (H:qab T):q12q T Tryz.prog 21 (.loop (q3q 2 (q4q Tryz.f113) .skip)) ⟨qbX,qcC,lp qaN K0⟩ :=
 q7q H.ty (n113 H) hm (q1q (l:=[]) (by kernel_rfl) trivial) qll K0
theorem qzk {T:Told} (H:qab T):qaf T Tryz.prog 113 c113 :=
 qas H.ty (n113 H) hm (lh:=qe2) (ct:=c113) (dcd:=fun y=>(y.2.1)) Tryz.func113 (by kernel_rfl) (by rfl) (q1q (l:=[(.loop (q3q 2 (q4q Tryz.f113) .skip),⟨qbX,qcC,lp qaN K0⟩)]) (by kernel_rfl) ⟨qlk H,trivial⟩) (by decide) (fun _=>rfl) (fun x r h=>(qlm x.1).trans h)
theorem n97 {T:Told} (H:qab T):qag T Tryz.prog (envL e97):=q5q (l:=e97) ⟨qzk H,trivial⟩
theorem qkD {T:Told} (H:qab T):q12q T Tryz.prog 63 (.loop (q3q 7 (q4q Tryz.f97) .skip)) ⟨qbz,qch,lp qaI K0⟩ :=
 q7q H.ty (n97 H) hm (q1q (l:=[]) (by kernel_rfl) trivial) qkF K0
theorem qkE {T:Told} (H:qab T):q12q T Tryz.prog 63 (.loop (q3q 3 (q4q Tryz.f97) .skip)) ⟨qbA,qci,lp qaS K0⟩ :=
 q7q H.ty (n97 H) hm (q1q (l:=[(.loop (q3q 7 (q4q Tryz.f97) .skip),⟨qbz,qch,lp qaI K0⟩)]) (by kernel_rfl) ⟨qkD H,trivial⟩) qkG K0
theorem ok97 {T:Told} (H:qab T):qaf T Tryz.prog 97 c97 :=
 qas H.ty (n97 H) hm (lh:=qdi) (ct:=c97) (dcd:=fun y=>(y.2.1)) Tryz.func97 (by kernel_rfl) (by rfl) (q1q (l:=[(.loop (q3q 3 (q4q Tryz.f97) .skip),⟨qbA,qci,lp qaS K0⟩)]) (by kernel_rfl) ⟨qkE H,trivial⟩) (by decide) (fun _=>rfl) (fun x r h=>(qkH x.1 x.2.1).trans h)
theorem n69 {T:Told} (H:qab T):qag T Tryz.prog (envL e69):=q5q (l:=e69) ⟨ok92 H,ok96 H,ok97 H,trivial⟩
theorem qlt {T:Told} (H:qab T):q12q T Tryz.prog 26 (.loop (q3q 4 (q4q Tryz.f69) .skip)) ⟨qb0,qcF,lp qaZ K0⟩ :=
 q7q H.ty (n69 H) hm (q1q (l:=[]) (by kernel_rfl) trivial) qlu K0
theorem ok69 {T:Told} (H:qab T):qaf T Tryz.prog 69 c69 :=
 qas H.ty (n69 H) hm (lh:=qe4) (ct:=c69) (dcd:=fun y=>(y.2.1)) Tryz.func69 (by kernel_rfl) (by rfl) (q1q (l:=[(.loop (q3q 4 (q4q Tryz.f69) .skip),⟨qb0,qcF,lp qaZ K0⟩)]) (by kernel_rfl) ⟨qlt H,trivial⟩) (by decide) (fun _=>rfl) (fun x r h=>(qlv x.1).trans h)
theorem n99 {T:Told} (H:qab T):qag T Tryz.prog (envL e99):=q5q (l:=e99) trivial
theorem ok99 {T:Told} (H:qab T):qaf T Tryz.prog 99 c99 :=
 qas H.ty (n99 H) hm (lh:=qhq) (ct:=c99) (dcd:=fun y=>(y.2.1)) Tryz.func99 (by kernel_rfl) (by rfl) (q1q (l:=[]) (by kernel_rfl) trivial) (by decide) (fun _=>rfl) (fun x r h=>(qli x.1 x.2.1).trans h)
theorem n98 {T:Told} (H:qab T):qag T Tryz.prog (envL e98):=q5q (l:=e98) ⟨ok92 H,ok96 H,ok99 H,trivial⟩
theorem ok98 {T:Told} (H:qab T):qaf T Tryz.prog 98 c98 :=
 qas H.ty (n98 H) hm (lh:=qhe) (ct:=c98) (dcd:=fun y=>(y.2.1)) Tryz.func98 (by kernel_rfl) (by rfl) (q1q (l:=[]) (by kernel_rfl) trivial) (by decide) (fun _=>rfl) (fun x r h=>(qkA x.1).trans h)
theorem n70 {T:Told} (H:qab T):qag T Tryz.prog (envL e70):=q5q (l:=e70) ⟨ok92 H,ok98 H,trivial⟩
theorem ok70 {T:Told} (H:qab T):qaf T Tryz.prog 70 c70 :=
 qas H.ty (n70 H) hm (lh:=qha) (ct:=c70) (dcd:=fun y=>(y.2.1)) Tryz.func70 (by kernel_rfl) (by rfl) (q1q (l:=[]) (by kernel_rfl) trivial) (by decide) (fun _=>rfl) (fun x r h=>(qkw x.1 x.2.1).trans h)
theorem n71 {T:Told} (H:qab T):qag T Tryz.prog (envL e71):=q5q (l:=e71) ⟨ok69 H,ok99 H,trivial⟩
theorem ok71 {T:Told} (H:qab T):qaf T Tryz.prog 71 c71 :=
 qas H.ty (n71 H) hm (lh:=qhr) (ct:=c71) (dcd:=fun y=>(y.2.1)) Tryz.func71 (by kernel_rfl) (by rfl) (q1q (l:=[]) (by kernel_rfl) trivial) (by decide) (fun _=>rfl) (fun x r h=>(qlj x.1).trans h)
theorem n47 {T:Told} (H:qab T):qag T Tryz.prog (envL e47):=q5q (l:=e47) ⟨ok69 H,ok70 H,ok71 H,trivial⟩
theorem ok47 {T:Told} (H:qab T):qaf T Tryz.prog 47 c47 :=
 qas H.ty (n47 H) hm (lh:=qhp) (ct:=c47) (dcd:=fun y=>(y.2.1)) Tryz.func47 (by kernel_rfl) (by rfl) (q1q (l:=[]) (by kernel_rfl) trivial) (by decide) (fun _=>rfl) (fun x r h=>(qlh x.1).trans h)
theorem n89 {T:Told} (H:qab T):qag T Tryz.prog (envL e89):=q5q (l:=e89) trivial
theorem qkL {T:Told} (H:qab T):q12q T Tryz.prog 27 (.loop (q3q 2 (q4q Tryz.f89) .skip)) ⟨qbC,qck,lp qaJ K0⟩ :=
 q7q H.ty (n89 H) hm (q1q (l:=[]) (by kernel_rfl) trivial) qkM K0
theorem ok89 {T:Told} (H:qab T):qaf T Tryz.prog 89 c89 :=
 qas H.ty (n89 H) hm (lh:=qeD) (ct:=c89) (dcd:=fun y=>(y.2.1)) Tryz.func89 (by kernel_rfl) (by rfl) (q1q (l:=[(.loop (q3q 2 (q4q Tryz.f89) .skip),⟨qbC,qck,lp qaJ K0⟩)]) (by kernel_rfl) ⟨qkL H,trivial⟩) (by decide) (fun _=>rfl) (fun x r h=>(qkN x.1).trans h)
theorem n91 {T:Told} (H:qab T):qag T Tryz.prog (envL e91):=q5q (l:=e91) trivial
theorem qkQ {T:Told} (H:qab T):q12q T Tryz.prog 41 (.loop (q3q 6 (q4q Tryz.f91) .skip)) ⟨qbE,qcm,lp qaw K0⟩ :=
 q7q H.ty (n91 H) hm (q1q (l:=[]) (by kernel_rfl) trivial) qkR K0
theorem ok91 {T:Told} (H:qab T):qaf T Tryz.prog 91 c91 :=
 qas H.ty (n91 H) hm (lh:=qeE) (ct:=c91) (dcd:=fun y=>(y.2.1)) Tryz.func91 (by kernel_rfl) (by rfl) (q1q (l:=[(.loop (q3q 6 (q4q Tryz.f91) .skip),⟨qbE,qcm,lp qaw K0⟩)]) (by kernel_rfl) ⟨qkQ H,trivial⟩) (by decide) (fun _=>rfl) (fun x r h=>(qkS x.1 x.2.1).trans h)
theorem n122 {T:Told} (H:qab T):qag T Tryz.prog (envL e122):=q5q (l:=e122) ⟨qAf H,qzk H,trivial⟩
theorem qkT {T:Told} (H:qab T):q12q T Tryz.prog 35 (.loop (q3q 4 (q4q Tryz.f122) .skip)) ⟨qbF,qcn,lp qaK K0⟩ :=
 q7q H.ty (n122 H) hm (q1q (l:=[]) (by kernel_rfl) trivial) qkU K0
theorem qAM {T:Told} (H:qab T):qaf T Tryz.prog 122 c122 :=
 qas H.ty (n122 H) hm (lh:=qeF) (ct:=c122) (dcd:=fun y=>(y.2.1)) Tryz.func122 (by kernel_rfl) (by rfl) (q1q (l:=[(.loop (q3q 4 (q4q Tryz.f122) .skip),⟨qbF,qcn,lp qaK K0⟩)]) (by kernel_rfl) ⟨qkT H,trivial⟩) (by decide) (fun _=>rfl) (fun x r h=>(qkV x.1 x.2.1).trans h)
theorem n111 {T:Told} (H:qab T):qag T Tryz.prog (envL e111):=q5q (l:=e111) ⟨ok91 H,ok92 H,ok97 H,qzk H,qAM H,trivial⟩
theorem qkO {T:Told} (H:qab T):q12q T Tryz.prog 65 (.loop (q3q 12 (q4q Tryz.f111) .skip)) ⟨qbD,qcl,lp qav K0⟩ :=
 q7q H.ty (n111 H) hm (q1q (l:=[]) (by kernel_rfl) trivial) qkP K0
theorem qlq {T:Told} (H:qab T):q12q T Tryz.prog 65 (.loop (q3q 4 (q4q Tryz.f111) .skip)) ⟨qbZ,qcE,lp qaY K0⟩ :=
 q7q H.ty (n111 H) hm (q1q (l:=[(.loop (q3q 12 (q4q Tryz.f111) .skip),⟨qbD,qcl,lp qav K0⟩)]) (by kernel_rfl) ⟨qkO H,trivial⟩) qlr K0
theorem qAS {T:Told} (H:qab T):qaf T Tryz.prog 111 c111 :=
 qas H.ty (n111 H) hm (lh:=qdq) (ct:=c111) (dcd:=fun y=>(y.2.1,y.2.2.1)) Tryz.func111 (by kernel_rfl) (by rfl) (q1q (l:=[(.loop (q3q 4 (q4q Tryz.f111) .skip),⟨qbZ,qcE,lp qaY K0⟩)]) (by kernel_rfl) ⟨qlq H,trivial⟩) (by decide) (fun _=>rfl) (fun x r h=>(qls x.1 x.2.1).trans h)
theorem n90 {T:Told} (H:qab T):qag T Tryz.prog (envL e90):=q5q (l:=e90) ⟨qAS H,trivial⟩
theorem ql0 {T:Told} (H:qab T):q12q T Tryz.prog 19 (.loop (q3q 1 (q4q Tryz.f90) .skip)) ⟨qb9,qcY,lp qa8 K0⟩ :=
 q7q H.ty (n90 H) hm (q1q (l:=[]) (by kernel_rfl) trivial) ql1 K0
theorem ok90 {T:Told} (H:qab T):qaf T Tryz.prog 90 c90 :=
 qas H.ty (n90 H) hm (lh:=qfz) (ct:=c90) (dcd:=fun y=>(y.2.1)) Tryz.func90 (by kernel_rfl) (by rfl) (q1q (l:=[(.loop (q3q 1 (q4q Tryz.f90) .skip),⟨qb9,qcY,lp qa8 K0⟩)]) (by kernel_rfl) ⟨ql0 H,trivial⟩) (by decide) (fun _=>rfl) (fun x r h=>(ql2 x.1 x.2.1).trans h)
theorem n67 {T:Told} (H:qab T):qag T Tryz.prog (envL e67):=q5q (l:=e67) ⟨ok69 H,ok89 H,ok90 H,ok91 H,ok92 H,trivial⟩
theorem ok67 {T:Told} (H:qab T):qaf T Tryz.prog 67 c67 :=
 qas H.ty (n67 H) hm (lh:=qhb) (ct:=c67) (dcd:=fun y=>(y.2.1)) Tryz.func67 (by kernel_rfl) (by rfl) (q1q (l:=[]) (by kernel_rfl) trivial) (by decide) (fun _=>rfl) (fun x r h=>(qkx x.1).trans h)
theorem n93 {T:Told} (H:qab T):qag T Tryz.prog (envL e93):=q5q (l:=e93) ⟨ok91 H,trivial⟩
theorem ok93 {T:Told} (H:qab T):qaf T Tryz.prog 93 c93 :=
 qas H.ty (n93 H) hm (lh:=qhf) (ct:=c93) (dcd:=fun y=>(y.2.1)) Tryz.func93 (by kernel_rfl) (by rfl) (q1q (l:=[]) (by kernel_rfl) trivial) (by decide) (fun _=>rfl) (fun x r h=>(qkB x.1 x.2.1).trans h)
theorem n94 {T:Told} (H:qab T):qag T Tryz.prog (envL e94):=q5q (l:=e94) ⟨ok97 H,ok99 H,trivial⟩
theorem ok94 {T:Told} (H:qab T):qaf T Tryz.prog 94 c94 :=
 qas H.ty (n94 H) hm (lh:=qhd) (ct:=c94) (dcd:=fun y=>(y.2.1)) Tryz.func94 (by kernel_rfl) (by rfl) (q1q (l:=[]) (by kernel_rfl) trivial) (by decide) (fun _=>rfl) (fun x r h=>(qkz x.1 x.2.1).trans h)
theorem n95 {T:Told} (H:qab T):qag T Tryz.prog (envL e95):=q5q (l:=e95) ⟨ok99 H,trivial⟩
theorem ok95 {T:Told} (H:qab T):qaf T Tryz.prog 95 c95 :=
 qas H.ty (n95 H) hm (lh:=qh4) (ct:=c95) (dcd:=fun y=>(y.2.1)) Tryz.func95 (by kernel_rfl) (by rfl) (q1q (l:=[]) (by kernel_rfl) trivial) (by decide) (fun _=>rfl) (fun x r h=>(qlZ x.1).trans h)
theorem n68 {T:Told} (H:qab T):qag T Tryz.prog (envL e68):=q5q (l:=e68) ⟨ok93 H,ok94 H,ok95 H,trivial⟩
theorem ok68 {T:Told} (H:qab T):qaf T Tryz.prog 68 c68 :=
 qas H.ty (n68 H) hm (lh:=qhc) (ct:=c68) (dcd:=fun y=>(y.2.1)) Tryz.func68 (by kernel_rfl) (by rfl) (q1q (l:=[]) (by kernel_rfl) trivial) (by decide) (fun _=>rfl) (fun x r h=>(qky x.1 x.2.1).trans h)
theorem n46 {T:Told} (H:qab T):qag T Tryz.prog (envL e46):=q5q (l:=e46) ⟨ok47 H,ok67 H,ok68 H,trivial⟩
theorem ok46 {T:Told} (H:qab T):qaf T Tryz.prog 46 c46 :=
 qas H.ty (n46 H) hm (lh:=qib) (ct:=c46) (dcd:=fun y=>(y.2.1)) Tryz.func46 (by kernel_rfl) (by rfl) (q1q (l:=[]) (by kernel_rfl) trivial) (by decide) (fun _=>rfl) (fun x r h=>(qmO x.1 x.2.1).trans h)
theorem n17 {T:Told} (H:qab T):qag T Tryz.prog (envL e17):=q5q (l:=e17) ⟨ok46 H,ok47 H,trivial⟩
theorem ok17 {T:Told} (H:qab T):qaf T Tryz.prog 17 c17 :=
 qas H.ty (n17 H) hm (lh:=qia) (ct:=c17) (dcd:=fun y=>(y.2.1)) Tryz.func17 (by kernel_rfl) (by rfl) (q1q (l:=[]) (by kernel_rfl) trivial) (by decide) (fun _=>rfl) (fun x r h=>(qmN x.1 x.2.1).trans h)
theorem n27 {T:Told} (H:qab T):qag T Tryz.prog (envL e27):=q5q (l:=e27) trivial
theorem qjE {T:Told} (H:qab T):q12q T Tryz.prog 32 (.loop (q3q 5 (q4q Tryz.f27) .skip)) ⟨qbj,qb4,lp qaz K0⟩ :=
 q7q H.ty (n27 H) hm (q1q (l:=[]) (by kernel_rfl) trivial) qjF K0
theorem ok27 {T:Told} (H:qab T):qaf T Tryz.prog 27 c27 :=
 qfm H.ty (n27 H) hm (lh:=qeb) (ct:=c27) (wi:=w27) (dcd:=fun y=>(y.2.1,y.2.2.1)) Tryz.func27 (by kernel_rfl) (by rfl) (q1q (l:=[(.loop (q3q 5 (q4q Tryz.f27) .skip),⟨qbj,qb4,lp qaz K0⟩)]) (by kernel_rfl) ⟨qjE H,trivial⟩) (fun _=>rfl) rfl (fun x r h=>(qjG x.1).trans h)
theorem n28 {T:Told} (H:qab T):qag T Tryz.prog (envL e28):=q5q (l:=e28) trivial
theorem ok28 {T:Told} (H:qab T):qaf T Tryz.prog 28 c28 :=
 qfm H.ty (n28 H) hm (lh:=qho) (ct:=c28) (wi:=w28) (dcd:=fun y=>(y.2.1,y.2.2.1)) Tryz.func28 (by kernel_rfl) (by rfl) (q1q (l:=[]) (by kernel_rfl) trivial) (fun _=>rfl) rfl (fun x r h=>(qlf x.1).trans h)
theorem n29 {T:Told} (H:qab T):qag T Tryz.prog (envL e29):=q5q (l:=e29) ⟨ok17 H,trivial⟩
theorem qlW {T:Told} (H:qab T):q12q T Tryz.prog 27 (.loop (q3q 4 (q4q Tryz.f29) .skip)) ⟨qb8,qcX,lp qaU K0⟩ :=
 q7q H.ty (n29 H) hm (q1q (l:=[]) (by kernel_rfl) trivial) qlX K0
theorem ok29 {T:Told} (H:qab T):qaf T Tryz.prog 29 c29 :=
 qas H.ty (n29 H) hm (lh:=qfy) (ct:=c29) (dcd:=fun y=>(y.2.1)) Tryz.func29 (by kernel_rfl) (by rfl) (q1q (l:=[(.loop (q3q 4 (q4q Tryz.f29) .skip),⟨qb8,qcX,lp qaU K0⟩)]) (by kernel_rfl) ⟨qlW H,trivial⟩) (by decide) (fun _=>rfl) (fun x r h=>(qlY x.1 x.2.1).trans h)
theorem n30 {T:Told} (H:qab T):qag T Tryz.prog (envL e30):=q5q (l:=e30) trivial
theorem qiE {T:Told} (H:qab T):q12q T Tryz.prog 24 (.loop (q3q 5 (q4q Tryz.f30) .skip)) ⟨qa5,qbs,lp qap K0⟩ :=
 q7q H.ty (n30 H) hm (q1q (l:=[]) (by kernel_rfl) trivial) qiF K0
theorem ok30 {T:Told} (H:qab T):qaf T Tryz.prog 30 c30 :=
 qfm H.ty (n30 H) hm (lh:=qdH) (ct:=c30) (wi:=w30) (dcd:=fun y=>(y.2.1,y.2.2.1)) Tryz.func30 (by kernel_rfl) (by rfl) (q1q (l:=[(.loop (q3q 5 (q4q Tryz.f30) .skip),⟨qa5,qbs,lp qap K0⟩)]) (by kernel_rfl) ⟨qiE H,trivial⟩) (fun _=>rfl) rfl (fun x r h=>(qiG x.1).trans h)
theorem n10 {T:Told} (H:qab T):qag T Tryz.prog (envL e10):=q5q (l:=e10) ⟨ok13 H,ok17 H,ok18 H,ok27 H,ok28 H,ok29 H,ok30 H,trivial⟩
theorem qjI {T:Told} (H:qab T):q12q T Tryz.prog 85 (.loop (q3q 5 (q4q Tryz.f10) .skip)) ⟨qbk,qb6,lp qaA K0⟩ :=
 q7q H.ty (n10 H) hm (q1q (l:=[]) (by kernel_rfl) trivial) qjJ K0
theorem ok10 {T:Told} (H:qab T):qaf T Tryz.prog 10 c10 :=
 qfm H.ty (n10 H) hm (lh:=qec) (ct:=c10) (wi:=w10) (dcd:=fun y=>(y.2.1,y.2.2.1)) Tryz.func10 (by kernel_rfl) (by rfl) (q1q (l:=[(.loop (q3q 5 (q4q Tryz.f10) .skip),⟨qbk,qb6,lp qaA K0⟩)]) (by kernel_rfl) ⟨qjI H,trivial⟩) (fun _=>rfl) rfl (fun x r h=>(qjK x.1 x.2.1).trans h)
theorem n123 {T:Told} (H:qab T):qag T Tryz.prog (envL e123):=q5q (l:=e123) trivial
theorem qqS {T:Told} (H:qab T):q12q T Tryz.prog 72 (.loop (q3q 9 (q4q Tryz.f123) .skip)) ⟨qeR,qgc,lp qga K0⟩ :=
 q7q H.ty (n123 H) hm (q1q (l:=[]) (by kernel_rfl) trivial) qqU K0
theorem qqT {T:Told} (H:qab T):q12q T Tryz.prog 72 (.loop (q3q 4 (q4q Tryz.f123) .skip)) ⟨qeS,qgd,lp qgb K0⟩ :=
 q7q H.ty (n123 H) hm (q1q (l:=[(.loop (q3q 9 (q4q Tryz.f123) .skip),⟨qeR,qgc,lp qga K0⟩)]) (by kernel_rfl) ⟨qqS H,trivial⟩) qqV K0
theorem qAL {T:Told} (H:qab T):qaf T Tryz.prog 123 c123 :=
 qas H.ty (n123 H) hm (lh:=qhv) (ct:=c123) (dcd:=fun y=>(y.2.1)) Tryz.func123 (by kernel_rfl) (by rfl) (q1q (l:=[(.loop (q3q 4 (q4q Tryz.f123) .skip),⟨qeS,qgd,lp qgb K0⟩)]) (by kernel_rfl) ⟨qqT H,trivial⟩) (by decide) (fun _=>rfl) (fun x r h=>(qqW x.1).trans h)
theorem n124 {T:Told} (H:qab T):qag T Tryz.prog (envL e124):=q5q (l:=e124) trivial
theorem qow {T:Told} (H:qab T):q12q T Tryz.prog 52 (.loop (q3q 2 (q4q Tryz.f124) .skip)) ⟨qdy,qeo,lp qen K0⟩ :=
 q7q H.ty (n124 H) hm (q1q (l:=[]) (by kernel_rfl) trivial) qox K0
theorem qAK {T:Told} (H:qab T):qaf T Tryz.prog 124 c124 :=
 qas H.ty (n124 H) hm (lh:=qhN) (ct:=c124) (dcd:=fun y=>(y.2.1,y.2.2.1)) Tryz.func124 (by kernel_rfl) (by rfl) (q1q (l:=[(.loop (q3q 2 (q4q Tryz.f124) .skip),⟨qdy,qeo,lp qen K0⟩)]) (by kernel_rfl) ⟨qow H,trivial⟩) (by decide) (fun _=>rfl) (fun x r h=>(qoy x.1 x.2.1).trans h)
theorem n125 {T:Told} (H:qab T):qag T Tryz.prog (envL e125):=q5q (l:=e125) trivial
theorem qpu {T:Told} (H:qab T):q12q T Tryz.prog 103 (.loop (q3q 3 (q4q Tryz.f125) .skip)) ⟨qd6,qe7,lp qe6 K0⟩ :=
 q7q H.ty (n125 H) hm (q1q (l:=[]) (by kernel_rfl) trivial) qpv K0
theorem qos {T:Told} (H:qab T):q12q T Tryz.prog 103 (.loop (q3q 10 (q4q Tryz.f125) .skip)) ⟨qdx,qem,lp qej K0⟩ :=
 q7q H.ty (n125 H) hm (q1q (l:=[]) (by kernel_rfl) trivial) qov K0
theorem qor {T:Told} (H:qab T):q12q T Tryz.prog 103 (.loop (q3q 17 (q4q Tryz.f125) .skip)) ⟨qdw,qel,lp qei K0⟩ :=
 q7q H.ty (n125 H) hm (q1q (l:=[]) (by kernel_rfl) trivial) qou K0
theorem qoq {T:Told} (H:qab T):q12q T Tryz.prog 103 (.loop (q3q 25 (q4q Tryz.f125) .skip)) ⟨qdv,qek,lp qeh K0⟩ :=
 q7q H.ty (n125 H) hm (q1q (l:=[]) (by kernel_rfl) trivial) qot K0
theorem qAJ {T:Told} (H:qab T):qaf T Tryz.prog 125 c125 :=
 qas H.ty (n125 H) hm (lh:=qd5) (ct:=c125) (dcd:=fun y=>(y.2.1,y.2.2.1)) Tryz.func125 (by kernel_rfl) (by rfl) (q1q (l:=[(.loop (q3q 3 (q4q Tryz.f125) .skip),⟨qd6,qe7,lp qe6 K0⟩),(.loop (q3q 10 (q4q Tryz.f125) .skip),⟨qdx,qem,lp qej K0⟩),(.loop (q3q 17 (q4q Tryz.f125) .skip),⟨qdw,qel,lp qei K0⟩),(.loop (q3q 25 (q4q Tryz.f125) .skip),⟨qdv,qek,lp qeh K0⟩)]) (by kernel_rfl) ⟨qpu H,qos H,qor H,qoq H,trivial⟩) (by decide) (fun _=>rfl) (fun x r h=>(qpw x.1).trans h)
theorem n126 {T:Told} (H:qab T):qag T Tryz.prog (envL e126):=q5q (l:=e126) ⟨ok19 H,trivial⟩
theorem qoz {T:Told} (H:qab T):q12q T Tryz.prog 19 (.loop (q3q 2 (q4q Tryz.f126) .skip)) ⟨qdz,qeq,lp qep K0⟩ :=
 q7q H.ty (n126 H) hm (q1q (l:=[]) (by kernel_rfl) trivial) qoA K0
theorem qAI {T:Told} (H:qab T):qaf T Tryz.prog 126 c126 :=
 qas H.ty (n126 H) hm (lh:=qhO) (ct:=c126) (dcd:=fun y=>(y.2.1,y.2.2.1)) Tryz.func126 (by kernel_rfl) (by rfl) (q1q (l:=[(.loop (q3q 2 (q4q Tryz.f126) .skip),⟨qdz,qeq,lp qep K0⟩)]) (by kernel_rfl) ⟨qoz H,trivial⟩) (by decide) (fun _=>rfl) (fun x r h=>(qoB x.1).trans h)
theorem n76 {T:Told} (H:qab T):qag T Tryz.prog (envL e76):=q5q (l:=e76) ⟨ok50 H,ok65 H,trivial⟩
theorem ok76 {T:Told} (H:qab T):qaf T Tryz.prog 76 c76 :=
 qas H.ty (n76 H) hm (lh:=qnF) (ct:=c76) (dcd:=fun y=>(y.2.1)) Tryz.func76 (by kernel_rfl) (by rfl) (q1q (l:=[]) (by kernel_rfl) trivial) (by decide) (fun _=>rfl) (fun x r h=>(qrj x.1 x.2.1).trans h)
theorem n56 {T:Told} (H:qab T):qag T Tryz.prog (envL e56):=q5q (l:=e56) ⟨ok20 H,ok43 H,ok44 H,ok76 H,trivial⟩
theorem ok56 {T:Told} (H:qab T):qaf T Tryz.prog 56 c56 :=
 qas H.ty (n56 H) hm (lh:=qnU) (ct:=c56) (dcd:=fun y=>(y.2.1)) Tryz.func56 (by kernel_rfl) (by rfl) (q1q (l:=[]) (by kernel_rfl) trivial) (by decide) (fun _=>rfl) (fun x r h=>(qrM x.1 x.2.1).trans h)
theorem n32 {T:Told} (H:qab T):qag T Tryz.prog (envL e32):=q5q (l:=e32) ⟨ok56 H,trivial⟩
theorem ok32 {T:Told} (H:qab T):qaf T Tryz.prog 32 c32 :=
 qas H.ty (n32 H) hm (lh:=qmn) (ct:=c32) (dcd:=fun y=>(y.2.1)) Tryz.func32 (by kernel_rfl) (by rfl) (q1q (l:=[]) (by kernel_rfl) trivial) (by decide) (fun _=>rfl) (fun x r h=>(qqG x.1 x.2.1).trans h)
theorem n127 {T:Told} (H:qab T):qag T Tryz.prog (envL e127):=q5q (l:=e127) ⟨ok16 H,ok32 H,trivial⟩
theorem qqn {T:Told} (H:qab T):q12q T Tryz.prog 37 (.loop (q3q 2 (q4q Tryz.f127) .skip)) ⟨qeJ,qfZ,lp qfY K0⟩ :=
 q7q H.ty (n127 H) hm (q1q (l:=[]) (by kernel_rfl) trivial) qqo K0
theorem qAH {T:Told} (H:qab T):qaf T Tryz.prog 127 c127 :=
 qas H.ty (n127 H) hm (lh:=qiW) (ct:=c127) (dcd:=fun y=>(y.2.1,y.2.2.1)) Tryz.func127 (by kernel_rfl) (by rfl) (q1q (l:=[(.loop (q3q 2 (q4q Tryz.f127) .skip),⟨qeJ,qfZ,lp qfY K0⟩)]) (by kernel_rfl) ⟨qqn H,trivial⟩) (by decide) (fun _=>rfl) (fun x r h=>(qqp x.1).trans h)
theorem n128 {T:Told} (H:qab T):qag T Tryz.prog (envL e128):=q5q (l:=e128) trivial
theorem qAG {T:Told} (H:qab T):qaf T Tryz.prog 128 c128 :=
 qas H.ty (n128 H) hm (lh:=qlC) (ct:=c128) (dcd:=fun y=>(y.2.1)) Tryz.func128 (by kernel_rfl) (by rfl) (q1q (l:=[]) (by kernel_rfl) trivial) (by decide) (fun _=>rfl) (fun x r h=>(qpx x.1 x.2.1 x.2.2.1).trans h)
theorem n114 {T:Told} (H:qab T):qag T Tryz.prog (envL e114):=q5q (l:=e114) ⟨qAL H,qAK H,qAJ H,qAI H,qAH H,qAG H,trivial⟩
theorem qpy {T:Told} (H:qab T):q12q T Tryz.prog 63 (.loop (q3q 7 (q4q Tryz.f114) .skip)) ⟨qd7,qfa,lp qe8 K0⟩ :=
 q7q H.ty (n114 H) hm (q1q (l:=[]) (by kernel_rfl) trivial) qpA K0
theorem qpz {T:Told} (H:qab T):q12q T Tryz.prog 63 (.loop (q3q 4 (q4q Tryz.f114) .skip)) ⟨qd8,qfb,lp qe9 K0⟩ :=
 q7q H.ty (n114 H) hm (q1q (l:=[(.loop (q3q 7 (q4q Tryz.f114) .skip),⟨qd7,qfa,lp qe8 K0⟩)]) (by kernel_rfl) ⟨qpy H,trivial⟩) qpB K0
theorem qAR {T:Told} (H:qab T):qaf T Tryz.prog 114 c114 :=
 qas H.ty (n114 H) hm (lh:=qgT) (ct:=c114) (dcd:=fun y=>(y.2.1)) Tryz.func114 (by kernel_rfl) (by rfl) (q1q (l:=[(.loop (q3q 4 (q4q Tryz.f114) .skip),⟨qd8,qfb,lp qe9 K0⟩)]) (by kernel_rfl) ⟨qpz H,trivial⟩) (by decide) (fun _=>rfl) (fun x r h=>(qpC x.1).trans h)
theorem n100 {T:Told} (H:qab T):qag T Tryz.prog (envL e100):=q5q (l:=e100) ⟨qAR H,trivial⟩
theorem qA1 {T:Told} (H:qab T):qaf T Tryz.prog 100 c100 :=
 qas H.ty (n100 H) hm (lh:=qoC) (ct:=c100) (dcd:=fun y=>(y.2.1)) Tryz.func100 (by kernel_rfl) (by rfl) (q1q (l:=[]) (by kernel_rfl) trivial) (by decide) (fun _=>rfl) (fun x r h=>(qsT x.1).trans h)
theorem n73 {T:Told} (H:qab T):qag T Tryz.prog (envL e73):=q5q (l:=e73) ⟨qA1 H,trivial⟩
theorem ok73 {T:Told} (H:qab T):qaf T Tryz.prog 73 c73 :=
 qas H.ty (n73 H) hm (lh:=qmg) (ct:=c73) (dcd:=fun y=>(y.2.1)) Tryz.func73 (by kernel_rfl) (by rfl) (q1q (l:=[]) (by kernel_rfl) trivial) (by decide) (fun _=>rfl) (fun x r h=>(qqA x.1 x.2.1).trans h)
theorem n54 {T:Told} (H:qab T):qag T Tryz.prog (envL e54):=q5q (l:=e54) ⟨ok73 H,trivial⟩
theorem ok54 {T:Told} (H:qab T):qaf T Tryz.prog 54 c54 :=
 qas H.ty (n54 H) hm (lh:=qmi) (ct:=c54) (dcd:=fun y=>(y.2.1)) Tryz.func54 (by kernel_rfl) (by rfl) (q1q (l:=[]) (by kernel_rfl) trivial) (by decide) (fun _=>rfl) (fun x r h=>(qqC x.1 x.2.1).trans h)
theorem n74 {T:Told} (H:qab T):qag T Tryz.prog (envL e74):=q5q (l:=e74) ⟨ok15 H,trivial⟩
theorem qnd {T:Told} (H:qab T):q12q T Tryz.prog 13 (.loop (q3q 3 (q4q Tryz.f74) .skip)) ⟨qcQ,qdE,lp qdD K0⟩ :=
 q7q H.ty (n74 H) hm (q1q (l:=[]) (by kernel_rfl) trivial) qne K0
theorem ok74 {T:Told} (H:qab T):qaf T Tryz.prog 74 c74 :=
 qas H.ty (n74 H) hm (lh:=qgJ) (ct:=c74) (dcd:=fun y=>(y.2.1)) Tryz.func74 (by kernel_rfl) (by rfl) (q1q (l:=[(.loop (q3q 3 (q4q Tryz.f74) .skip),⟨qcQ,qdE,lp qdD K0⟩)]) (by kernel_rfl) ⟨qnd H,trivial⟩) (by decide) (fun _=>rfl) (fun x r h=>(qnf x.1).trans h)
theorem n101 {T:Told} (H:qab T):qag T Tryz.prog (envL e101):=q5q (l:=e101) ⟨ok7 H,ok18 H,ok21 H,ok24 H,ok27 H,trivial⟩
theorem qA0 {T:Told} (H:qab T):qaf T Tryz.prog 101 c101 :=
 qfm H.ty (n101 H) hm (lh:=qgv) (ct:=c101) (wi:=w101) (dcd:=fun y=>(y.2.1,y.2.2.1,y.2.2.2.1,y.2.2.2.2.1,y.2.2.2.2.2.1,y.2.2.2.2.2.2.1,y.2.2.2.2.2.2.2.1,y.2.2.2.2.2.2.2.2.1,y.2.2.2.2.2.2.2.2.2.1,y.2.2.2.2.2.2.2.2.2.2.1)) Tryz.func101 (by kernel_rfl) (by rfl) (q1q (l:=[]) (by kernel_rfl) trivial) (fun _=>rfl) rfl (fun x r h=>(qjD x.1 x.2.1 x.2.2.1 x.2.2.2.1 x.2.2.2.2.1 x.2.2.2.2.2.1 x.2.2.2.2.2.2.1 x.2.2.2.2.2.2.2.1 x.2.2.2.2.2.2.2.2.1 x.2.2.2.2.2.2.2.2.2.1).trans h)
theorem n33 {T:Told} (H:qab T):qag T Tryz.prog (envL e33):=q5q (l:=e33) ⟨ok15 H,ok16 H,trivial⟩
theorem qrA {T:Told} (H:qab T):q12q T Tryz.prog 18 (.loop (q3q 3 (q4q Tryz.f33) .skip)) ⟨qfC,qg1,lp qg0 K0⟩ :=
 q7q H.ty (n33 H) hm (q1q (l:=[]) (by kernel_rfl) trivial) qrB K0
theorem ok33 {T:Told} (H:qab T):qaf T Tryz.prog 33 c33 :=
 qas H.ty (n33 H) hm (lh:=qjV) (ct:=c33) (dcd:=fun y=>(y.2.1)) Tryz.func33 (by kernel_rfl) (by rfl) (q1q (l:=[(.loop (q3q 3 (q4q Tryz.f33) .skip),⟨qfC,qg1,lp qg0 K0⟩)]) (by kernel_rfl) ⟨qrA H,trivial⟩) (by decide) (fun _=>rfl) (fun x r h=>(qrC x.1).trans h)
theorem n12 {T:Told} (H:qab T):qag T Tryz.prog (envL e12):=q5q (l:=e12) ⟨ok33 H,ok34 H,trivial⟩
theorem ok12 {T:Told} (H:qab T):qaf T Tryz.prog 12 c12 :=
 qfm H.ty (n12 H) hm (lh:=qhn) (ct:=c12) (wi:=w12) (dcd:=fun y=>(y.2.1,y.2.2.1,y.2.2.2.1)) Tryz.func12 (by kernel_rfl) (by rfl) (q1q (l:=[]) (by kernel_rfl) trivial) (fun _=>rfl) rfl (fun x r h=>(qle x.1 x.2.1).trans h)
theorem n102 {T:Told} (H:qab T):qag T Tryz.prog (envL e102):=q5q (l:=e102) ⟨ok8 H,ok12 H,ok16 H,ok21 H,ok27 H,ok77 H,trivial⟩
theorem qi7 {T:Told} (H:qab T):q12q T Tryz.prog 69 (.loop (q3q 3 (q4q Tryz.f102) .skip)) ⟨qbc,qbP,lp qbO K0⟩ :=
 q7q H.ty (n102 H) hm (q1q (l:=[]) (by kernel_rfl) trivial) qi8 K0
theorem qAZ {T:Told} (H:qab T):qaf T Tryz.prog 102 c102 :=
 qfm H.ty (n102 H) hm (lh:=qdT) (ct:=c102) (wi:=w102) (dcd:=fun y=>(y.1.1,y.2.1,y.2.2.1,y.2.2.2.1,y.2.2.2.2.1,y.2.2.2.2.2.1)) Tryz.func102 (by kernel_rfl) (by rfl) (q1q (l:=[(.loop (q3q 3 (q4q Tryz.f102) .skip),⟨qbc,qbP,lp qbO K0⟩)]) (by kernel_rfl) ⟨qi7 H,trivial⟩) (fun _=>rfl) rfl (fun x r h=>(qi9 x.1 x.2.1 x.2.2.1 x.2.2.2.1 x.2.2.2.2.1 x.2.2.2.2.2.1 x.2.2.2.2.2.2.1 x.2.2.2.2.2.2.2.1 x.2.2.2.2.2.2.2.2.1 x.2.2.2.2.2.2.2.2.2.1 x.2.2.2.2.2.2.2.2.2.2.1 x.2.2.2.2.2.2.2.2.2.2.2.1 x.2.2.2.2.2.2.2.2.2.2.2.2.1 x.2.2.2.2.2.2.2.2.2.2.2.2.2.1 x.2.2.2.2.2.2.2.2.2.2.2.2.2.2.1).trans h)
theorem n115 {T:Told} (H:qab T):qag T Tryz.prog (envL e115):=q5q (l:=e115) ⟨ok21 H,ok57 H,trivial⟩
theorem qAQ {T:Told} (H:qab T):qaf T Tryz.prog 115 c115 :=
 qas H.ty (n115 H) hm (lh:=qnT) (ct:=c115) (dcd:=fun y=>(y.2.1,y.2.2.1)) Tryz.func115 (by kernel_rfl) (by rfl) (q1q (l:=[]) (by kernel_rfl) trivial) (by decide) (fun _=>rfl) (fun x r h=>(qrL x.1 x.2.1).trans h)
theorem n129 {T:Told} (H:qab T):qag T Tryz.prog (envL e129):=q5q (l:=e129) ⟨ok56 H,trivial⟩
theorem qAF {T:Told} (H:qab T):qaf T Tryz.prog 129 c129 :=
 qas H.ty (n129 H) hm (lh:=qmf) (ct:=c129) (dcd:=fun y=>(y.2.1)) Tryz.func129 (by kernel_rfl) (by rfl) (q1q (l:=[]) (by kernel_rfl) trivial) (by decide) (fun _=>rfl) (fun x r h=>(qqz x.1 x.2.1).trans h)
theorem n116 {T:Told} (H:qab T):qag T Tryz.prog (envL e116):=q5q (l:=e116) ⟨qAF H,trivial⟩
theorem qAP {T:Told} (H:qab T):qaf T Tryz.prog 116 c116 :=
 qas H.ty (n116 H) hm (lh:=qmh) (ct:=c116) (dcd:=fun y=>(y.2.1)) Tryz.func116 (by kernel_rfl) (by rfl) (q1q (l:=[]) (by kernel_rfl) trivial) (by decide) (fun _=>rfl) (fun x r h=>(qqB x.1 x.2.1).trans h)
theorem n103 {T:Told} (H:qab T):qag T Tryz.prog (envL e103):=q5q (l:=e103) ⟨ok6 H,ok21 H,qAQ H,qAP H,trivial⟩
theorem qAY {T:Told} (H:qab T):qaf T Tryz.prog 103 c103 :=
 qfm H.ty (n103 H) hm (lh:=qfE) (ct:=c103) (wi:=w103) (dcd:=fun y=>(y.1.1,y.2.1,y.2.2.1,y.2.2.2.1,y.2.2.2.2.1,y.2.2.2.2.2.1,y.2.2.2.2.2.2.1,y.2.2.2.2.2.2.2.1,y.2.2.2.2.2.2.2.2.1,y.2.2.2.2.2.2.2.2.2.1,y.2.2.2.2.2.2.2.2.2.2.1,y.2.2.2.2.2.2.2.2.2.2.2.1,y.2.2.2.2.2.2.2.2.2.2.2.2.1,y.2.2.2.2.2.2.2.2.2.2.2.2.2.1,y.2.2.2.2.2.2.2.2.2.2.2.2.2.2.1,y.2.2.2.2.2.2.2.2.2.2.2.2.2.2.2.1,y.2.2.2.2.2.2.2.2.2.2.2.2.2.2.2.2.1)) Tryz.func103 (by kernel_rfl) (by rfl) (q1q (l:=[]) (by kernel_rfl) trivial) (fun _=>rfl) rfl (fun x r h=>(qiy x.1 x.2.1 x.2.2.1 x.2.2.2.1 x.2.2.2.2.1 x.2.2.2.2.2.1 x.2.2.2.2.2.2.1 x.2.2.2.2.2.2.2.1 x.2.2.2.2.2.2.2.2.1 x.2.2.2.2.2.2.2.2.2.1 x.2.2.2.2.2.2.2.2.2.2.1 x.2.2.2.2.2.2.2.2.2.2.2.1 x.2.2.2.2.2.2.2.2.2.2.2.2.1 x.2.2.2.2.2.2.2.2.2.2.2.2.2.1 x.2.2.2.2.2.2.2.2.2.2.2.2.2.2.1 x.2.2.2.2.2.2.2.2.2.2.2.2.2.2.2.1 x.2.2.2.2.2.2.2.2.2.2.2.2.2.2.2.2.1).trans h)
theorem n75 {T:Told} (H:qab T):qag T Tryz.prog (envL e75):=q5q (l:=e75) ⟨ok5 H,ok8 H,qA0 H,qAZ H,qAY H,trivial⟩
theorem qi2 {T:Told} (H:qab T):q12q T Tryz.prog 91 (.loop (q3q 9 (q4q Tryz.f75) .skip)) ⟨qba,qbM,lp qbK K0⟩ :=
 q7q H.ty (n75 H) hm (q1q (l:=[]) (by kernel_rfl) trivial) qi4 K0
theorem qi3 {T:Told} (H:qab T):q12q T Tryz.prog 91 (.loop (q3q 1 (q4q Tryz.f75) .skip)) ⟨qbb,qbN,lp qbL K0⟩ :=
 q7q H.ty (n75 H) hm (q1q (l:=[(.loop (q3q 9 (q4q Tryz.f75) .skip),⟨qba,qbM,lp qbK K0⟩)]) (by kernel_rfl) ⟨qi2 H,trivial⟩) qi5 K0
theorem ok75 {T:Told} (H:qab T):qaf T Tryz.prog 75 c75 :=
 qfm H.ty (n75 H) hm (lh:=qcK) (ct:=c75) (wi:=w75) (dcd:=fun y=>(y.1.1,y.2.1,y.2.2.1,y.2.2.2.1,y.2.2.2.2.1,y.2.2.2.2.2.1)) Tryz.func75 (by kernel_rfl) (by rfl) (q1q (l:=[(.loop (q3q 1 (q4q Tryz.f75) .skip),⟨qbb,qbN,lp qbL K0⟩)]) (by kernel_rfl) ⟨qi3 H,trivial⟩) (fun _=>rfl) rfl (fun x r h=>(qi6 x.1 x.2.1 x.2.2.1 x.2.2.2.1 x.2.2.2.2.1 x.2.2.2.2.2.1).trans h)
theorem n55 {T:Told} (H:qab T):qag T Tryz.prog (envL e55):=q5q (l:=e55) ⟨ok74 H,ok75 H,trivial⟩
theorem qoS {T:Told} (H:qab T):q12q T Tryz.prog 34 (.loop (q3q 3 (q4q Tryz.f55) .skip)) ⟨qdF,qet,lp qes K0⟩ :=
 q7q H.ty (n55 H) hm (q1q (l:=[]) (by kernel_rfl) trivial) qoT K0
theorem ok55 {T:Told} (H:qab T):qaf T Tryz.prog 55 c55 :=
 qas H.ty (n55 H) hm (lh:=qhR) (ct:=c55) (dcd:=fun y=>(y.2.1)) Tryz.func55 (by kernel_rfl) (by rfl) (q1q (l:=[(.loop (q3q 3 (q4q Tryz.f55) .skip),⟨qdF,qet,lp qes K0⟩)]) (by kernel_rfl) ⟨qoS H,trivial⟩) (by decide) (fun _=>rfl) (fun x r h=>(qoU x.1 x.2.1 x.2.2.1 x.2.2.2.1).trans h)
theorem n31 {T:Told} (H:qab T):qag T Tryz.prog (envL e31):=q5q (l:=e31) ⟨ok54 H,ok55 H,trivial⟩
theorem ok31 {T:Told} (H:qab T):qaf T Tryz.prog 31 c31 :=
 qas H.ty (n31 H) hm (lh:=qh6) (ct:=c31) (dcd:=fun y=>(y.2.1,y.2.2.1)) Tryz.func31 (by kernel_rfl) (by rfl) (q1q (l:=[]) (by kernel_rfl) trivial) (by decide) (fun _=>rfl) (fun x r h=>(qmu x.1 x.2.1).trans h)
theorem n11 {T:Told} (H:qab T):qag T Tryz.prog (envL e11):=q5q (l:=e11) ⟨ok8 H,ok22 H,ok23 H,ok31 H,ok32 H,trivial⟩
theorem qk1 {r} (h:c11.F ()=r):qcw=r:=by
 subst h
 delta c11
 exact(@F_in [] _ _ (fun _=>qcw) _ _ () _ rfl).symm
theorem qkZ (x) (r:c11.T) (h:c11.F x=some r):fnF tb (envL e11) Tryz.f11 qeH c11.ps c11.rs (T:=c11.T) (fun y=>(y.2.1)) x=some r:=by
 cases x;exact qk0.trans (qk1 h)
theorem ok11 {T:Told} (H:qab T):qaf T Tryz.prog 11 c11 :=
 qas H.ty (n11 H) hm (lh:=qeH) (ct:=c11) (dcd:=fun y=>(y.2.1)) Tryz.func11 (by kernel_rfl) (by rfl) (q1q (l:=[]) (by kernel_rfl) trivial) (by decide) (fun _=>rfl) (fun x r h=>qkZ x r h)
theorem n3 {T:Told} (H:qab T):qag T Tryz.prog (envL e3):=q5q (l:=e3) ⟨ok5 H,ok6 H,ok7 H,ok8 H,ok9 H,ok10 H,ok11 H,trivial⟩
theorem qhj {T:Told} (H:qab T):q12q T Tryz.prog 55 (.loop (q3q 4 (q4q Tryz.f3) .skip)) ⟨qaF,qaX,lp qai K0⟩ :=
 q7q H.ty (n3 H) hm (q1q (l:=[]) (by kernel_rfl) trivial) qhk K0
theorem ok3 {T:Told} (H:qab T):qaf T Tryz.prog 3 c3 :=
 qas H.ty (n3 H) hm (lh:=qcz) (ct:=c3) (dcd:=fun y=>(y.2.1)) Tryz.func3 (by kernel_rfl) (by rfl) (q1q (l:=[(.loop (q3q 4 (q4q Tryz.f3) .skip),⟨qaF,qaX,lp qai K0⟩)]) (by kernel_rfl) ⟨qhj H,trivial⟩) (by decide) (fun _=>rfl) (fun x r h=>(qhl x.1).trans h)
end Go.Proofs.YtmabkjhobhbfdaaGreatDoor.X
