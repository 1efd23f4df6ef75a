/- Own work: part of the proof; the first line of each part says what it tells. -/
import Derived.Test.YtmabkjhobhbfdaaDoorLa9


namespace Go.Proofs.YtmabkjhobhbfdaaDoor.X
open Go
set_option linter.unusedVariables false
set_option linter.unusedSimpArgs false
set_option maxRecDepth 100000
theorem F_in {ps:List (Ty×PM)} {rs:List (Ty×Bool)} {T:Type} {F:HL (fsts ps)->Option T} {enc:T->HL (qeK ps)×HL (fsts rs)} {wi:Option Wir} (x:HL (fsts ps)) {r:Option T} (h:F x=r):(Ctr.mk ps rs T F enc wi).F x=r:=h
theorem hm:Tryd.prog.follows .mixedOrders=true:=by kernel_rfl
structure qac (T:Told):Prop where
 ty:TbOk Tryd.prog tb
 h70:qaf T Tryd.prog 70 c70
 h76:qaf T Tryd.prog 76 c76
theorem n42 {T:Told} (H:qac T):qag T Tryd.prog (envL e42):=q5q (l:=e42) trivial
theorem qmI {T:Told} (H:qac T):q12q T Tryd.prog 23 (.loop (q3q 2 (q4q Tryd.f42) .skip)) ⟨qdz,qer,lp qeq K0⟩ :=
 q7q H.ty (n42 H) hm (q1q (l:=[]) (by kernel_rfl) trivial) qmJ K0
theorem ok42 {T:Told} (H:qac T):qaf T Tryd.prog 42 c42 :=
 qax H.ty (n42 H) hm (lh:=qg5) (ct:=c42) (dcd:=fun y=>(y.2.1)) Tryd.func42 (by kernel_rfl) (by rfl) (q1q (l:=[(.loop (q3q 2 (q4q Tryd.f42) .skip),⟨qdz,qer,lp qeq K0⟩)]) (by kernel_rfl) ⟨qmI H,trivial⟩) (by decide) (fun _=>rfl) (fun x r h=>(qmK x.1).trans h)
theorem n31 {T:Told} (H:qac T):qag T Tryd.prog (envL e31):=q5q (l:=e31) ⟨ok42 H,trivial⟩
theorem ok31 {T:Told} (H:qac T):qaf T Tryd.prog 31 c31 :=
 qax H.ty (n31 H) hm (lh:=ql7) (ct:=c31) (dcd:=fun y=>(y.2.1)) Tryd.func31 (by kernel_rfl) (by rfl) (q1q (l:=[]) (by kernel_rfl) trivial) (by decide) (fun _=>rfl) (fun x r h=>(qoA x.1).trans h)
theorem n17 {T:Told} (H:qac T):qag T Tryd.prog (envL e17):=q5q (l:=e17) ⟨ok31 H,trivial⟩
theorem ok17 {T:Told} (H:qac T):qaf T Tryd.prog 17 c17 :=
 qax H.ty (n17 H) hm (lh:=qhp) (ct:=c17) (dcd:=fun y=>(y.2.1)) Tryd.func17 (by kernel_rfl) (by rfl) (q1q (l:=[]) (by kernel_rfl) trivial) (by decide) (fun _=>rfl) (fun x r h=>(qkR ).trans h)
theorem n28 {T:Told} (H:qac T):qag T Tryd.prog (envL e28):=q5q (l:=e28) ⟨ok42 H,trivial⟩
theorem ql8 {T:Told} (H:qac T):q12q T Tryd.prog 24 (.loop (q3q 3 (q4q Tryd.f28) .skip)) ⟨qc5,qdV,lp qdU K0⟩ :=
 q7q H.ty (n28 H) hm (q1q (l:=[]) (by kernel_rfl) trivial) ql9 K0
theorem ok28 {T:Told} (H:qac T):qaf T Tryd.prog 28 c28 :=
 qax H.ty (n28 H) hm (lh:=qgo) (ct:=c28) (dcd:=fun y=>(y.2.1)) Tryd.func28 (by kernel_rfl) (by rfl) (q1q (l:=[(.loop (q3q 3 (q4q Tryd.f28) .skip),⟨qc5,qdV,lp qdU K0⟩)]) (by kernel_rfl) ⟨ql8 H,trivial⟩) (by decide) (fun _=>rfl) (fun x r h=>(qma x.1).trans h)
theorem n69 {T:Told} (H:qac T):qag T Tryd.prog (envL e69):=q5q (l:=e69) ⟨ok28 H,trivial⟩
theorem ok69 {T:Told} (H:qac T):qaf T Tryd.prog 69 c69 :=
 qax H.ty (n69 H) hm (lh:=ql6) (ct:=c69) (dcd:=fun y=>(y.2.1,y.2.2.1)) Tryd.func69 (by kernel_rfl) (by rfl) (q1q (l:=[]) (by kernel_rfl) trivial) (by decide) (fun _=>rfl) (fun x r h=>(qoz x.1).trans h)
theorem n54 {T:Told} (H:qac T):qag T Tryd.prog (envL e54):=q5q (l:=e54) ⟨ok31 H,ok69 H,trivial⟩
theorem qk1 {T:Told} (H:qac T):q12q T Tryd.prog 27 (.loop (q3q 3 (q4q Tryd.f54) .skip)) ⟨qcj,qdj,lp qdi K0⟩ :=
 q7q H.ty (n54 H) hm (q1q (l:=[]) (by kernel_rfl) trivial) qk2 K0
theorem ok54 {T:Told} (H:qac T):qaf T Tryd.prog 54 c54 :=
 qax H.ty (n54 H) hm (lh:=qfH) (ct:=c54) (dcd:=fun y=>(y.2.1)) Tryd.func54 (by kernel_rfl) (by rfl) (q1q (l:=[(.loop (q3q 3 (q4q Tryd.f54) .skip),⟨qcj,qdj,lp qdi K0⟩)]) (by kernel_rfl) ⟨qk1 H,trivial⟩) (by decide) (fun _=>rfl) (fun x r h=>(qk3 x.1 x.2.1).trans h)
theorem n55 {T:Told} (H:qac T):qag T Tryd.prog (envL e55):=q5q (l:=e55) ⟨H.h70,trivial⟩
theorem qlR {T:Told} (H:qac T):q12q T Tryd.prog 24 (.loop (q3q 3 (q4q Tryd.f55) .skip)) ⟨qc0,qdL,lp qdK K0⟩ :=
 q7q H.ty (n55 H) hm (q1q (l:=[]) (by kernel_rfl) trivial) qlS K0
theorem ok55 {T:Told} (H:qac T):qaf T Tryd.prog 55 c55 :=
 qax H.ty (n55 H) hm (lh:=qgi) (ct:=c55) (dcd:=fun y=>(y.2.1)) Tryd.func55 (by kernel_rfl) (by rfl) (q1q (l:=[(.loop (q3q 3 (q4q Tryd.f55) .skip),⟨qc0,qdL,lp qdK K0⟩)]) (by kernel_rfl) ⟨qlR H,trivial⟩) (by decide) (fun _=>rfl) (fun x r h=>(qlT x.1).trans h)
theorem n63 {T:Told} (H:qac T):qag T Tryd.prog (envL e63):=q5q (l:=e63) trivial
theorem ok63 {T:Told} (H:qac T):qaf T Tryd.prog 63 c63 :=
 qax H.ty (n63 H) hm (lh:=qjD) (ct:=c63) (dcd:=fun y=>(y.2.1)) Tryd.func63 (by kernel_rfl) (by rfl) (q1q (l:=[]) (by kernel_rfl) trivial) (by decide) (fun _=>rfl) (fun x r h=>(qmS x.1 x.2.1).trans h)
theorem n56 {T:Told} (H:qac T):qag T Tryd.prog (envL e56):=q5q (l:=e56) ⟨ok42 H,ok63 H,trivial⟩
theorem qnO {T:Told} (H:qac T):q12q T Tryd.prog 50 (.loop (q3q 6 (q4q Tryd.f56) .skip)) ⟨qea,qfb,lp qfa K0⟩ :=
 q7q H.ty (n56 H) hm (q1q (l:=[]) (by kernel_rfl) trivial) qnP K0
theorem ok56 {T:Told} (H:qac T):qaf T Tryd.prog 56 c56 :=
 qax H.ty (n56 H) hm (lh:=qh3) (ct:=c56) (dcd:=fun y=>(y.2.1)) Tryd.func56 (by kernel_rfl) (by rfl) (q1q (l:=[(.loop (q3q 6 (q4q Tryd.f56) .skip),⟨qea,qfb,lp qfa K0⟩)]) (by kernel_rfl) ⟨qnO H,trivial⟩) (by decide) (fun _=>rfl) (fun x r h=>(qnQ x.1 x.2.1).trans h)
theorem n57 {T:Told} (H:qac T):qag T Tryd.prog (envL e57):=q5q (l:=e57) trivial
theorem qlX {T:Told} (H:qac T):q12q T Tryd.prog 45 (.loop (q3q 6 (q4q Tryd.f57) .skip)) ⟨qc2,qdP,lp qdO K0⟩ :=
 q7q H.ty (n57 H) hm (q1q (l:=[]) (by kernel_rfl) trivial) qlY K0
theorem ok57 {T:Told} (H:qac T):qaf T Tryd.prog 57 c57 :=
 qax H.ty (n57 H) hm (lh:=qgk) (ct:=c57) (dcd:=fun y=>(y.2.1)) Tryd.func57 (by kernel_rfl) (by rfl) (q1q (l:=[(.loop (q3q 6 (q4q Tryd.f57) .skip),⟨qc2,qdP,lp qdO K0⟩)]) (by kernel_rfl) ⟨qlX H,trivial⟩) (by decide) (fun _=>rfl) (fun x r h=>(qlZ x.1 x.2.1).trans h)
theorem n58 {T:Told} (H:qac T):qag T Tryd.prog (envL e58):=q5q (l:=e58) ⟨ok42 H,trivial⟩
theorem qnR {T:Told} (H:qac T):q12q T Tryd.prog 51 (.loop (q3q 4 (q4q Tryd.f58) .skip)) ⟨qeb,qfd,lp qfc K0⟩ :=
 q7q H.ty (n58 H) hm (q1q (l:=[]) (by kernel_rfl) trivial) qnS K0
theorem ok58 {T:Told} (H:qac T):qaf T Tryd.prog 58 c58 :=
 qax H.ty (n58 H) hm (lh:=qh4) (ct:=c58) (dcd:=fun y=>(y.2.1)) Tryd.func58 (by kernel_rfl) (by rfl) (q1q (l:=[(.loop (q3q 4 (q4q Tryd.f58) .skip),⟨qeb,qfd,lp qfc K0⟩)]) (by kernel_rfl) ⟨qnR H,trivial⟩) (by decide) (fun _=>rfl) (fun x r h=>(qnT x.1 x.2.1).trans h)
theorem n61 {T:Told} (H:qac T):qag T Tryd.prog (envL e61):=q5q (l:=e61) ⟨ok42 H,trivial⟩
theorem qlU {T:Told} (H:qac T):q12q T Tryd.prog 38 (.loop (q3q 4 (q4q Tryd.f61) .skip)) ⟨qc1,qdN,lp qdM K0⟩ :=
 q7q H.ty (n61 H) hm (q1q (l:=[]) (by kernel_rfl) trivial) qlV K0
theorem ok61 {T:Told} (H:qac T):qaf T Tryd.prog 61 c61 :=
 qax H.ty (n61 H) hm (lh:=qgj) (ct:=c61) (dcd:=fun y=>(y.2.1,y.2.2.1)) Tryd.func61 (by kernel_rfl) (by rfl) (q1q (l:=[(.loop (q3q 4 (q4q Tryd.f61) .skip),⟨qc1,qdN,lp qdM K0⟩)]) (by kernel_rfl) ⟨qlU H,trivial⟩) (by decide) (fun _=>rfl) (fun x r h=>(qlW x.1 x.2.1).trans h)
theorem n71 {T:Told} (H:qac T):qag T Tryd.prog (envL e71):=q5q (l:=e71) ⟨H.h76,trivial⟩
theorem ok71 {T:Told} (H:qac T):qaf T Tryd.prog 71 c71 :=
 qax H.ty (n71 H) hm (lh:=qds) (ct:=c71) (dcd:=fun y=>(y.2.1)) Tryd.func71 (by kernel_rfl) (by rfl) (q1q (l:=[]) (by kernel_rfl) trivial) (by decide) (fun _=>rfl) (fun x r h=>(qf1 x.1).trans h)
theorem n77 {T:Told} (H:qac T):qag T Tryd.prog (envL e77):=q5q (l:=e77) ⟨ok63 H,trivial⟩
theorem qmL {T:Told} (H:qac T):q12q T Tryd.prog 46 (.loop (q3q 3 (q4q Tryd.f77) .skip)) ⟨qdA,qet,lp qes K0⟩ :=
 q7q H.ty (n77 H) hm (q1q (l:=[]) (by kernel_rfl) trivial) qmM K0
theorem ok77 {T:Told} (H:qac T):qaf T Tryd.prog 77 c77 :=
 qax H.ty (n77 H) hm (lh:=qg6) (ct:=c77) (dcd:=fun y=>(y.1.1,y.2.1)) Tryd.func77 (by kernel_rfl) (by rfl) (q1q (l:=[(.loop (q3q 3 (q4q Tryd.f77) .skip),⟨qdA,qet,lp qes K0⟩)]) (by kernel_rfl) ⟨qmL H,trivial⟩) (by decide) (fun _=>rfl) (fun x r h=>(qmN x.1 x.2.1 x.2.2.1).trans h)
theorem n78 {T:Told} (H:qac T):qag T Tryd.prog (envL e78):=q5q (l:=e78) ⟨ok63 H,trivial⟩
theorem qmT {T:Told} (H:qac T):q12q T Tryd.prog 29 (.loop (q3q 2 (q4q Tryd.f78) .skip)) ⟨qdC,qey,lp qex K0⟩ :=
 q7q H.ty (n78 H) hm (q1q (l:=[]) (by kernel_rfl) trivial) qmU K0
theorem ok78 {T:Told} (H:qac T):qaf T Tryd.prog 78 c78 :=
 qax H.ty (n78 H) hm (lh:=qg9) (ct:=c78) (dcd:=fun y=>(y.1.1)) Tryd.func78 (by kernel_rfl) (by rfl) (q1q (l:=[(.loop (q3q 2 (q4q Tryd.f78) .skip),⟨qdC,qey,lp qex K0⟩)]) (by kernel_rfl) ⟨qmT H,trivial⟩) (by decide) (fun _=>rfl) (fun x r h=>(qmV x.1 x.2.1).trans h)
theorem n72 {T:Told} (H:qac T):qag T Tryd.prog (envL e72):=q5q (l:=e72) ⟨ok77 H,ok78 H,trivial⟩
theorem ql3 {T:Told} (H:qac T):q12q T Tryd.prog 77 (.loop (q3q 4 (q4q Tryd.f72) .skip)) ⟨qc4,qdT,lp qdS K0⟩ :=
 q7q H.ty (n72 H) hm (q1q (l:=[]) (by kernel_rfl) trivial) ql4 K0
theorem ok72 {T:Told} (H:qac T):qaf T Tryd.prog 72 c72 :=
 qax H.ty (n72 H) hm (lh:=qgn) (ct:=c72) (dcd:=fun y=>(y.1.1,y.2.1)) Tryd.func72 (by kernel_rfl) (by rfl) (q1q (l:=[(.loop (q3q 4 (q4q Tryd.f72) .skip),⟨qc4,qdT,lp qdS K0⟩)]) (by kernel_rfl) ⟨ql3 H,trivial⟩) (by decide) (fun _=>rfl) (fun x r h=>(ql5 x.1 x.2.1).trans h)
theorem n62 {T:Told} (H:qac T):qag T Tryd.prog (envL e62):=q5q (l:=e62) ⟨ok42 H,ok56 H,ok58 H,ok71 H,ok72 H,trivial⟩
theorem qmP {T:Told} (H:qac T):q12q T Tryd.prog 64 (.loop (q3q 7 (q4q Tryd.f62) .skip)) ⟨qdB,qew,lp qev K0⟩ :=
 q7q H.ty (n62 H) hm (q1q (l:=[]) (by kernel_rfl) trivial) qmQ K0
theorem ok62 {T:Told} (H:qac T):qaf T Tryd.prog 62 c62 :=
 qax H.ty (n62 H) hm (lh:=qg8) (ct:=c62) (dcd:=fun y=>(y.2.1,y.2.2.1)) Tryd.func62 (by kernel_rfl) (by rfl) (q1q (l:=[(.loop (q3q 7 (q4q Tryd.f62) .skip),⟨qdB,qew,lp qev K0⟩)]) (by kernel_rfl) ⟨qmP H,trivial⟩) (by decide) (fun _=>rfl) (fun x r h=>(qmR x.1 x.2.1).trans h)
theorem n44 {T:Told} (H:qac T):qag T Tryd.prog (envL e44):=q5q (l:=e44) ⟨ok28 H,ok31 H,ok57 H,ok61 H,ok62 H,trivial⟩
theorem ok44 {T:Told} (H:qac T):qaf T Tryd.prog 44 c44 :=
 qax H.ty (n44 H) hm (lh:=qhF) (ct:=c44) (dcd:=fun y=>(y.2.1,y.2.2.1,y.2.2.2.1)) Tryd.func44 (by kernel_rfl) (by rfl) (q1q (l:=[]) (by kernel_rfl) trivial) (by decide) (fun _=>rfl) (fun x r h=>(qk5 x.1 x.2.1).trans h)
theorem n59 {T:Told} (H:qac T):qag T Tryd.prog (envL e59):=q5q (l:=e59) ⟨ok44 H,trivial⟩
theorem ok59 {T:Told} (H:qac T):qaf T Tryd.prog 59 c59 :=
 qax H.ty (n59 H) hm (lh:=qjC) (ct:=c59) (dcd:=fun y=>(y.2.1,y.2.2.1)) Tryd.func59 (by kernel_rfl) (by rfl) (q1q (l:=[]) (by kernel_rfl) trivial) (by decide) (fun _=>rfl) (fun x r h=>(qmO x.1 x.2.1).trans h)
theorem n60 {T:Told} (H:qac T):qag T Tryd.prog (envL e60):=q5q (l:=e60) ⟨ok42 H,ok63 H,trivial⟩
theorem ql0 {T:Told} (H:qac T):q12q T Tryd.prog 39 (.loop (q3q 4 (q4q Tryd.f60) .skip)) ⟨qc3,qdR,lp qdQ K0⟩ :=
 q7q H.ty (n60 H) hm (q1q (l:=[]) (by kernel_rfl) trivial) ql1 K0
theorem ok60 {T:Told} (H:qac T):qaf T Tryd.prog 60 c60 :=
 qax H.ty (n60 H) hm (lh:=qgl) (ct:=c60) (dcd:=fun y=>(y.2.1)) Tryd.func60 (by kernel_rfl) (by rfl) (q1q (l:=[(.loop (q3q 4 (q4q Tryd.f60) .skip),⟨qc3,qdR,lp qdQ K0⟩)]) (by kernel_rfl) ⟨ql0 H,trivial⟩) (by decide) (fun _=>rfl) (fun x r h=>(ql2 x.1 x.2.1).trans h)
theorem n43 {T:Told} (H:qac T):qag T Tryd.prog (envL e43):=q5q (l:=e43) ⟨ok28 H,ok54 H,ok55 H,ok56 H,ok57 H,ok58 H,ok59 H,ok60 H,trivial⟩
theorem qmW {T:Told} (H:qac T):q12q T Tryd.prog 86 (.loop (q3q 10 (q4q Tryd.f43) .skip)) ⟨qdE,qez,lp qdD K0⟩ :=
 q7q H.ty (n43 H) hm (q1q (l:=[]) (by kernel_rfl) trivial) qmX K0
theorem ok43 {T:Told} (H:qac T):qaf T Tryd.prog 43 c43 :=
 qax H.ty (n43 H) hm (lh:=qh6) (ct:=c43) (dcd:=fun y=>(y.2.1)) Tryd.func43 (by kernel_rfl) (by rfl) (q1q (l:=[(.loop (q3q 10 (q4q Tryd.f43) .skip),⟨qdE,qez,lp qdD K0⟩)]) (by kernel_rfl) ⟨qmW H,trivial⟩) (by decide) (fun _=>rfl) (fun x r h=>(qn0 x.1 x.2.1).trans h)
theorem n29 {T:Told} (H:qac T):qag T Tryd.prog (envL e29):=q5q (l:=e29) ⟨ok31 H,ok43 H,ok44 H,trivial⟩
theorem ok29 {T:Told} (H:qac T):qaf T Tryd.prog 29 c29 :=
 qax H.ty (n29 H) hm (lh:=qho) (ct:=c29) (dcd:=fun y=>(y.2.1)) Tryd.func29 (by kernel_rfl) (by rfl) (q1q (l:=[]) (by kernel_rfl) trivial) (by decide) (fun _=>rfl) (fun x r h=>(qkQ x.1 x.2.1).trans h)
theorem n45 {T:Told} (H:qac T):qag T Tryd.prog (envL e45):=q5q (l:=e45) trivial
theorem ok45 {T:Told} (H:qac T):qaf T Tryd.prog 45 c45 :=
 qax H.ty (n45 H) hm (lh:=qhf) (ct:=c45) (dcd:=fun y=>(y.2.1)) Tryd.func45 (by kernel_rfl) (by rfl) (q1q (l:=[]) (by kernel_rfl) trivial) (by decide) (fun _=>rfl) (fun x r h=>(qkA x.1 x.2.1).trans h)
theorem n30 {T:Told} (H:qac T):qag T Tryd.prog (envL e30):=q5q (l:=e30) ⟨ok28 H,ok45 H,trivial⟩
theorem ok30 {T:Told} (H:qac T):qaf T Tryd.prog 30 c30 :=
 qax H.ty (n30 H) hm (lh:=qgT) (ct:=c30) (dcd:=fun y=>(y.2.1)) Tryd.func30 (by kernel_rfl) (by rfl) (q1q (l:=[]) (by kernel_rfl) trivial) (by decide) (fun _=>rfl) (fun x r h=>(qjT x.1).trans h)
theorem n16 {T:Told} (H:qac T):qag T Tryd.prog (envL e16):=q5q (l:=e16) ⟨ok17 H,ok28 H,ok29 H,ok30 H,trivial⟩
theorem ok16 {T:Told} (H:qac T):qaf T Tryd.prog 16 c16 :=
 qax H.ty (n16 H) hm (lh:=qgX) (ct:=c16) (dcd:=fun y=>(y.2.1)) Tryd.func16 (by kernel_rfl) (by rfl) (q1q (l:=[]) (by kernel_rfl) trivial) (by decide) (fun _=>rfl) (fun x r h=>(qj3 x.1).trans h)
theorem n46 {T:Told} (H:qac T):qag T Tryd.prog (envL e46):=q5q (l:=e46) ⟨ok28 H,ok42 H,ok63 H,trivial⟩
theorem qn2 {T:Told} (H:qac T):q12q T Tryd.prog 43 (.loop (q3q 5 (q4q Tryd.f46) .skip)) ⟨qee,qfk,lp qfj K0⟩ :=
 q7q H.ty (n46 H) hm (q1q (l:=[]) (by kernel_rfl) trivial) qn3 K0
theorem ok46 {T:Told} (H:qac T):qaf T Tryd.prog 46 c46 :=
 qax H.ty (n46 H) hm (lh:=qh7) (ct:=c46) (dcd:=fun y=>(y.2.1)) Tryd.func46 (by kernel_rfl) (by rfl) (q1q (l:=[(.loop (q3q 5 (q4q Tryd.f46) .skip),⟨qee,qfk,lp qfj K0⟩)]) (by kernel_rfl) ⟨qn2 H,trivial⟩) (by decide) (fun _=>rfl) (fun x r h=>(qn4 x.1 x.2.1).trans h)
theorem n47 {T:Told} (H:qac T):qag T Tryd.prog (envL e47):=q5q (l:=e47) ⟨ok28 H,ok57 H,trivial⟩
theorem ok47 {T:Told} (H:qac T):qaf T Tryd.prog 47 c47 :=
 qax H.ty (n47 H) hm (lh:=qkm) (ct:=c47) (dcd:=fun y=>(y.2.1)) Tryd.func47 (by kernel_rfl) (by rfl) (q1q (l:=[]) (by kernel_rfl) trivial) (by decide) (fun _=>rfl) (fun x r h=>(qn1 x.1 x.2.1).trans h)
theorem n48 {T:Told} (H:qac T):qag T Tryd.prog (envL e48):=q5q (l:=e48) ⟨ok28 H,ok57 H,ok60 H,trivial⟩
theorem ok48 {T:Told} (H:qac T):qaf T Tryd.prog 48 c48 :=
 qax H.ty (n48 H) hm (lh:=qkl) (ct:=c48) (dcd:=fun y=>(y.2.1,y.2.2.1)) Tryd.func48 (by kernel_rfl) (by rfl) (q1q (l:=[]) (by kernel_rfl) trivial) (by decide) (fun _=>rfl) (fun x r h=>(qnU x.1 x.2.1).trans h)
theorem n32 {T:Told} (H:qac T):qag T Tryd.prog (envL e32):=q5q (l:=e32) ⟨ok30 H,ok45 H,ok46 H,ok47 H,ok48 H,trivial⟩
theorem ok32 {T:Told} (H:qac T):qaf T Tryd.prog 32 c32 :=
 qax H.ty (n32 H) hm (lh:=qin) (ct:=c32) (dcd:=fun y=>(y.2.1)) Tryd.func32 (by kernel_rfl) (by rfl) (q1q (l:=[]) (by kernel_rfl) trivial) (by decide) (fun _=>rfl) (fun x r h=>(qlp x.1 x.2.1).trans h)
theorem n35 {T:Told} (H:qac T):qag T Tryd.prog (envL e35):=q5q (l:=e35) ⟨ok28 H,ok42 H,trivial⟩
theorem qnV {T:Told} (H:qac T):q12q T Tryd.prog 67 (.loop (q3q 8 (q4q Tryd.f35) .skip)) ⟨qec,qfh,lp qff K0⟩ :=
 q7q H.ty (n35 H) hm (q1q (l:=[]) (by kernel_rfl) trivial) qnX K0
theorem qnW {T:Told} (H:qac T):q12q T Tryd.prog 67 (.loop (q3q 4 (q4q Tryd.f35) .skip)) ⟨qed,qfi,lp qfg K0⟩ :=
 q7q H.ty (n35 H) hm (q1q (l:=[(.loop (q3q 8 (q4q Tryd.f35) .skip),⟨qec,qfh,lp qff K0⟩)]) (by kernel_rfl) ⟨qnV H,trivial⟩) qnY K0
theorem ok35 {T:Told} (H:qac T):qaf T Tryd.prog 35 c35 :=
 qax H.ty (n35 H) hm (lh:=qgL) (ct:=c35) (dcd:=fun y=>(y.2.1)) Tryd.func35 (by kernel_rfl) (by rfl) (q1q (l:=[(.loop (q3q 4 (q4q Tryd.f35) .skip),⟨qed,qfi,lp qfg K0⟩)]) (by kernel_rfl) ⟨qnW H,trivial⟩) (by decide) (fun _=>rfl) (fun x r h=>(qnZ x.1 x.2.1).trans h)
theorem n33 {T:Told} (H:qac T):qag T Tryd.prog (envL e33):=q5q (l:=e33) ⟨ok30 H,ok35 H,ok45 H,trivial⟩
theorem ok33 {T:Told} (H:qac T):qaf T Tryd.prog 33 c33 :=
 qax H.ty (n33 H) hm (lh:=qil) (ct:=c33) (dcd:=fun y=>(y.2.1)) Tryd.func33 (by kernel_rfl) (by rfl) (q1q (l:=[]) (by kernel_rfl) trivial) (by decide) (fun _=>rfl) (fun x r h=>(qln x.1 x.2.1).trans h)
theorem n34 {T:Told} (H:qac T):qag T Tryd.prog (envL e34):=q5q (l:=e34) trivial
theorem ok34 {T:Told} (H:qac T):qaf T Tryd.prog 34 c34 :=
 qax H.ty (n34 H) hm (lh:=qit) (ct:=c34) (dcd:=fun y=>(y.2.1)) Tryd.func34 (by kernel_rfl) (by rfl) (q1q (l:=[]) (by kernel_rfl) trivial) (by decide) (fun _=>rfl) (fun x r h=>(qlz x.1).trans h)
theorem n18 {T:Told} (H:qac T):qag T Tryd.prog (envL e18):=q5q (l:=e18) ⟨ok16 H,ok29 H,ok32 H,ok33 H,ok34 H,ok35 H,trivial⟩
theorem ok18 {T:Told} (H:qac T):qaf T Tryd.prog 18 c18 :=
 qax H.ty (n18 H) hm (lh:=qiB) (ct:=c18) (dcd:=fun y=>(y.2.1)) Tryd.func18 (by kernel_rfl) (by rfl) (q1q (l:=[]) (by kernel_rfl) trivial) (by decide) (fun _=>rfl) (fun x r h=>(qlK x.1 x.2.1).trans h)
theorem n13 {T:Told} (H:qac T):qag T Tryd.prog (envL e13):=q5q (l:=e13) ⟨ok17 H,ok18 H,trivial⟩
theorem qlA {T:Told} (H:qac T):q12q T Tryd.prog 18 (.loop (q3q 3 (q4q Tryd.f13) .skip)) ⟨qcU,qdI,lp qdH K0⟩ :=
 q7q H.ty (n13 H) hm (q1q (l:=[]) (by kernel_rfl) trivial) qlB K0
theorem ok13 {T:Told} (H:qac T):qaf T Tryd.prog 13 c13 :=
 qax H.ty (n13 H) hm (lh:=qf6) (ct:=c13) (dcd:=fun y=>(y.2.1)) Tryd.func13 (by kernel_rfl) (by rfl) (q1q (l:=[(.loop (q3q 3 (q4q Tryd.f13) .skip),⟨qcU,qdI,lp qdH K0⟩)]) (by kernel_rfl) ⟨qlA H,trivial⟩) (by decide) (fun _=>rfl) (fun x r h=>(qlC x.1).trans h)
theorem n19 {T:Told} (H:qac T):qag T Tryd.prog (envL e19):=q5q (l:=e19) ⟨ok16 H,ok29 H,ok33 H,ok35 H,trivial⟩
theorem ok19 {T:Told} (H:qac T):qaf T Tryd.prog 19 c19 :=
 qax H.ty (n19 H) hm (lh:=qix) (ct:=c19) (dcd:=fun y=>(y.2.1)) Tryd.func19 (by kernel_rfl) (by rfl) (q1q (l:=[]) (by kernel_rfl) trivial) (by decide) (fun _=>rfl) (fun x r h=>(qlG x.1 x.2.1).trans h)
theorem n27 {T:Told} (H:qac T):qag T Tryd.prog (envL e27):=q5q (l:=e27) ⟨ok30 H,trivial⟩
theorem ok27 {T:Told} (H:qac T):qaf T Tryd.prog 27 c27 :=
 qax H.ty (n27 H) hm (lh:=qhg) (ct:=c27) (dcd:=fun y=>(y.2.1)) Tryd.func27 (by kernel_rfl) (by rfl) (q1q (l:=[]) (by kernel_rfl) trivial) (by decide) (fun _=>rfl) (fun x r h=>(qkB x.1).trans h)
theorem n49 {T:Told} (H:qac T):qag T Tryd.prog (envL e49):=q5q (l:=e49) ⟨ok30 H,ok45 H,trivial⟩
theorem ok49 {T:Told} (H:qac T):qaf T Tryd.prog 49 c49 :=
 qax H.ty (n49 H) hm (lh:=qik) (ct:=c49) (dcd:=fun y=>(y.2.1)) Tryd.func49 (by kernel_rfl) (by rfl) (q1q (l:=[]) (by kernel_rfl) trivial) (by decide) (fun _=>rfl) (fun x r h=>(qlm x.1).trans h)
theorem n36 {T:Told} (H:qac T):qag T Tryd.prog (envL e36):=q5q (l:=e36) ⟨ok27 H,ok29 H,ok30 H,ok49 H,trivial⟩
theorem ok36 {T:Told} (H:qac T):qaf T Tryd.prog 36 c36 :=
 qax H.ty (n36 H) hm (lh:=qhu) (ct:=c36) (dcd:=fun y=>(y.2.1,y.2.2.1)) Tryd.func36 (by kernel_rfl) (by rfl) (q1q (l:=[]) (by kernel_rfl) trivial) (by decide) (fun _=>rfl) (fun x r h=>(qkU x.1 x.2.1).trans h)
theorem n37 {T:Told} (H:qac T):qag T Tryd.prog (envL e37):=q5q (l:=e37) ⟨ok31 H,ok45 H,trivial⟩
theorem ok37 {T:Told} (H:qac T):qaf T Tryd.prog 37 c37 :=
 qax H.ty (n37 H) hm (lh:=qiZ) (ct:=c37) (dcd:=fun y=>(y.2.1)) Tryd.func37 (by kernel_rfl) (by rfl) (q1q (l:=[]) (by kernel_rfl) trivial) (by decide) (fun _=>rfl) (fun x r h=>(qmy x.1).trans h)
theorem n20 {T:Told} (H:qac T):qag T Tryd.prog (envL e20):=q5q (l:=e20) ⟨ok16 H,ok36 H,ok37 H,trivial⟩
theorem ok20 {T:Told} (H:qac T):qaf T Tryd.prog 20 c20 :=
 qax H.ty (n20 H) hm (lh:=qhw) (ct:=c20) (dcd:=fun y=>(y.2.1)) Tryd.func20 (by kernel_rfl) (by rfl) (q1q (l:=[]) (by kernel_rfl) trivial) (by decide) (fun _=>rfl) (fun x r h=>(qkV x.1 x.2.1).trans h)
theorem n25 {T:Told} (H:qac T):qag T Tryd.prog (envL e25):=q5q (l:=e25) ⟨ok16 H,ok34 H,ok36 H,trivial⟩
theorem ok25 {T:Told} (H:qac T):qaf T Tryd.prog 25 c25 :=
 qax H.ty (n25 H) hm (lh:=qiy) (ct:=c25) (dcd:=fun y=>(y.2.1,y.2.2.1)) Tryd.func25 (by kernel_rfl) (by rfl) (q1q (l:=[]) (by kernel_rfl) trivial) (by decide) (fun _=>rfl) (fun x r h=>(qlH x.1).trans h)
theorem n41 {T:Told} (H:qac T):qag T Tryd.prog (envL e41):=q5q (l:=e41) ⟨ok16 H,ok49 H,trivial⟩
theorem ok41 {T:Told} (H:qac T):qaf T Tryd.prog 41 c41 :=
 qax H.ty (n41 H) hm (lh:=qiw) (ct:=c41) (dcd:=fun y=>(y.2.1)) Tryd.func41 (by kernel_rfl) (by rfl) (q1q (l:=[]) (by kernel_rfl) trivial) (by decide) (fun _=>rfl) (fun x r h=>(qlF x.1).trans h)
theorem n26 {T:Told} (H:qac T):qag T Tryd.prog (envL e26):=q5q (l:=e26) ⟨ok18 H,ok41 H,trivial⟩
theorem ok26 {T:Told} (H:qac T):qaf T Tryd.prog 26 c26 :=
 qax H.ty (n26 H) hm (lh:=qiu) (ct:=c26) (dcd:=fun y=>(y.2.1)) Tryd.func26 (by kernel_rfl) (by rfl) (q1q (l:=[]) (by kernel_rfl) trivial) (by decide) (fun _=>rfl) (fun x r h=>(qlD x.1 x.2.1).trans h)
theorem n14 {T:Told} (H:qac T):qag T Tryd.prog (envL e14):=q5q (l:=e14) ⟨ok19 H,ok20 H,ok25 H,ok26 H,trivial⟩
theorem qeZ {T:Told} (H:qac T):q12q T Tryd.prog 104 (.loop (q3q 7 (q4q Tryd.f14) .skip)) ⟨qaq,qaG,lp qaF K0⟩ :=
 q7q H.ty (n14 H) hm (q1q (l:=[]) (by kernel_rfl) trivial) qe0 K0
theorem ok14 {T:Told} (H:qac T):qaf T Tryd.prog 14 c14 :=
 qcd H.ty (n14 H) hm (lh:=qbB) (ct:=c14) (wi:=w14) (dcd:=fun y=>(y.2.1,y.2.2.1)) Tryd.func14 (by kernel_rfl) (by rfl) (q1q (l:=[(.loop (q3q 7 (q4q Tryd.f14) .skip),⟨qaq,qaG,lp qaF K0⟩)]) (by kernel_rfl) ⟨qeZ H,trivial⟩) (fun _=>rfl) rfl (fun x r h=>(qe1 x.1 x.2.1).trans h)
theorem n4 {T:Told} (H:qac T):qag T Tryd.prog (envL e4):=q5q (l:=e4) ⟨ok13 H,ok14 H,trivial⟩
theorem ok4 {T:Told} (H:qac T):qaf T Tryd.prog 4 c4 :=
 qcd H.ty (n4 H) hm (lh:=qdZ) (ct:=c4) (wi:=w4) (dcd:=fun y=>(y.2.1,y.2.2.1,y.2.2.2.1)) Tryd.func4 (by kernel_rfl) (by rfl) (q1q (l:=[]) (by kernel_rfl) trivial) (fun _=>rfl) rfl (fun x r h=>(qgQ x.1 x.2.1).trans h)
theorem n4vN {T:Told} (H:qac T):qag T Tryd.prog (envL e4vN):=q5q (l:=e4vN) trivial
theorem qra {T:Told} (H:qac T):qaf T Tryd.prog 4 c4vN :=
 qcd H.ty (n4vN H) hm (lh:=qdd) (ct:=c4vN) (wi:=w4vN) (dcd:=fun y=>(y.2.1,y.2.2.1)) Tryd.func4 (by kernel_rfl) (by rfl) (q1q (l:=[]) (by kernel_rfl) trivial) (fun _=>rfl) rfl (fun x r h=>(qfD x.1).trans h)
theorem n5 {T:Told} (H:qac T):qag T Tryd.prog (envL e5):=q5q (l:=e5) trivial
theorem ok5 {T:Told} (H:qac T):qaf T Tryd.prog 5 c5 :=
 qcd H.ty (n5 H) hm (lh:=qd0) (ct:=c5) (wi:=w5) (dcd:=fun y=>(y.2.1,y.2.2.1)) Tryd.func5 (by kernel_rfl) (by rfl) (q1q (l:=[]) (by kernel_rfl) trivial) (fun _=>rfl) rfl (fun x r h=>(qgR x.1).trans h)
theorem n5vN {T:Told} (H:qac T):qag T Tryd.prog (envL e5vN):=q5q (l:=e5vN) trivial
theorem qq9 {T:Told} (H:qac T):qaf T Tryd.prog 5 c5vN :=
 qcd H.ty (n5vN H) hm (lh:=qde) (ct:=c5vN) (wi:=w5vN) (dcd:=fun y=>(y.2.1)) Tryd.func5 (by kernel_rfl) (by rfl) (q1q (l:=[]) (by kernel_rfl) trivial) (fun _=>rfl) rfl (fun x r h=>(qfE ).trans h)
theorem n6 {T:Told} (H:qac T):qag T Tryd.prog (envL e6):=q5q (l:=e6) trivial
theorem qf8 {T:Told} (H:qac T):q12q T Tryd.prog 29 (.loop (q3q 4 (q4q Tryd.f6) .skip)) ⟨qaI,qa2,lp qam K0⟩ :=
 q7q H.ty (n6 H) hm (q1q (l:=[]) (by kernel_rfl) trivial) qf9 K0
theorem ok6 {T:Told} (H:qac T):qaf T Tryd.prog 6 c6 :=
 qcd H.ty (n6 H) hm (lh:=qb8) (ct:=c6) (wi:=w6) (dcd:=fun y=>(y.2.1,y.2.2.1)) Tryd.func6 (by kernel_rfl) (by rfl) (q1q (l:=[(.loop (q3q 4 (q4q Tryd.f6) .skip),⟨qaI,qa2,lp qam K0⟩)]) (by kernel_rfl) ⟨qf8 H,trivial⟩) (fun _=>rfl) rfl (fun x r h=>(qga x.1 x.2.1).trans h)
theorem n6vN {T:Told} (H:qac T):qag T Tryd.prog (envL e6vN):=q5q (l:=e6vN) trivial
theorem qq8 {T:Told} (H:qac T):qaf T Tryd.prog 6 c6vN :=
 qcd H.ty (n6vN H) hm (lh:=qcY) (ct:=c6vN) (wi:=w6vN) (dcd:=fun y=>(y.2.1)) Tryd.func6 (by kernel_rfl) (by rfl) (q1q (l:=[]) (by kernel_rfl) trivial) (fun _=>rfl) rfl (fun x r h=>(qe5 x.1).trans h)
theorem n7vN {T:Told} (H:qac T):qag T Tryd.prog (envL e7vN):=q5q (l:=e7vN) trivial
theorem qq7 {T:Told} (H:qac T):qaf T Tryd.prog 7 c7vN :=
 qcd H.ty (n7vN H) hm (lh:=qcZ) (ct:=c7vN) (wi:=w7vN) (dcd:=fun y=>()) Tryd.func7 (by kernel_rfl) (by rfl) (q1q (l:=[]) (by kernel_rfl) trivial) (fun _=>rfl) rfl (fun x r h=>(qe8 ).trans h)
theorem n15 {T:Told} (H:qac T):qag T Tryd.prog (envL e15):=q5q (l:=e15) ⟨ok16 H,ok27 H,trivial⟩
theorem ok15 {T:Told} (H:qac T):qaf T Tryd.prog 15 c15 :=
 qax H.ty (n15 H) hm (lh:=qhq) (ct:=c15) (dcd:=fun y=>(y.2.1)) Tryd.func15 (by kernel_rfl) (by rfl) (q1q (l:=[]) (by kernel_rfl) trivial) (by decide) (fun _=>rfl) (fun x r h=>(qkS x.1).trans h)
theorem n8 {T:Told} (H:qac T):qag T Tryd.prog (envL e8):=q5q (l:=e8) ⟨ok6 H,ok15 H,ok16 H,ok17 H,ok18 H,ok19 H,ok20 H,trivial⟩
theorem qe6 {T:Told} (H:qac T):q12q T Tryd.prog 113 (.loop (q3q 10 (q4q Tryd.f8) .skip)) ⟨qas,qaK,lp qaJ K0⟩ :=
 q7q H.ty (n8 H) hm (q1q (l:=[]) (by kernel_rfl) trivial) qe7 K0
theorem ok8 {T:Told} (H:qac T):qaf T Tryd.prog 8 c8 :=
 qcd H.ty (n8 H) hm (lh:=qbJ) (ct:=c8) (wi:=w8) (dcd:=fun y=>(y.2.1,y.2.2.1)) Tryd.func8 (by kernel_rfl) (by rfl) (q1q (l:=[(.loop (q3q 10 (q4q Tryd.f8) .skip),⟨qas,qaK,lp qaJ K0⟩)]) (by kernel_rfl) ⟨qe6 H,trivial⟩) (fun _=>rfl) rfl (fun x r h=>(qfF x.1 x.2.1 x.2.2.1 x.2.2.2.1).trans h)
theorem n8vN {T:Told} (H:qac T):qag T Tryd.prog (envL e8vN):=q5q (l:=e8vN) trivial
theorem qq6 {T:Told} (H:qac T):qaf T Tryd.prog 8 c8vN :=
 qcd H.ty (n8vN H) hm (lh:=qcs) (ct:=c8vN) (wi:=w8vN) (dcd:=fun y=>(y.2.1)) Tryd.func8 (by kernel_rfl) (by rfl) (q1q (l:=[]) (by kernel_rfl) trivial) (fun _=>rfl) rfl (fun x r h=>(qeD x.1 x.2.1 x.2.2.1).trans h)
theorem n9 {T:Told} (H:qac T):qag T Tryd.prog (envL e9):=q5q (l:=e9) ⟨ok14 H,trivial⟩
theorem qfA {T:Told} (H:qac T):q12q T Tryd.prog 66 (.loop (q3q 8 (q4q Tryd.f9) .skip)) ⟨qaw,qaT,lp qaS K0⟩ :=
 q7q H.ty (n9 H) hm (q1q (l:=[]) (by kernel_rfl) trivial) qfB K0
theorem ok9 {T:Told} (H:qac T):qaf T Tryd.prog 9 c9 :=
 qcd H.ty (n9 H) hm (lh:=qbI) (ct:=c9) (wi:=w9) (dcd:=fun y=>(y.2.1,y.2.2.1)) Tryd.func9 (by kernel_rfl) (by rfl) (q1q (l:=[(.loop (q3q 8 (q4q Tryd.f9) .skip),⟨qaw,qaT,lp qaS K0⟩)]) (by kernel_rfl) ⟨qfA H,trivial⟩) (fun _=>rfl) rfl (fun x r h=>(qfC x.1 x.2.1).trans h)
theorem n9vN {T:Told} (H:qac T):qag T Tryd.prog (envL e9vN):=q5q (l:=e9vN) trivial
theorem qq5 {T:Told} (H:qac T):qaf T Tryd.prog 9 c9vN :=
 qcd H.ty (n9vN H) hm (lh:=qcr) (ct:=c9vN) (wi:=w9vN) (dcd:=fun y=>(y.2.1)) Tryd.func9 (by kernel_rfl) (by rfl) (q1q (l:=[]) (by kernel_rfl) trivial) (fun _=>rfl) rfl (fun x r h=>(qeC x.1).trans h)
theorem n10 {T:Told} (H:qac T):qag T Tryd.prog (envL e10):=q5q (l:=e10) trivial
theorem qe2 {T:Told} (H:qac T):q12q T Tryd.prog 24 (.loop (q3q 5 (q4q Tryd.f10) .skip)) ⟨qar,qaH,lp qah K0⟩ :=
 q7q H.ty (n10 H) hm (q1q (l:=[]) (by kernel_rfl) trivial) qe3 K0
theorem ok10 {T:Told} (H:qac T):qaf T Tryd.prog 10 c10 :=
 qcd H.ty (n10 H) hm (lh:=qbC) (ct:=c10) (wi:=w10) (dcd:=fun y=>(y.2.1,y.2.2.1)) Tryd.func10 (by kernel_rfl) (by rfl) (q1q (l:=[(.loop (q3q 5 (q4q Tryd.f10) .skip),⟨qar,qaH,lp qah K0⟩)]) (by kernel_rfl) ⟨qe2 H,trivial⟩) (fun _=>rfl) rfl (fun x r h=>(qe4 x.1).trans h)
theorem qrd {T:Told} (H:qac T):qag T Tryd.prog (envL qqu):=q5q (l:=qqu) trivial
theorem qqQ {T:Told} (H:qac T):qaf T Tryd.prog 10 qoZ :=
 qcd H.ty (qrd H) hm (lh:=qb7) (ct:=qoZ) (wi:=qp6) (dcd:=fun y=>(y.2.1)) Tryd.func10 (by kernel_rfl) (by rfl) (q1q (l:=[]) (by kernel_rfl) trivial) (fun _=>rfl) rfl (fun x r h=>(qen ).trans h)
theorem n11 {T:Told} (H:qac T):qag T Tryd.prog (envL e11):=q5q (l:=e11) trivial
theorem qfY {T:Told} (H:qac T):q12q T Tryd.prog 32 (.loop (q3q 5 (q4q Tryd.f11) .skip)) ⟨qaA,qaY,lp qak K0⟩ :=
 q7q H.ty (n11 H) hm (q1q (l:=[]) (by kernel_rfl) trivial) qfZ K0
theorem ok11 {T:Told} (H:qac T):qaf T Tryd.prog 11 c11 :=
 qcd H.ty (n11 H) hm (lh:=qbS) (ct:=c11) (wi:=w11) (dcd:=fun y=>(y.2.1,y.2.2.1)) Tryd.func11 (by kernel_rfl) (by rfl) (q1q (l:=[(.loop (q3q 5 (q4q Tryd.f11) .skip),⟨qaA,qaY,lp qak K0⟩)]) (by kernel_rfl) ⟨qfY H,trivial⟩) (fun _=>rfl) rfl (fun x r h=>(qf0 x.1).trans h)
theorem qrc {T:Told} (H:qac T):qag T Tryd.prog (envL qqt):=q5q (l:=qqt) trivial
theorem qqP {T:Told} (H:qac T):qaf T Tryd.prog 11 qoY :=
 qcd H.ty (qrc H) hm (lh:=qcL) (ct:=qoY) (wi:=qp5) (dcd:=fun y=>(y.2.1)) Tryd.func11 (by kernel_rfl) (by rfl) (q1q (l:=[]) (by kernel_rfl) trivial) (fun _=>rfl) rfl (fun x r h=>(qeI ).trans h)
theorem n21 {T:Told} (H:qac T):qag T Tryd.prog (envL e21):=q5q (l:=e21) ⟨ok31 H,ok37 H,trivial⟩
theorem ok21 {T:Told} (H:qac T):qaf T Tryd.prog 21 c21 :=
 qax H.ty (n21 H) hm (lh:=qjp) (ct:=c21) (dcd:=fun y=>(y.2.1)) Tryd.func21 (by kernel_rfl) (by rfl) (q1q (l:=[]) (by kernel_rfl) trivial) (by decide) (fun _=>rfl) (fun x r h=>(qmF x.1).trans h)
theorem n22 {T:Told} (H:qac T):qag T Tryd.prog (envL e22):=q5q (l:=e22) ⟨ok21 H,trivial⟩
theorem ok22 {T:Told} (H:qac T):qaf T Tryd.prog 22 c22 :=
 qax H.ty (n22 H) hm (lh:=qiv) (ct:=c22) (dcd:=fun y=>(y.2.1)) Tryd.func22 (by kernel_rfl) (by rfl) (q1q (l:=[]) (by kernel_rfl) trivial) (by decide) (fun _=>rfl) (fun x r h=>(qlE ).trans h)
theorem n79 {T:Told} (H:qac T):qag T Tryd.prog (envL e79):=q5q (l:=e79) trivial
theorem qk6 {T:Told} (H:qac T):q12q T Tryd.prog 72 (.loop (q3q 9 (q4q Tryd.f79) .skip)) ⟨qck,qdm,lp qdk K0⟩ :=
 q7q H.ty (n79 H) hm (q1q (l:=[]) (by kernel_rfl) trivial) qk8 K0
theorem qk7 {T:Told} (H:qac T):q12q T Tryd.prog 72 (.loop (q3q 4 (q4q Tryd.f79) .skip)) ⟨qcl,qdn,lp qdl K0⟩ :=
 q7q H.ty (n79 H) hm (q1q (l:=[(.loop (q3q 9 (q4q Tryd.f79) .skip),⟨qck,qdm,lp qdk K0⟩)]) (by kernel_rfl) ⟨qk6 H,trivial⟩) qk9 K0
theorem ok79 {T:Told} (H:qac T):qaf T Tryd.prog 79 c79 :=
 qax H.ty (n79 H) hm (lh:=qd2) (ct:=c79) (dcd:=fun y=>(y.2.1)) Tryd.func79 (by kernel_rfl) (by rfl) (q1q (l:=[(.loop (q3q 4 (q4q Tryd.f79) .skip),⟨qcl,qdn,lp qdl K0⟩)]) (by kernel_rfl) ⟨qk7 H,trivial⟩) (by decide) (fun _=>rfl) (fun x r h=>(qla x.1).trans h)
theorem n80 {T:Told} (H:qac T):qag T Tryd.prog (envL e80):=q5q (l:=e80) trivial
theorem qi8 {T:Told} (H:qac T):q12q T Tryd.prog 52 (.loop (q3q 2 (q4q Tryd.f80) .skip)) ⟨qbv,qb1,lp qb0 K0⟩ :=
 q7q H.ty (n80 H) hm (q1q (l:=[]) (by kernel_rfl) trivial) qi9 K0
theorem ok80 {T:Told} (H:qac T):qaf T Tryd.prog 80 c80 :=
 qax H.ty (n80 H) hm (lh:=qeh) (ct:=c80) (dcd:=fun y=>(y.2.1,y.2.2.1)) Tryd.func80 (by kernel_rfl) (by rfl) (q1q (l:=[(.loop (q3q 2 (q4q Tryd.f80) .skip),⟨qbv,qb1,lp qb0 K0⟩)]) (by kernel_rfl) ⟨qi8 H,trivial⟩) (by decide) (fun _=>rfl) (fun x r h=>(qja x.1 x.2.1).trans h)
theorem n81 {T:Told} (H:qac T):qag T Tryd.prog (envL e81):=q5q (l:=e81) trivial
theorem qjU {T:Told} (H:qac T):q12q T Tryd.prog 103 (.loop (q3q 3 (q4q Tryd.f81) .skip)) ⟨qbP,qcy,lp qcx K0⟩ :=
 q7q H.ty (n81 H) hm (q1q (l:=[]) (by kernel_rfl) trivial) qjV K0
theorem qi4 {T:Told} (H:qac T):q12q T Tryd.prog 103 (.loop (q3q 10 (q4q Tryd.f81) .skip)) ⟨qbu,qbZ,lp qbW K0⟩ :=
 q7q H.ty (n81 H) hm (q1q (l:=[]) (by kernel_rfl) trivial) qi7 K0
theorem qi3 {T:Told} (H:qac T):q12q T Tryd.prog 103 (.loop (q3q 17 (q4q Tryd.f81) .skip)) ⟨qbt,qbY,lp qbV K0⟩ :=
 q7q H.ty (n81 H) hm (q1q (l:=[]) (by kernel_rfl) trivial) qi6 K0
theorem qi2 {T:Told} (H:qac T):q12q T Tryd.prog 103 (.loop (q3q 25 (q4q Tryd.f81) .skip)) ⟨qbs,qbX,lp qbU K0⟩ :=
 q7q H.ty (n81 H) hm (q1q (l:=[]) (by kernel_rfl) trivial) qi5 K0
theorem ok81 {T:Told} (H:qac T):qaf T Tryd.prog 81 c81 :=
 qax H.ty (n81 H) hm (lh:=qbO) (ct:=c81) (dcd:=fun y=>(y.2.1,y.2.2.1)) Tryd.func81 (by kernel_rfl) (by rfl) (q1q (l:=[(.loop (q3q 3 (q4q Tryd.f81) .skip),⟨qbP,qcy,lp qcx K0⟩),(.loop (q3q 10 (q4q Tryd.f81) .skip),⟨qbu,qbZ,lp qbW K0⟩),(.loop (q3q 17 (q4q Tryd.f81) .skip),⟨qbt,qbY,lp qbV K0⟩),(.loop (q3q 25 (q4q Tryd.f81) .skip),⟨qbs,qbX,lp qbU K0⟩)]) (by kernel_rfl) ⟨qjU H,qi4 H,qi3 H,qi2 H,trivial⟩) (by decide) (fun _=>rfl) (fun x r h=>(qjW x.1).trans h)
theorem n82 {T:Told} (H:qac T):qag T Tryd.prog (envL e82):=q5q (l:=e82) ⟨ok15 H,trivial⟩
theorem qjb {T:Told} (H:qac T):q12q T Tryd.prog 19 (.loop (q3q 2 (q4q Tryd.f82) .skip)) ⟨qbw,qb3,lp qb2 K0⟩ :=
 q7q H.ty (n82 H) hm (q1q (l:=[]) (by kernel_rfl) trivial) qjc K0
theorem ok82 {T:Told} (H:qac T):qaf T Tryd.prog 82 c82 :=
 qax H.ty (n82 H) hm (lh:=qei) (ct:=c82) (dcd:=fun y=>(y.2.1,y.2.2.1)) Tryd.func82 (by kernel_rfl) (by rfl) (q1q (l:=[(.loop (q3q 2 (q4q Tryd.f82) .skip),⟨qbw,qb3,lp qb2 K0⟩)]) (by kernel_rfl) ⟨qjb H,trivial⟩) (by decide) (fun _=>rfl) (fun x r h=>(qjd x.1).trans h)
theorem n53 {T:Told} (H:qac T):qag T Tryd.prog (envL e53):=q5q (l:=e53) ⟨ok30 H,ok47 H,trivial⟩
theorem ok53 {T:Told} (H:qac T):qaf T Tryd.prog 53 c53 :=
 qax H.ty (n53 H) hm (lh:=qim) (ct:=c53) (dcd:=fun y=>(y.2.1)) Tryd.func53 (by kernel_rfl) (by rfl) (q1q (l:=[]) (by kernel_rfl) trivial) (by decide) (fun _=>rfl) (fun x r h=>(qlo x.1 x.2.1).trans h)
theorem n40 {T:Told} (H:qac T):qag T Tryd.prog (envL e40):=q5q (l:=e40) ⟨ok16 H,ok33 H,ok34 H,ok53 H,trivial⟩
theorem ok40 {T:Told} (H:qac T):qaf T Tryd.prog 40 c40 :=
 qax H.ty (n40 H) hm (lh:=qiA) (ct:=c40) (dcd:=fun y=>(y.2.1)) Tryd.func40 (by kernel_rfl) (by rfl) (q1q (l:=[]) (by kernel_rfl) trivial) (by decide) (fun _=>rfl) (fun x r h=>(qlJ x.1 x.2.1).trans h)
theorem n24 {T:Told} (H:qac T):qag T Tryd.prog (envL e24):=q5q (l:=e24) ⟨ok40 H,trivial⟩
theorem ok24 {T:Told} (H:qac T):qaf T Tryd.prog 24 c24 :=
 qax H.ty (n24 H) hm (lh:=qhr) (ct:=c24) (dcd:=fun y=>(y.2.1)) Tryd.func24 (by kernel_rfl) (by rfl) (q1q (l:=[]) (by kernel_rfl) trivial) (by decide) (fun _=>rfl) (fun x r h=>(qkT x.1 x.2.1).trans h)
theorem n83 {T:Told} (H:qac T):qag T Tryd.prog (envL e83):=q5q (l:=e83) ⟨ok18 H,ok24 H,trivial⟩
theorem qkC {T:Told} (H:qac T):q12q T Tryd.prog 37 (.loop (q3q 2 (q4q Tryd.f83) .skip)) ⟨qcf,qc7,lp qc6 K0⟩ :=
 q7q H.ty (n83 H) hm (q1q (l:=[]) (by kernel_rfl) trivial) qkD K0
theorem ok83 {T:Told} (H:qac T):qaf T Tryd.prog 83 c83 :=
 qax H.ty (n83 H) hm (lh:=qfp) (ct:=c83) (dcd:=fun y=>(y.2.1,y.2.2.1)) Tryd.func83 (by kernel_rfl) (by rfl) (q1q (l:=[(.loop (q3q 2 (q4q Tryd.f83) .skip),⟨qcf,qc7,lp qc6 K0⟩)]) (by kernel_rfl) ⟨qkC H,trivial⟩) (by decide) (fun _=>rfl) (fun x r h=>(qkE x.1).trans h)
theorem n84 {T:Told} (H:qac T):qag T Tryd.prog (envL e84):=q5q (l:=e84) trivial
theorem ok84 {T:Told} (H:qac T):qaf T Tryd.prog 84 c84 :=
 qax H.ty (n84 H) hm (lh:=qgU) (ct:=c84) (dcd:=fun y=>(y.2.1)) Tryd.func84 (by kernel_rfl) (by rfl) (q1q (l:=[]) (by kernel_rfl) trivial) (by decide) (fun _=>rfl) (fun x r h=>(qjX x.1 x.2.1 x.2.2.1).trans h)
theorem n73 {T:Told} (H:qac T):qag T Tryd.prog (envL e73):=q5q (l:=e73) ⟨ok79 H,ok80 H,ok81 H,ok82 H,ok83 H,ok84 H,trivial⟩
theorem qjY {T:Told} (H:qac T):q12q T Tryd.prog 63 (.loop (q3q 7 (q4q Tryd.f73) .skip)) ⟨qbQ,qcB,lp qcz K0⟩ :=
 q7q H.ty (n73 H) hm (q1q (l:=[]) (by kernel_rfl) trivial) qj0 K0
theorem qjZ {T:Told} (H:qac T):q12q T Tryd.prog 63 (.loop (q3q 4 (q4q Tryd.f73) .skip)) ⟨qbR,qcC,lp qcA K0⟩ :=
 q7q H.ty (n73 H) hm (q1q (l:=[(.loop (q3q 7 (q4q Tryd.f73) .skip),⟨qbQ,qcB,lp qcz K0⟩)]) (by kernel_rfl) ⟨qjY H,trivial⟩) qj1 K0
theorem ok73 {T:Told} (H:qac T):qaf T Tryd.prog 73 c73 :=
 qax H.ty (n73 H) hm (lh:=qdG) (ct:=c73) (dcd:=fun y=>(y.2.1)) Tryd.func73 (by kernel_rfl) (by rfl) (q1q (l:=[(.loop (q3q 4 (q4q Tryd.f73) .skip),⟨qbR,qcC,lp qcA K0⟩)]) (by kernel_rfl) ⟨qjZ H,trivial⟩) (by decide) (fun _=>rfl) (fun x r h=>(qj2 x.1).trans h)
theorem n64 {T:Told} (H:qac T):qag T Tryd.prog (envL e64):=q5q (l:=e64) ⟨ok73 H,trivial⟩
theorem ok64 {T:Told} (H:qac T):qaf T Tryd.prog 64 c64 :=
 qax H.ty (n64 H) hm (lh:=qje) (ct:=c64) (dcd:=fun y=>(y.2.1)) Tryd.func64 (by kernel_rfl) (by rfl) (q1q (l:=[]) (by kernel_rfl) trivial) (by decide) (fun _=>rfl) (fun x r h=>(qmz x.1).trans h)
theorem n50 {T:Told} (H:qac T):qag T Tryd.prog (envL e50):=q5q (l:=e50) ⟨ok64 H,trivial⟩
theorem ok50 {T:Told} (H:qac T):qaf T Tryd.prog 50 c50 :=
 qax H.ty (n50 H) hm (lh:=qhl) (ct:=c50) (dcd:=fun y=>(y.2.1)) Tryd.func50 (by kernel_rfl) (by rfl) (q1q (l:=[]) (by kernel_rfl) trivial) (by decide) (fun _=>rfl) (fun x r h=>(qkN x.1 x.2.1).trans h)
theorem n38 {T:Told} (H:qac T):qag T Tryd.prog (envL e38):=q5q (l:=e38) ⟨ok50 H,trivial⟩
theorem ok38 {T:Told} (H:qac T):qaf T Tryd.prog 38 c38 :=
 qax H.ty (n38 H) hm (lh:=qhn) (ct:=c38) (dcd:=fun y=>(y.2.1)) Tryd.func38 (by kernel_rfl) (by rfl) (q1q (l:=[]) (by kernel_rfl) trivial) (by decide) (fun _=>rfl) (fun x r h=>(qkP x.1 x.2.1).trans h)
theorem n51 {T:Told} (H:qac T):qag T Tryd.prog (envL e51):=q5q (l:=e51) ⟨ok17 H,trivial⟩
theorem qh0 {T:Told} (H:qac T):q12q T Tryd.prog 13 (.loop (q3q 3 (q4q Tryd.f51) .skip)) ⟨qbc,qbz,lp qby K0⟩ :=
 q7q H.ty (n51 H) hm (q1q (l:=[]) (by kernel_rfl) trivial) qh1 K0
theorem ok51 {T:Told} (H:qac T):qaf T Tryd.prog 51 c51 :=
 qax H.ty (n51 H) hm (lh:=qdx) (ct:=c51) (dcd:=fun y=>(y.2.1)) Tryd.func51 (by kernel_rfl) (by rfl) (q1q (l:=[(.loop (q3q 3 (q4q Tryd.f51) .skip),⟨qbc,qbz,lp qby K0⟩)]) (by kernel_rfl) ⟨qh0 H,trivial⟩) (by decide) (fun _=>rfl) (fun x r h=>(qh2 x.1).trans h)
theorem n65 {T:Told} (H:qac T):qag T Tryd.prog (envL e65):=q5q (l:=e65) ⟨ok22 H,trivial⟩
theorem ok65 {T:Told} (H:qac T):qaf T Tryd.prog 65 c65 :=
 qcd H.ty (n65 H) hm (lh:=qgc) (ct:=c65) (wi:=w65) (dcd:=fun y=>(y.2.1)) Tryd.func65 (by kernel_rfl) (by rfl) (q1q (l:=[]) (by kernel_rfl) trivial) (fun _=>rfl) rfl (fun x r h=>(qjy ).trans h)
theorem n66 {T:Told} (H:qac T):qag T Tryd.prog (envL e66):=q5q (l:=e66) ⟨ok6 H,ok8 H,ok9 H,ok11 H,ok19 H,trivial⟩
theorem ok66 {T:Told} (H:qac T):qaf T Tryd.prog 66 c66 :=
 qcd H.ty (n66 H) hm (lh:=qdr) (ct:=c66) (wi:=w66) (dcd:=fun y=>(y.2.1,y.2.2.1,y.2.2.2.1,y.2.2.2.2.1,y.2.2.2.2.2.1,y.2.2.2.2.2.2.1,y.2.2.2.2.2.2.2.1,y.2.2.2.2.2.2.2.2.1,y.2.2.2.2.2.2.2.2.2.1,y.2.2.2.2.2.2.2.2.2.2.1)) Tryd.func66 (by kernel_rfl) (by rfl) (q1q (l:=[]) (by kernel_rfl) trivial) (fun _=>rfl) rfl (fun x r h=>(qfX x.1 x.2.1 x.2.2.1 x.2.2.2.1 x.2.2.2.2.1 x.2.2.2.2.2.1 x.2.2.2.2.2.2.1 x.2.2.2.2.2.2.2.1 x.2.2.2.2.2.2.2.2.1 x.2.2.2.2.2.2.2.2.2.1).trans h)
theorem n67 {T:Told} (H:qac T):qag T Tryd.prog (envL e67):=q5q (l:=e67) ⟨ok4 H,ok11 H,ok18 H,ok19 H,ok22 H,ok41 H,trivial⟩
theorem qfx {T:Told} (H:qac T):q12q T Tryd.prog 69 (.loop (q3q 3 (q4q Tryd.f67) .skip)) ⟨qav,qaR,lp qaQ K0⟩ :=
 q7q H.ty (n67 H) hm (q1q (l:=[]) (by kernel_rfl) trivial) qfy K0
theorem ok67 {T:Told} (H:qac T):qaf T Tryd.prog 67 c67 :=
 qcd H.ty (n67 H) hm (lh:=qbH) (ct:=c67) (wi:=w67) (dcd:=fun y=>(y.1.1,y.2.1,y.2.2.1,y.2.2.2.1,y.2.2.2.2.1,y.2.2.2.2.2.1)) Tryd.func67 (by kernel_rfl) (by rfl) (q1q (l:=[(.loop (q3q 3 (q4q Tryd.f67) .skip),⟨qav,qaR,lp qaQ K0⟩)]) (by kernel_rfl) ⟨qfx H,trivial⟩) (fun _=>rfl) rfl (fun x r h=>(qfz x.1 x.2.1 x.2.2.1 x.2.2.2.1 x.2.2.2.2.1 x.2.2.2.2.2.1 x.2.2.2.2.2.2.1 x.2.2.2.2.2.2.2.1 x.2.2.2.2.2.2.2.2.1 x.2.2.2.2.2.2.2.2.2.1 x.2.2.2.2.2.2.2.2.2.2.1 x.2.2.2.2.2.2.2.2.2.2.2.1 x.2.2.2.2.2.2.2.2.2.2.2.2.1 x.2.2.2.2.2.2.2.2.2.2.2.2.2.1 x.2.2.2.2.2.2.2.2.2.2.2.2.2.2.1).trans h)
theorem n7 {T:Told} (H:qac T):qag T Tryd.prog (envL e7):=q5q (l:=e7) trivial
theorem ok7 {T:Told} (H:qac T):qaf T Tryd.prog 7 c7 :=
 qcd H.ty (n7 H) hm (lh:=qdJ) (ct:=c7) (wi:=w7) (dcd:=fun y=>(y.2.1,y.2.2.1)) Tryd.func7 (by kernel_rfl) (by rfl) (q1q (l:=[]) (by kernel_rfl) trivial) (fun _=>rfl) rfl (fun x r h=>(qgb x.1).trans h)
theorem n74 {T:Told} (H:qac T):qag T Tryd.prog (envL e74):=q5q (l:=e74) ⟨ok19 H,ok25 H,trivial⟩
theorem ok74 {T:Told} (H:qac T):qaf T Tryd.prog 74 c74 :=
 qax H.ty (n74 H) hm (lh:=qiz) (ct:=c74) (dcd:=fun y=>(y.2.1,y.2.2.1)) Tryd.func74 (by kernel_rfl) (by rfl) (q1q (l:=[]) (by kernel_rfl) trivial) (by decide) (fun _=>rfl) (fun x r h=>(qlI x.1 x.2.1).trans h)
theorem n85 {T:Told} (H:qac T):qag T Tryd.prog (envL e85):=q5q (l:=e85) ⟨ok40 H,trivial⟩
theorem ok85 {T:Told} (H:qac T):qaf T Tryd.prog 85 c85 :=
 qax H.ty (n85 H) hm (lh:=qhk) (ct:=c85) (dcd:=fun y=>(y.2.1)) Tryd.func85 (by kernel_rfl) (by rfl) (q1q (l:=[]) (by kernel_rfl) trivial) (by decide) (fun _=>rfl) (fun x r h=>(qkM x.1 x.2.1).trans h)
theorem n75 {T:Told} (H:qac T):qag T Tryd.prog (envL e75):=q5q (l:=e75) ⟨ok85 H,trivial⟩
theorem ok75 {T:Told} (H:qac T):qaf T Tryd.prog 75 c75 :=
 qax H.ty (n75 H) hm (lh:=qhm) (ct:=c75) (dcd:=fun y=>(y.2.1)) Tryd.func75 (by kernel_rfl) (by rfl) (q1q (l:=[]) (by kernel_rfl) trivial) (by decide) (fun _=>rfl) (fun x r h=>(qkO x.1 x.2.1).trans h)
theorem n68 {T:Told} (H:qac T):qag T Tryd.prog (envL e68):=q5q (l:=e68) ⟨ok7 H,ok19 H,ok74 H,ok75 H,trivial⟩
theorem ok68 {T:Told} (H:qac T):qaf T Tryd.prog 68 c68 :=
 qcd H.ty (n68 H) hm (lh:=qcV) (ct:=c68) (wi:=w68) (dcd:=fun y=>(y.1.1,y.2.1,y.2.2.1,y.2.2.2.1,y.2.2.2.2.1,y.2.2.2.2.2.1,y.2.2.2.2.2.2.1,y.2.2.2.2.2.2.2.1,y.2.2.2.2.2.2.2.2.1,y.2.2.2.2.2.2.2.2.2.1,y.2.2.2.2.2.2.2.2.2.2.1,y.2.2.2.2.2.2.2.2.2.2.2.1,y.2.2.2.2.2.2.2.2.2.2.2.2.1,y.2.2.2.2.2.2.2.2.2.2.2.2.2.1,y.2.2.2.2.2.2.2.2.2.2.2.2.2.2.1,y.2.2.2.2.2.2.2.2.2.2.2.2.2.2.2.1,y.2.2.2.2.2.2.2.2.2.2.2.2.2.2.2.2.1)) Tryd.func68 (by kernel_rfl) (by rfl) (q1q (l:=[]) (by kernel_rfl) trivial) (fun _=>rfl) rfl (fun x r h=>(qeW x.1 x.2.1 x.2.2.1 x.2.2.2.1 x.2.2.2.2.1 x.2.2.2.2.2.1 x.2.2.2.2.2.2.1 x.2.2.2.2.2.2.2.1 x.2.2.2.2.2.2.2.2.1 x.2.2.2.2.2.2.2.2.2.1 x.2.2.2.2.2.2.2.2.2.2.1 x.2.2.2.2.2.2.2.2.2.2.2.1 x.2.2.2.2.2.2.2.2.2.2.2.2.1 x.2.2.2.2.2.2.2.2.2.2.2.2.2.1 x.2.2.2.2.2.2.2.2.2.2.2.2.2.2.1 x.2.2.2.2.2.2.2.2.2.2.2.2.2.2.2.1 x.2.2.2.2.2.2.2.2.2.2.2.2.2.2.2.2.1).trans h)
theorem n52 {T:Told} (H:qac T):qag T Tryd.prog (envL e52):=q5q (l:=e52) ⟨ok22 H,ok65 H,ok66 H,ok67 H,ok68 H,trivial⟩
theorem qfs {T:Told} (H:qac T):q12q T Tryd.prog 91 (.loop (q3q 9 (q4q Tryd.f52) .skip)) ⟨qat,qaO,lp qaM K0⟩ :=
 q7q H.ty (n52 H) hm (q1q (l:=[]) (by kernel_rfl) trivial) qfu K0
theorem qft {T:Told} (H:qac T):q12q T Tryd.prog 91 (.loop (q3q 1 (q4q Tryd.f52) .skip)) ⟨qau,qaP,lp qaN K0⟩ :=
 q7q H.ty (n52 H) hm (q1q (l:=[(.loop (q3q 9 (q4q Tryd.f52) .skip),⟨qat,qaO,lp qaM K0⟩)]) (by kernel_rfl) ⟨qfs H,trivial⟩) qfv K0
theorem ok52 {T:Told} (H:qac T):qaf T Tryd.prog 52 c52 :=
 qcd H.ty (n52 H) hm (lh:=qa9) (ct:=c52) (wi:=w52) (dcd:=fun y=>(y.1.1,y.2.1,y.2.2.1,y.2.2.2.1,y.2.2.2.2.1,y.2.2.2.2.2.1)) Tryd.func52 (by kernel_rfl) (by rfl) (q1q (l:=[(.loop (q3q 1 (q4q Tryd.f52) .skip),⟨qau,qaP,lp qaN K0⟩)]) (by kernel_rfl) ⟨qft H,trivial⟩) (fun _=>rfl) rfl (fun x r h=>(qfw x.1 x.2.1 x.2.2.1 x.2.2.2.1 x.2.2.2.2.1 x.2.2.2.2.2.1).trans h)
theorem n39 {T:Told} (H:qac T):qag T Tryd.prog (envL e39):=q5q (l:=e39) ⟨ok51 H,ok52 H,trivial⟩
theorem qjv {T:Told} (H:qac T):q12q T Tryd.prog 34 (.loop (q3q 3 (q4q Tryd.f39) .skip)) ⟨qbA,qb6,lp qb5 K0⟩ :=
 q7q H.ty (n39 H) hm (q1q (l:=[]) (by kernel_rfl) trivial) qjw K0
theorem ok39 {T:Told} (H:qac T):qaf T Tryd.prog 39 c39 :=
 qax H.ty (n39 H) hm (lh:=qel) (ct:=c39) (dcd:=fun y=>(y.2.1)) Tryd.func39 (by kernel_rfl) (by rfl) (q1q (l:=[(.loop (q3q 3 (q4q Tryd.f39) .skip),⟨qbA,qb6,lp qb5 K0⟩)]) (by kernel_rfl) ⟨qjv H,trivial⟩) (by decide) (fun _=>rfl) (fun x r h=>(qjx x.1 x.2.1 x.2.2.1 x.2.2.2.1).trans h)
theorem n23 {T:Told} (H:qac T):qag T Tryd.prog (envL e23):=q5q (l:=e23) ⟨ok38 H,ok39 H,trivial⟩
theorem ok23 {T:Told} (H:qac T):qaf T Tryd.prog 23 c23 :=
 qax H.ty (n23 H) hm (lh:=qeE) (ct:=c23) (dcd:=fun y=>(y.2.1,y.2.2.1)) Tryd.func23 (by kernel_rfl) (by rfl) (q1q (l:=[]) (by kernel_rfl) trivial) (by decide) (fun _=>rfl) (fun x r h=>(qhy x.1 x.2.1).trans h)
theorem n12 {T:Told} (H:qac T):qag T Tryd.prog (envL e12):=q5q (l:=e12) ⟨ok20 H,ok21 H,ok22 H,ok23 H,ok24 H,trivial⟩
theorem qgB {r} (h:c12.F ()=r):qa5=r:=by
 subst h
 delta c12
 exact(@F_in [] _ _ (fun _=>qa5) _ _ () _ rfl).symm
theorem qgz (x) (r:c12.T) (h:c12.F x=some r):fnF tb (envL e12) Tryd.f12 qce c12.ps c12.rs (T:=c12.T) (fun y=>(y.2.1)) x=some r:=by
 cases x;exact qgA.trans (qgB h)
theorem ok12 {T:Told} (H:qac T):qaf T Tryd.prog 12 c12 :=
 qax H.ty (n12 H) hm (lh:=qce) (ct:=c12) (dcd:=fun y=>(y.2.1)) Tryd.func12 (by kernel_rfl) (by rfl) (q1q (l:=[]) (by kernel_rfl) trivial) (by decide) (fun _=>rfl) (fun x r h=>qgz x r h)
theorem n3 {T:Told} (H:qac T):qag T Tryd.prog (envL e3):=q5q (l:=e3) ⟨ok4 H,qra H,ok5 H,qq9 H,ok6 H,qq8 H,qq7 H,ok8 H,qq6 H,ok9 H,qq5 H,ok10 H,qqQ H,ok11 H,qqP H,ok12 H,trivial⟩
theorem ok3 {T:Told} (H:qac T):qaf T Tryd.prog 3 c3 :=
 qax H.ty (n3 H) hm (lh:=qbG) (ct:=c3) (dcd:=fun y=>(y.2.1)) Tryd.func3 (by kernel_rfl) (by rfl) (q1q (l:=[]) (by kernel_rfl) trivial) (by decide) (fun _=>rfl) (fun x r h=>(qdW x.1 x.2.1).trans h)
end Go.Proofs.YtmabkjhobhbfdaaDoor.X
