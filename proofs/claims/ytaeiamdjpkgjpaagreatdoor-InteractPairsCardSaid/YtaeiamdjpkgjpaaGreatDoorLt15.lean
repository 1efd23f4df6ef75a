/- Own work: part of the proof; the first line of each part says what it tells. -/
import Derived.Test.YtaeiamdjpkgjpaaGreatDoorLt11
import Derived.Test.YtaeiamdjpkgjpaaGreatDoorLt14


namespace Go.Proofs.YtaeiamdjpkgjpaaGreatDoor.X
open Go
set_option linter.unusedVariables false
set_option linter.unusedSimpArgs false
set_option maxRecDepth 100000
theorem F_in {ps:List (Ty×PM)} {rs:List (Ty×Bool)} {T:Type} {F:HL (fsts ps)->Option T} {enc:T->HL (qiB ps)×HL (fsts rs)} {wi:Option Wir} (x:HL (fsts ps)) {r:Option T} (h:F x=r):(Ctr.mk ps rs T F enc wi).F x=r:=h
theorem hm:Tryz.prog.follows .mixedOrders=true:=by kernel_rfl
structure qac (T:Told):Prop where
 ty:TbOk Tryz.prog tb
 h122:qah T Tryz.prog 122 c122
 h129:qah T Tryz.prog 129 c129
theorem tyO:TbOk Tryz.prog tbO:=qxl (by kernel_rfl)
theorem n48 {T:Told} (H:qac T):qaj T Tryz.prog (envL e48):=q5q (l:=e48) trivial
theorem ok48 {T:Told} (H:qac T):qah T Tryz.prog 48 c48 :=
 qav H.ty (n48 H) hm (lh:=qgu) (ct:=c48) (dcd:=fun y=>(y.2.1)) Tryz.func48 (by kernel_rfl) (by rfl) (q1q (l:=[]) (by kernel_rfl) trivial) (by decide) (fun _=>rfl) (fun x r h=>(qkc x.1).trans h)
theorem n23 {T:Told} (H:qac T):qaj T Tryz.prog (envL e23):=q5q (l:=e23) ⟨ok48 H,trivial⟩
theorem qmt {T:Told} (H:qac T):q12q T Tryz.prog 67 (.loop (q3q 7 (q4q Tryz.f23) .skip)) ⟨qcp,qc8,lp qaM K0⟩ :=
 q7q H.ty (n23 H) hm (q1q (l:=[]) (by kernel_rfl) trivial) qmv K0
theorem qmu {T:Told} (H:qac T):q12q T Tryz.prog 67 (.loop (q3q 3 (q4q Tryz.f23) .skip)) ⟨qcq,qc9,lp qaN K0⟩ :=
 q7q H.ty (n23 H) hm (q1q (l:=[(.loop (q3q 7 (q4q Tryz.f23) .skip),⟨qcp,qc8,lp qaM K0⟩)]) (by kernel_rfl) ⟨qmt H,trivial⟩) qmw K0
theorem ok23 {T:Told} (H:qac T):qah T Tryz.prog 23 c23 :=
 qav H.ty (n23 H) hm (lh:=qd5) (ct:=c23) (dcd:=fun y=>(y.2.1)) Tryz.func23 (by kernel_rfl) (by rfl) (q1q (l:=[(.loop (q3q 3 (q4q Tryz.f23) .skip),⟨qcq,qc9,lp qaN K0⟩)]) (by kernel_rfl) ⟨qmu H,trivial⟩) (by decide) (fun _=>rfl) (fun x r h=>(qmx x.1).trans h)
theorem n49 {T:Told} (H:qac T):qaj T Tryz.prog (envL e49):=q5q (l:=e49) trivial
theorem ok49 {T:Told} (H:qac T):qah T Tryz.prog 49 c49 :=
 qav H.ty (n49 H) hm (lh:=qgt) (ct:=c49) (dcd:=fun y=>(y.2.1)) Tryz.func49 (by kernel_rfl) (by rfl) (q1q (l:=[]) (by kernel_rfl) trivial) (by decide) (fun _=>rfl) (fun x r h=>(qkb x.1).trans h)
theorem n24 {T:Told} (H:qac T):qaj T Tryz.prog (envL e24):=q5q (l:=e24) ⟨ok49 H,trivial⟩
theorem qmq {T:Told} (H:qac T):q12q T Tryz.prog 32 (.loop (q3q 3 (q4q Tryz.f24) .skip)) ⟨qco,qc7,lp qaX K0⟩ :=
 q7q H.ty (n24 H) hm (q1q (l:=[]) (by kernel_rfl) trivial) qmr K0
theorem ok24 {T:Told} (H:qac T):qah T Tryz.prog 24 c24 :=
 qav H.ty (n24 H) hm (lh:=qfB) (ct:=c24) (dcd:=fun y=>(y.2.1)) Tryz.func24 (by kernel_rfl) (by rfl) (q1q (l:=[(.loop (q3q 3 (q4q Tryz.f24) .skip),⟨qco,qc7,lp qaX K0⟩)]) (by kernel_rfl) ⟨qmq H,trivial⟩) (by decide) (fun _=>rfl) (fun x r h=>(qms x.1 x.2.1).trans h)
theorem n6 {T:Told} (H:qac T):qaj T Tryz.prog (envL e6):=q5q (l:=e6) ⟨ok23 H,ok24 H,trivial⟩
theorem ok6 {T:Told} (H:qac T):qah T Tryz.prog 6 c6 :=
 qav H.ty (n6 H) hm (lh:=qhe) (ct:=c6) (dcd:=fun y=>(y.2.1,y.2.2.1)) Tryz.func6 (by kernel_rfl) (by rfl) (q1q (l:=[]) (by kernel_rfl) trivial) (by decide) (fun _=>rfl) (fun x r h=>(qlp x.1 x.2.1).trans h)
theorem n74 {T:Told} (H:qac T):qaj T Tryz.prog (envL e74):=q5q (l:=e74) trivial
theorem qrz {T:Told} (H:qac T):q12q T Tryz.prog 72 (.loop (q3q 9 (q4q Tryz.f74) .skip)) ⟨qeZ,qf4,lp qb8 K0⟩ :=
 q7q H.ty (n74 H) hm (q1q (l:=[]) (by kernel_rfl) trivial) qrB K0
theorem qrA {T:Told} (H:qac T):q12q T Tryz.prog 72 (.loop (q3q 4 (q4q Tryz.f74) .skip)) ⟨qe0,qf5,lp qbm K0⟩ :=
 q7q H.ty (n74 H) hm (q1q (l:=[(.loop (q3q 9 (q4q Tryz.f74) .skip),⟨qeZ,qf4,lp qb8 K0⟩)]) (by kernel_rfl) ⟨qrz H,trivial⟩) qrC K0
theorem ok74 {T:Told} (H:qac T):qah T Tryz.prog 74 c74 :=
 qav H.ty (n74 H) hm (lh:=qhy) (ct:=c74) (dcd:=fun y=>(y.2.1)) Tryz.func74 (by kernel_rfl) (by rfl) (q1q (l:=[(.loop (q3q 4 (q4q Tryz.f74) .skip),⟨qe0,qf5,lp qbm K0⟩)]) (by kernel_rfl) ⟨qrA H,trivial⟩) (by decide) (fun _=>rfl) (fun x r h=>(qrD x.1).trans h)
theorem n75 {T:Told} (H:qac T):qaj T Tryz.prog (envL e75):=q5q (l:=e75) trivial
theorem qo2 {T:Told} (H:qac T):q12q T Tryz.prog 52 (.loop (q3q 2 (q4q Tryz.f75) .skip)) ⟨qdE,qey,lp qbc K0⟩ :=
 q7q H.ty (n75 H) hm (q1q (l:=[]) (by kernel_rfl) trivial) qo3 K0
theorem ok75 {T:Told} (H:qac T):qah T Tryz.prog 75 c75 :=
 qav H.ty (n75 H) hm (lh:=qhW) (ct:=c75) (dcd:=fun y=>(y.2.1,y.2.2.1)) Tryz.func75 (by kernel_rfl) (by rfl) (q1q (l:=[(.loop (q3q 2 (q4q Tryz.f75) .skip),⟨qdE,qey,lp qbc K0⟩)]) (by kernel_rfl) ⟨qo2 H,trivial⟩) (by decide) (fun _=>rfl) (fun x r h=>(qo4 x.1 x.2.1).trans h)
theorem n76 {T:Told} (H:qac T):qaj T Tryz.prog (envL e76):=q5q (l:=e76) trivial
theorem qp7 {T:Told} (H:qac T):q12q T Tryz.prog 103 (.loop (q3q 3 (q4q Tryz.f76) .skip)) ⟨qee,qfb,lp qbW K0⟩ :=
 q7q H.ty (n76 H) hm (q1q (l:=[]) (by kernel_rfl) trivial) qp8 K0
theorem qoY {T:Told} (H:qac T):q12q T Tryz.prog 103 (.loop (q3q 10 (q4q Tryz.f76) .skip)) ⟨qdD,qex,lp qaY K0⟩ :=
 q7q H.ty (n76 H) hm (q1q (l:=[]) (by kernel_rfl) trivial) qo1 K0
theorem qoX {T:Told} (H:qac T):q12q T Tryz.prog 103 (.loop (q3q 17 (q4q Tryz.f76) .skip)) ⟨qdC,qew,lp qbX K0⟩ :=
 q7q H.ty (n76 H) hm (q1q (l:=[]) (by kernel_rfl) trivial) qo0 K0
theorem qoW {T:Told} (H:qac T):q12q T Tryz.prog 103 (.loop (q3q 25 (q4q Tryz.f76) .skip)) ⟨qdB,qev,lp qbb K0⟩ :=
 q7q H.ty (n76 H) hm (q1q (l:=[]) (by kernel_rfl) trivial) qoZ K0
theorem ok76 {T:Told} (H:qac T):qah T Tryz.prog 76 c76 :=
 qav H.ty (n76 H) hm (lh:=qed) (ct:=c76) (dcd:=fun y=>(y.2.1,y.2.2.1)) Tryz.func76 (by kernel_rfl) (by rfl) (q1q (l:=[(.loop (q3q 3 (q4q Tryz.f76) .skip),⟨qee,qfb,lp qbW K0⟩),(.loop (q3q 10 (q4q Tryz.f76) .skip),⟨qdD,qex,lp qaY K0⟩),(.loop (q3q 17 (q4q Tryz.f76) .skip),⟨qdC,qew,lp qbX K0⟩),(.loop (q3q 25 (q4q Tryz.f76) .skip),⟨qdB,qev,lp qbb K0⟩)]) (by kernel_rfl) ⟨qp7 H,qoY H,qoX H,qoW H,trivial⟩) (by decide) (fun _=>rfl) (fun x r h=>(qp9 x.1).trans h)
theorem n66 {T:Told} (H:qac T):qaj T Tryz.prog (envL e66):=q5q (l:=e66) trivial
theorem quc {T:Told} (H:qac T):q12q T Tryz.prog 23 (.loop (q3q 2 (q4q Tryz.f66) .skip)) ⟨qgC,qh5,lp qd2 K0⟩ :=
 q7q H.ty (n66 H) hm (q1q (l:=[]) (by kernel_rfl) trivial) qud K0
theorem ok66 {T:Told} (H:qac T):qah T Tryz.prog 66 c66 :=
 qav H.ty (n66 H) hm (lh:=ql9) (ct:=c66) (dcd:=fun y=>(y.2.1)) Tryz.func66 (by kernel_rfl) (by rfl) (q1q (l:=[(.loop (q3q 2 (q4q Tryz.f66) .skip),⟨qgC,qh5,lp qd2 K0⟩)]) (by kernel_rfl) ⟨quc H,trivial⟩) (by decide) (fun _=>rfl) (fun x r h=>(que x.1).trans h)
theorem n40 {T:Told} (H:qac T):qaj T Tryz.prog (envL e40):=q5q (l:=e40) ⟨ok66 H,trivial⟩
theorem ok40 {T:Told} (H:qac T):qah T Tryz.prog 40 c40 :=
 qav H.ty (n40 H) hm (lh:=qs4) (ct:=c40) (dcd:=fun y=>(y.2.1)) Tryz.func40 (by kernel_rfl) (by rfl) (q1q (l:=[]) (by kernel_rfl) trivial) (by decide) (fun _=>rfl) (fun x r h=>(qxQ x.1).trans h)
theorem n16 {T:Told} (H:qac T):qaj T Tryz.prog (envL e16):=q5q (l:=e16) ⟨ok40 H,trivial⟩
theorem ok16 {T:Told} (H:qac T):qah T Tryz.prog 16 c16 :=
 qav H.ty (n16 H) hm (lh:=qmJ) (ct:=c16) (dcd:=fun y=>(y.2.1)) Tryz.func16 (by kernel_rfl) (by rfl) (q1q (l:=[]) (by kernel_rfl) trivial) (by decide) (fun _=>rfl) (fun x r h=>(qrk ).trans h)
theorem n60 {T:Told} (H:qac T):qaj T Tryz.prog (envL e60):=q5q (l:=e60) ⟨ok66 H,trivial⟩
theorem qs5 {T:Told} (H:qac T):q12q T Tryz.prog 24 (.loop (q3q 3 (q4q Tryz.f60) .skip)) ⟨qfQ,qg1,lp qdj K0⟩ :=
 q7q H.ty (n60 H) hm (q1q (l:=[]) (by kernel_rfl) trivial) qs6 K0
theorem ok60 {T:Told} (H:qac T):qah T Tryz.prog 60 c60 :=
 qav H.ty (n60 H) hm (lh:=qkI) (ct:=c60) (dcd:=fun y=>(y.2.1)) Tryz.func60 (by kernel_rfl) (by rfl) (q1q (l:=[(.loop (q3q 3 (q4q Tryz.f60) .skip),⟨qfQ,qg1,lp qdj K0⟩)]) (by kernel_rfl) ⟨qs5 H,trivial⟩) (by decide) (fun _=>rfl) (fun x r h=>(qs7 x.1).trans h)
theorem n92 {T:Told} (H:qac T):qaj T Tryz.prog (envL e92):=q5q (l:=e92) trivial
theorem qsU {T:Told} (H:qac T):q12q T Tryz.prog 45 (.loop (q3q 6 (q4q Tryz.f92) .skip)) ⟨qfM,qgX,lp qcT K0⟩ :=
 q7q H.ty (n92 H) hm (q1q (l:=[]) (by kernel_rfl) trivial) qsV K0
theorem ok92 {T:Told} (H:qac T):qah T Tryz.prog 92 c92 :=
 qav H.ty (n92 H) hm (lh:=qkC) (ct:=c92) (dcd:=fun y=>(y.2.1)) Tryz.func92 (by kernel_rfl) (by rfl) (q1q (l:=[(.loop (q3q 6 (q4q Tryz.f92) .skip),⟨qfM,qgX,lp qcT K0⟩)]) (by kernel_rfl) ⟨qsU H,trivial⟩) (by decide) (fun _=>rfl) (fun x r h=>(qsW x.1 x.2.1).trans h)
theorem n121 {T:Told} (H:qac T):qaj T Tryz.prog (envL e121):=q5q (l:=e121) ⟨ok60 H,trivial⟩
theorem qC2 {T:Told} (H:qac T):qah T Tryz.prog 121 c121 :=
 qav H.ty (n121 H) hm (lh:=qs3) (ct:=c121) (dcd:=fun y=>(y.2.1,y.2.2.1)) Tryz.func121 (by kernel_rfl) (by rfl) (q1q (l:=[]) (by kernel_rfl) trivial) (by decide) (fun _=>rfl) (fun x r h=>(qxP x.1).trans h)
theorem n97 {T:Told} (H:qac T):qaj T Tryz.prog (envL e97):=q5q (l:=e97) ⟨ok40 H,qC2 H,trivial⟩
theorem qru {T:Told} (H:qac T):q12q T Tryz.prog 27 (.loop (q3q 3 (q4q Tryz.f97) .skip)) ⟨qeW,qf3,lp qdi K0⟩ :=
 q7q H.ty (n97 H) hm (q1q (l:=[]) (by kernel_rfl) trivial) qrv K0
theorem ok97 {T:Told} (H:qac T):qah T Tryz.prog 97 c97 :=
 qav H.ty (n97 H) hm (lh:=qjL) (ct:=c97) (dcd:=fun y=>(y.2.1)) Tryz.func97 (by kernel_rfl) (by rfl) (q1q (l:=[(.loop (q3q 3 (q4q Tryz.f97) .skip),⟨qeW,qf3,lp qdi K0⟩)]) (by kernel_rfl) ⟨qru H,trivial⟩) (by decide) (fun _=>rfl) (fun x r h=>(qrw x.1 x.2.1).trans h)
theorem n98 {T:Told} (H:qac T):qaj T Tryz.prog (envL e98):=q5q (l:=e98) ⟨H.h122,trivial⟩
theorem qsO {T:Told} (H:qac T):q12q T Tryz.prog 24 (.loop (q3q 3 (q4q Tryz.f98) .skip)) ⟨qfK,qgV,lp qdW K0⟩ :=
 q7q H.ty (n98 H) hm (q1q (l:=[]) (by kernel_rfl) trivial) qsP K0
theorem ok98 {T:Told} (H:qac T):qah T Tryz.prog 98 c98 :=
 qav H.ty (n98 H) hm (lh:=qkz) (ct:=c98) (dcd:=fun y=>(y.2.1)) Tryz.func98 (by kernel_rfl) (by rfl) (q1q (l:=[(.loop (q3q 3 (q4q Tryz.f98) .skip),⟨qfK,qgV,lp qdW K0⟩)]) (by kernel_rfl) ⟨qsO H,trivial⟩) (by decide) (fun _=>rfl) (fun x r h=>(qsQ x.1).trans h)
theorem n105 {T:Told} (H:qac T):qaj T Tryz.prog (envL e105):=q5q (l:=e105) trivial
theorem qxN {T:Told} (H:qac T):qah T Tryz.prog 105 c105 :=
 qav H.ty (n105 H) hm (lh:=qpE) (ct:=c105) (dcd:=fun y=>(y.2.1)) Tryz.func105 (by kernel_rfl) (by rfl) (q1q (l:=[]) (by kernel_rfl) trivial) (by decide) (fun _=>rfl) (fun x r h=>(qum x.1 x.2.1).trans h)
theorem n99 {T:Told} (H:qac T):qaj T Tryz.prog (envL e99):=q5q (l:=e99) ⟨ok66 H,qxN H,trivial⟩
theorem qwc {T:Told} (H:qac T):q12q T Tryz.prog 50 (.loop (q3q 6 (q4q Tryz.f99) .skip)) ⟨qhP,qje,lp qeU K0⟩ :=
 q7q H.ty (n99 H) hm (q1q (l:=[]) (by kernel_rfl) trivial) qwd K0
theorem ok99 {T:Told} (H:qac T):qah T Tryz.prog 99 c99 :=
 qav H.ty (n99 H) hm (lh:=qnD) (ct:=c99) (dcd:=fun y=>(y.2.1)) Tryz.func99 (by kernel_rfl) (by rfl) (q1q (l:=[(.loop (q3q 6 (q4q Tryz.f99) .skip),⟨qhP,qje,lp qeU K0⟩)]) (by kernel_rfl) ⟨qwc H,trivial⟩) (by decide) (fun _=>rfl) (fun x r h=>(qwe x.1 x.2.1).trans h)
theorem n100 {T:Told} (H:qac T):qaj T Tryz.prog (envL e100):=q5q (l:=e100) ⟨ok66 H,trivial⟩
theorem qwf {T:Told} (H:qac T):q12q T Tryz.prog 51 (.loop (q3q 4 (q4q Tryz.f100) .skip)) ⟨qhQ,qjf,lp qeV K0⟩ :=
 q7q H.ty (n100 H) hm (q1q (l:=[]) (by kernel_rfl) trivial) qwg K0
theorem qCo {T:Told} (H:qac T):qah T Tryz.prog 100 c100 :=
 qav H.ty (n100 H) hm (lh:=qnE) (ct:=c100) (dcd:=fun y=>(y.2.1)) Tryz.func100 (by kernel_rfl) (by rfl) (q1q (l:=[(.loop (q3q 4 (q4q Tryz.f100) .skip),⟨qhQ,qjf,lp qeV K0⟩)]) (by kernel_rfl) ⟨qwf H,trivial⟩) (by decide) (fun _=>rfl) (fun x r h=>(qwh x.1 x.2.1).trans h)
theorem n103 {T:Told} (H:qac T):qaj T Tryz.prog (envL e103):=q5q (l:=e103) ⟨ok66 H,trivial⟩
theorem qsR {T:Told} (H:qac T):q12q T Tryz.prog 38 (.loop (q3q 4 (q4q Tryz.f103) .skip)) ⟨qfL,qgW,lp qdX K0⟩ :=
 q7q H.ty (n103 H) hm (q1q (l:=[]) (by kernel_rfl) trivial) qsS K0
theorem qDc {T:Told} (H:qac T):qah T Tryz.prog 103 c103 :=
 qav H.ty (n103 H) hm (lh:=qkA) (ct:=c103) (dcd:=fun y=>(y.2.1,y.2.2.1)) Tryz.func103 (by kernel_rfl) (by rfl) (q1q (l:=[(.loop (q3q 4 (q4q Tryz.f103) .skip),⟨qfL,qgW,lp qdX K0⟩)]) (by kernel_rfl) ⟨qsR H,trivial⟩) (by decide) (fun _=>rfl) (fun x r h=>(qsT x.1 x.2.1).trans h)
theorem n123 {T:Told} (H:qac T):qaj T Tryz.prog (envL e123):=q5q (l:=e123) ⟨H.h129,trivial⟩
theorem qC1 {T:Told} (H:qac T):qah T Tryz.prog 123 c123 :=
 qav H.ty (n123 H) hm (lh:=qgv) (ct:=c123) (dcd:=fun y=>(y.2.1)) Tryz.func123 (by kernel_rfl) (by rfl) (q1q (l:=[]) (by kernel_rfl) trivial) (by decide) (fun _=>rfl) (fun x r h=>(qkd x.1).trans h)
theorem n130 {T:Told} (H:qac T):qaj T Tryz.prog (envL e130):=q5q (l:=e130) ⟨qxN H,trivial⟩
theorem quf {T:Told} (H:qac T):q12q T Tryz.prog 46 (.loop (q3q 3 (q4q Tryz.f130) .skip)) ⟨qgD,qh6,lp qeI K0⟩ :=
 q7q H.ty (n130 H) hm (q1q (l:=[]) (by kernel_rfl) trivial) qug K0
theorem qCY {T:Told} (H:qac T):qah T Tryz.prog 130 c130 :=
 qav H.ty (n130 H) hm (lh:=qma) (ct:=c130) (dcd:=fun y=>(y.1.1,y.2.1)) Tryz.func130 (by kernel_rfl) (by rfl) (q1q (l:=[(.loop (q3q 3 (q4q Tryz.f130) .skip),⟨qgD,qh6,lp qeI K0⟩)]) (by kernel_rfl) ⟨quf H,trivial⟩) (by decide) (fun _=>rfl) (fun x r h=>(quh x.1 x.2.1 x.2.2.1).trans h)
theorem n131 {T:Told} (H:qac T):qaj T Tryz.prog (envL e131):=q5q (l:=e131) ⟨qxN H,trivial⟩
theorem qun {T:Told} (H:qac T):q12q T Tryz.prog 29 (.loop (q3q 2 (q4q Tryz.f131) .skip)) ⟨qgF,qh9,lp qeJ K0⟩ :=
 q7q H.ty (n131 H) hm (q1q (l:=[]) (by kernel_rfl) trivial) qup K0
theorem qCX {T:Told} (H:qac T):qah T Tryz.prog 131 c131 :=
 qav H.ty (n131 H) hm (lh:=qmc) (ct:=c131) (dcd:=fun y=>(y.1.1)) Tryz.func131 (by kernel_rfl) (by rfl) (q1q (l:=[(.loop (q3q 2 (q4q Tryz.f131) .skip),⟨qgF,qh9,lp qeJ K0⟩)]) (by kernel_rfl) ⟨qun H,trivial⟩) (by decide) (fun _=>rfl) (fun x r h=>(quq x.1 x.2.1).trans h)
theorem n124 {T:Told} (H:qac T):qaj T Tryz.prog (envL e124):=q5q (l:=e124) ⟨qCY H,qCX H,trivial⟩
theorem qs0 {T:Told} (H:qac T):q12q T Tryz.prog 77 (.loop (q3q 4 (q4q Tryz.f124) .skip)) ⟨qfO,qg0,lp qbL K0⟩ :=
 q7q H.ty (n124 H) hm (q1q (l:=[]) (by kernel_rfl) trivial) qs1 K0
theorem qC0 {T:Told} (H:qac T):qah T Tryz.prog 124 c124 :=
 qav H.ty (n124 H) hm (lh:=qkE) (ct:=c124) (dcd:=fun y=>(y.1.1,y.2.1)) Tryz.func124 (by kernel_rfl) (by rfl) (q1q (l:=[(.loop (q3q 4 (q4q Tryz.f124) .skip),⟨qfO,qg0,lp qbL K0⟩)]) (by kernel_rfl) ⟨qs0 H,trivial⟩) (by decide) (fun _=>rfl) (fun x r h=>(qs2 x.1 x.2.1).trans h)
theorem n104 {T:Told} (H:qac T):qaj T Tryz.prog (envL e104):=q5q (l:=e104) ⟨ok66 H,ok99 H,qCo H,qC1 H,qC0 H,trivial⟩
theorem quj {T:Told} (H:qac T):q12q T Tryz.prog 64 (.loop (q3q 7 (q4q Tryz.f104) .skip)) ⟨qgE,qh8,lp qd4 K0⟩ :=
 q7q H.ty (n104 H) hm (q1q (l:=[]) (by kernel_rfl) trivial) quk K0
theorem qDb {T:Told} (H:qac T):qah T Tryz.prog 104 c104 :=
 qav H.ty (n104 H) hm (lh:=qmb) (ct:=c104) (dcd:=fun y=>(y.2.1,y.2.2.1)) Tryz.func104 (by kernel_rfl) (by rfl) (q1q (l:=[(.loop (q3q 7 (q4q Tryz.f104) .skip),⟨qgE,qh8,lp qd4 K0⟩)]) (by kernel_rfl) ⟨quj H,trivial⟩) (by decide) (fun _=>rfl) (fun x r h=>(qul x.1 x.2.1).trans h)
theorem n68 {T:Told} (H:qac T):qaj T Tryz.prog (envL e68):=q5q (l:=e68) ⟨ok40 H,ok60 H,ok92 H,qDc H,qDb H,trivial⟩
theorem ok68 {T:Told} (H:qac T):qah T Tryz.prog 68 c68 :=
 qav H.ty (n68 H) hm (lh:=qm3) (ct:=c68) (dcd:=fun y=>(y.2.1,y.2.2.1,y.2.2.2.1)) Tryz.func68 (by kernel_rfl) (by rfl) (q1q (l:=[]) (by kernel_rfl) trivial) (by decide) (fun _=>rfl) (fun x r h=>(qrx x.1 x.2.1).trans h)
theorem n101 {T:Told} (H:qac T):qaj T Tryz.prog (envL e101):=q5q (l:=e101) ⟨ok68 H,trivial⟩
theorem qDd {T:Told} (H:qac T):qah T Tryz.prog 101 c101 :=
 qav H.ty (n101 H) hm (lh:=qpD) (ct:=c101) (dcd:=fun y=>(y.2.1,y.2.2.1)) Tryz.func101 (by kernel_rfl) (by rfl) (q1q (l:=[]) (by kernel_rfl) trivial) (by decide) (fun _=>rfl) (fun x r h=>(qui x.1 x.2.1).trans h)
theorem n102 {T:Told} (H:qac T):qaj T Tryz.prog (envL e102):=q5q (l:=e102) ⟨ok66 H,qxN H,trivial⟩
theorem qsX {T:Told} (H:qac T):q12q T Tryz.prog 39 (.loop (q3q 4 (q4q Tryz.f102) .skip)) ⟨qfN,qgZ,lp qdY K0⟩ :=
 q7q H.ty (n102 H) hm (q1q (l:=[]) (by kernel_rfl) trivial) qsY K0
theorem qCn {T:Told} (H:qac T):qah T Tryz.prog 102 c102 :=
 qav H.ty (n102 H) hm (lh:=qkD) (ct:=c102) (dcd:=fun y=>(y.2.1)) Tryz.func102 (by kernel_rfl) (by rfl) (q1q (l:=[(.loop (q3q 4 (q4q Tryz.f102) .skip),⟨qfN,qgZ,lp qdY K0⟩)]) (by kernel_rfl) ⟨qsX H,trivial⟩) (by decide) (fun _=>rfl) (fun x r h=>(qsZ x.1 x.2.1).trans h)
theorem n67 {T:Told} (H:qac T):qaj T Tryz.prog (envL e67):=q5q (l:=e67) ⟨ok60 H,ok92 H,ok97 H,ok98 H,ok99 H,qCo H,qDd H,qCn H,trivial⟩
theorem qur {T:Told} (H:qac T):q12q T Tryz.prog 86 (.loop (q3q 10 (q4q Tryz.f67) .skip)) ⟨qgG,qia,lp qb6 K0⟩ :=
 q7q H.ty (n67 H) hm (q1q (l:=[]) (by kernel_rfl) trivial) qus K0
theorem ok67 {T:Told} (H:qac T):qah T Tryz.prog 67 c67 :=
 qav H.ty (n67 H) hm (lh:=qnF) (ct:=c67) (dcd:=fun y=>(y.2.1)) Tryz.func67 (by kernel_rfl) (by rfl) (q1q (l:=[(.loop (q3q 10 (q4q Tryz.f67) .skip),⟨qgG,qia,lp qb6 K0⟩)]) (by kernel_rfl) ⟨qur H,trivial⟩) (by decide) (fun _=>rfl) (fun x r h=>(qwo x.1 x.2.1).trans h)
theorem n41 {T:Told} (H:qac T):qaj T Tryz.prog (envL e41):=q5q (l:=e41) ⟨ok40 H,ok67 H,ok68 H,trivial⟩
theorem ok41 {T:Told} (H:qac T):qah T Tryz.prog 41 c41 :=
 qav H.ty (n41 H) hm (lh:=qmI) (ct:=c41) (dcd:=fun y=>(y.2.1)) Tryz.func41 (by kernel_rfl) (by rfl) (q1q (l:=[]) (by kernel_rfl) trivial) (by decide) (fun _=>rfl) (fun x r h=>(qrj x.1 x.2.1).trans h)
theorem n63 {T:Told} (H:qac T):qaj T Tryz.prog (envL e63):=q5q (l:=e63) trivial
theorem ok63 {T:Told} (H:qac T):qah T Tryz.prog 63 c63 :=
 qav H.ty (n63 H) hm (lh:=qmA) (ct:=c63) (dcd:=fun y=>(y.2.1)) Tryz.func63 (by kernel_rfl) (by rfl) (q1q (l:=[]) (by kernel_rfl) trivial) (by decide) (fun _=>rfl) (fun x r h=>(qq1 x.1 x.2.1).trans h)
theorem n61 {T:Told} (H:qac T):qaj T Tryz.prog (envL e61):=q5q (l:=e61) ⟨ok60 H,ok63 H,trivial⟩
theorem ok61 {T:Told} (H:qac T):qah T Tryz.prog 61 c61 :=
 qav H.ty (n61 H) hm (lh:=qlV) (ct:=c61) (dcd:=fun y=>(y.2.1)) Tryz.func61 (by kernel_rfl) (by rfl) (q1q (l:=[]) (by kernel_rfl) trivial) (by decide) (fun _=>rfl) (fun x r h=>(qp6 x.1).trans h)
theorem n35 {T:Told} (H:qac T):qaj T Tryz.prog (envL e35):=q5q (l:=e35) ⟨ok16 H,ok41 H,ok60 H,ok61 H,trivial⟩
theorem ok35 {T:Told} (H:qac T):qah T Tryz.prog 35 c35 :=
 qav H.ty (n35 H) hm (lh:=qlZ) (ct:=c35) (dcd:=fun y=>(y.2.1)) Tryz.func35 (by kernel_rfl) (by rfl) (q1q (l:=[]) (by kernel_rfl) trivial) (by decide) (fun _=>rfl) (fun x r h=>(qqg x.1).trans h)
theorem n80 {T:Told} (H:qac T):qaj T Tryz.prog (envL e80):=q5q (l:=e80) ⟨ok61 H,trivial⟩
theorem ok80 {T:Told} (H:qac T):qah T Tryz.prog 80 c80 :=
 qav H.ty (n80 H) hm (lh:=qmB) (ct:=c80) (dcd:=fun y=>(y.2.1)) Tryz.func80 (by kernel_rfl) (by rfl) (q1q (l:=[]) (by kernel_rfl) trivial) (by decide) (fun _=>rfl) (fun x r h=>(qq2 x.1).trans h)
theorem n110 {T:Told} (H:qac T):qaj T Tryz.prog (envL e110):=q5q (l:=e110) ⟨ok35 H,ok80 H,trivial⟩
theorem qCm {T:Told} (H:qac T):qah T Tryz.prog 110 c110 :=
 qav H.ty (n110 H) hm (lh:=qmL) (ct:=c110) (dcd:=fun y=>(y.2.1)) Tryz.func110 (by kernel_rfl) (by rfl) (q1q (l:=[]) (by kernel_rfl) trivial) (by decide) (fun _=>rfl) (fun x r h=>(qrl x.1).trans h)
theorem n77 {T:Told} (H:qac T):qaj T Tryz.prog (envL e77):=q5q (l:=e77) ⟨qCm H,trivial⟩
theorem qo5 {T:Told} (H:qac T):q12q T Tryz.prog 19 (.loop (q3q 2 (q4q Tryz.f77) .skip)) ⟨qdF,qez,lp qbd K0⟩ :=
 q7q H.ty (n77 H) hm (q1q (l:=[]) (by kernel_rfl) trivial) qo6 K0
theorem ok77 {T:Told} (H:qac T):qah T Tryz.prog 77 c77 :=
 qav H.ty (n77 H) hm (lh:=qhX) (ct:=c77) (dcd:=fun y=>(y.2.1,y.2.2.1)) Tryz.func77 (by kernel_rfl) (by rfl) (q1q (l:=[(.loop (q3q 2 (q4q Tryz.f77) .skip),⟨qdF,qez,lp qbd K0⟩)]) (by kernel_rfl) ⟨qo5 H,trivial⟩) (by decide) (fun _=>rfl) (fun x r h=>(qo7 x.1).trans h)
theorem n62 {T:Told} (H:qac T):qaj T Tryz.prog (envL e62):=q5q (l:=e62) ⟨ok60 H,ok92 H,trivial⟩
theorem ok62 {T:Told} (H:qac T):qah T Tryz.prog 62 c62 :=
 qav H.ty (n62 H) hm (lh:=qqG) (ct:=c62) (dcd:=fun y=>(y.2.1)) Tryz.func62 (by kernel_rfl) (by rfl) (q1q (l:=[]) (by kernel_rfl) trivial) (by decide) (fun _=>rfl) (fun x r h=>(qwp x.1 x.2.1).trans h)
theorem n36 {T:Told} (H:qac T):qaj T Tryz.prog (envL e36):=q5q (l:=e36) ⟨ok61 H,ok62 H,trivial⟩
theorem ok36 {T:Told} (H:qac T):qah T Tryz.prog 36 c36 :=
 qav H.ty (n36 H) hm (lh:=qn5) (ct:=c36) (dcd:=fun y=>(y.2.1)) Tryz.func36 (by kernel_rfl) (by rfl) (q1q (l:=[]) (by kernel_rfl) trivial) (by decide) (fun _=>rfl) (fun x r h=>(qr4 x.1 x.2.1).trans h)
theorem n43 {T:Told} (H:qac T):qaj T Tryz.prog (envL e43):=q5q (l:=e43) ⟨ok60 H,ok66 H,trivial⟩
theorem qwj {T:Told} (H:qac T):q12q T Tryz.prog 67 (.loop (q3q 8 (q4q Tryz.f43) .skip)) ⟨qhR,qji,lp qeX K0⟩ :=
 q7q H.ty (n43 H) hm (q1q (l:=[]) (by kernel_rfl) trivial) qwl K0
theorem qwk {T:Told} (H:qac T):q12q T Tryz.prog 67 (.loop (q3q 4 (q4q Tryz.f43) .skip)) ⟨qhS,qjj,lp qfP K0⟩ :=
 q7q H.ty (n43 H) hm (q1q (l:=[(.loop (q3q 8 (q4q Tryz.f43) .skip),⟨qhR,qji,lp qeX K0⟩)]) (by kernel_rfl) ⟨qwj H,trivial⟩) qwm K0
theorem ok43 {T:Told} (H:qac T):qah T Tryz.prog 43 c43 :=
 qav H.ty (n43 H) hm (lh:=qlx) (ct:=c43) (dcd:=fun y=>(y.2.1)) Tryz.func43 (by kernel_rfl) (by rfl) (q1q (l:=[(.loop (q3q 4 (q4q Tryz.f43) .skip),⟨qhS,qjj,lp qfP K0⟩)]) (by kernel_rfl) ⟨qwk H,trivial⟩) (by decide) (fun _=>rfl) (fun x r h=>(qwn x.1 x.2.1).trans h)
theorem n37 {T:Told} (H:qac T):qaj T Tryz.prog (envL e37):=q5q (l:=e37) ⟨ok43 H,ok61 H,ok63 H,trivial⟩
theorem ok37 {T:Told} (H:qac T):qah T Tryz.prog 37 c37 :=
 qav H.ty (n37 H) hm (lh:=qn4) (ct:=c37) (dcd:=fun y=>(y.2.1)) Tryz.func37 (by kernel_rfl) (by rfl) (q1q (l:=[]) (by kernel_rfl) trivial) (by decide) (fun _=>rfl) (fun x r h=>(qr3 x.1 x.2.1).trans h)
theorem n38 {T:Told} (H:qac T):qaj T Tryz.prog (envL e38):=q5q (l:=e38) trivial
theorem ok38 {T:Told} (H:qac T):qah T Tryz.prog 38 c38 :=
 qav H.ty (n38 H) hm (lh:=qoc) (ct:=c38) (dcd:=fun y=>(y.2.1)) Tryz.func38 (by kernel_rfl) (by rfl) (q1q (l:=[]) (by kernel_rfl) trivial) (by decide) (fun _=>rfl) (fun x r h=>(qso x.1).trans h)
theorem n13 {T:Told} (H:qac T):qaj T Tryz.prog (envL e13):=q5q (l:=e13) ⟨ok35 H,ok36 H,ok37 H,ok38 H,trivial⟩
theorem ok13 {T:Told} (H:qac T):qah T Tryz.prog 13 c13 :=
 qav H.ty (n13 H) hm (lh:=qom) (ct:=c13) (dcd:=fun y=>(y.2.1)) Tryz.func13 (by kernel_rfl) (by rfl) (q1q (l:=[]) (by kernel_rfl) trivial) (by decide) (fun _=>rfl) (fun x r h=>(qsB x.1 x.2.1).trans h)
theorem n17 {T:Told} (H:qac T):qaj T Tryz.prog (envL e17):=q5q (l:=e17) ⟨ok13 H,trivial⟩
theorem ok17 {T:Told} (H:qac T):qah T Tryz.prog 17 c17 :=
 qav H.ty (n17 H) hm (lh:=qmM) (ct:=c17) (dcd:=fun y=>(y.2.1)) Tryz.func17 (by kernel_rfl) (by rfl) (q1q (l:=[]) (by kernel_rfl) trivial) (by decide) (fun _=>rfl) (fun x r h=>(qrn x.1 x.2.1).trans h)
theorem n69 {T:Told} (H:qac T):qaj T Tryz.prog (envL e69):=q5q (l:=e69) ⟨ok60 H,ok66 H,qxN H,trivial⟩
theorem qwq {T:Told} (H:qac T):q12q T Tryz.prog 43 (.loop (q3q 5 (q4q Tryz.f69) .skip)) ⟨qhT,qjk,lp qfR K0⟩ :=
 q7q H.ty (n69 H) hm (q1q (l:=[]) (by kernel_rfl) trivial) qwr K0
theorem ok69 {T:Told} (H:qac T):qah T Tryz.prog 69 c69 :=
 qav H.ty (n69 H) hm (lh:=qnG) (ct:=c69) (dcd:=fun y=>(y.2.1)) Tryz.func69 (by kernel_rfl) (by rfl) (q1q (l:=[(.loop (q3q 5 (q4q Tryz.f69) .skip),⟨qhT,qjk,lp qfR K0⟩)]) (by kernel_rfl) ⟨qwq H,trivial⟩) (by decide) (fun _=>rfl) (fun x r h=>(qws x.1 x.2.1).trans h)
theorem n70 {T:Told} (H:qac T):qaj T Tryz.prog (envL e70):=q5q (l:=e70) ⟨ok60 H,ok92 H,qCn H,trivial⟩
theorem ok70 {T:Told} (H:qac T):qah T Tryz.prog 70 c70 :=
 qav H.ty (n70 H) hm (lh:=qqF) (ct:=c70) (dcd:=fun y=>(y.2.1,y.2.2.1)) Tryz.func70 (by kernel_rfl) (by rfl) (q1q (l:=[]) (by kernel_rfl) trivial) (by decide) (fun _=>rfl) (fun x r h=>(qwi x.1 x.2.1).trans h)
theorem n42 {T:Told} (H:qac T):qaj T Tryz.prog (envL e42):=q5q (l:=e42) ⟨ok61 H,ok62 H,ok63 H,ok69 H,ok70 H,trivial⟩
theorem ok42 {T:Told} (H:qac T):qah T Tryz.prog 42 c42 :=
 qav H.ty (n42 H) hm (lh:=qn6) (ct:=c42) (dcd:=fun y=>(y.2.1)) Tryz.func42 (by kernel_rfl) (by rfl) (q1q (l:=[]) (by kernel_rfl) trivial) (by decide) (fun _=>rfl) (fun x r h=>(qr5 x.1 x.2.1).trans h)
theorem n19 {T:Told} (H:qac T):qaj T Tryz.prog (envL e19):=q5q (l:=e19) ⟨ok35 H,ok37 H,ok38 H,ok41 H,ok42 H,ok43 H,trivial⟩
theorem ok19 {T:Told} (H:qac T):qah T Tryz.prog 19 c19 :=
 qav H.ty (n19 H) hm (lh:=qon) (ct:=c19) (dcd:=fun y=>(y.2.1)) Tryz.func19 (by kernel_rfl) (by rfl) (q1q (l:=[]) (by kernel_rfl) trivial) (by decide) (fun _=>rfl) (fun x r h=>(qsC x.1 x.2.1).trans h)
theorem n78 {T:Told} (H:qac T):qaj T Tryz.prog (envL e78):=q5q (l:=e78) ⟨ok17 H,ok19 H,trivial⟩
theorem qq3 {T:Told} (H:qac T):q12q T Tryz.prog 37 (.loop (q3q 2 (q4q Tryz.f78) .skip)) ⟨qeR,qfT,lp qbz K0⟩ :=
 q7q H.ty (n78 H) hm (q1q (l:=[]) (by kernel_rfl) trivial) qq4 K0
theorem ok78 {T:Told} (H:qac T):qah T Tryz.prog 78 c78 :=
 qav H.ty (n78 H) hm (lh:=qjs) (ct:=c78) (dcd:=fun y=>(y.2.1,y.2.2.1)) Tryz.func78 (by kernel_rfl) (by rfl) (q1q (l:=[(.loop (q3q 2 (q4q Tryz.f78) .skip),⟨qeR,qfT,lp qbz K0⟩)]) (by kernel_rfl) ⟨qq3 H,trivial⟩) (by decide) (fun _=>rfl) (fun x r h=>(qq5 x.1).trans h)
theorem n79 {T:Told} (H:qac T):qaj T Tryz.prog (envL e79):=q5q (l:=e79) trivial
theorem ok79 {T:Told} (H:qac T):qah T Tryz.prog 79 c79 :=
 qav H.ty (n79 H) hm (lh:=qlW) (ct:=c79) (dcd:=fun y=>(y.2.1)) Tryz.func79 (by kernel_rfl) (by rfl) (q1q (l:=[]) (by kernel_rfl) trivial) (by decide) (fun _=>rfl) (fun x r h=>(qqa x.1 x.2.1 x.2.2.1).trans h)
theorem n50 {T:Told} (H:qac T):qaj T Tryz.prog (envL e50):=q5q (l:=e50) ⟨ok74 H,ok75 H,ok76 H,ok77 H,ok78 H,ok79 H,trivial⟩
theorem qqb {T:Told} (H:qac T):q12q T Tryz.prog 63 (.loop (q3q 7 (q4q Tryz.f50) .skip)) ⟨qef,qfc,lp qaE K0⟩ :=
 q7q H.ty (n50 H) hm (q1q (l:=[]) (by kernel_rfl) trivial) qqd K0
theorem qqc {T:Told} (H:qac T):q12q T Tryz.prog 63 (.loop (q3q 4 (q4q Tryz.f50) .skip)) ⟨qeg,qfd,lp qbx K0⟩ :=
 q7q H.ty (n50 H) hm (q1q (l:=[(.loop (q3q 7 (q4q Tryz.f50) .skip),⟨qef,qfc,lp qaE K0⟩)]) (by kernel_rfl) ⟨qqb H,trivial⟩) qqe K0
theorem ok50 {T:Told} (H:qac T):qah T Tryz.prog 50 c50 :=
 qav H.ty (n50 H) hm (lh:=qgN) (ct:=c50) (dcd:=fun y=>(y.2.1)) Tryz.func50 (by kernel_rfl) (by rfl) (q1q (l:=[(.loop (q3q 4 (q4q Tryz.f50) .skip),⟨qeg,qfd,lp qbx K0⟩)]) (by kernel_rfl) ⟨qqc H,trivial⟩) (by decide) (fun _=>rfl) (fun x r h=>(qqf x.1).trans h)
theorem n25 {T:Told} (H:qac T):qaj T Tryz.prog (envL e25):=q5q (l:=e25) ⟨ok50 H,trivial⟩
theorem ok25 {T:Told} (H:qac T):qah T Tryz.prog 25 c25 :=
 qav H.ty (n25 H) hm (lh:=qo8) (ct:=c25) (dcd:=fun y=>(y.2.1)) Tryz.func25 (by kernel_rfl) (by rfl) (q1q (l:=[]) (by kernel_rfl) trivial) (by decide) (fun _=>rfl) (fun x r h=>(qtO x.1).trans h)
theorem n7 {T:Told} (H:qac T):qaj T Tryz.prog (envL e7):=q5q (l:=e7) ⟨ok25 H,trivial⟩
theorem ok7 {T:Told} (H:qac T):qah T Tryz.prog 7 c7 :=
 qav H.ty (n7 H) hm (lh:=qij) (ct:=c7) (dcd:=fun y=>(y.2.1)) Tryz.func7 (by kernel_rfl) (by rfl) (q1q (l:=[]) (by kernel_rfl) trivial) (by decide) (fun _=>rfl) (fun x r h=>(qmp x.1 x.2.1).trans h)
theorem n44 {T:Told} (H:qac T):qaj T Tryz.prog (envL e44):=q5q (l:=e44) ⟨ok25 H,trivial⟩
theorem ok44 {T:Told} (H:qac T):qah T Tryz.prog 44 c44 :=
 qav H.ty (n44 H) hm (lh:=qmF) (ct:=c44) (dcd:=fun y=>(y.2.1)) Tryz.func44 (by kernel_rfl) (by rfl) (q1q (l:=[]) (by kernel_rfl) trivial) (by decide) (fun _=>rfl) (fun x r h=>(qrg x.1 x.2.1).trans h)
theorem n29 {T:Told} (H:qac T):qaj T Tryz.prog (envL e29):=q5q (l:=e29) ⟨ok44 H,trivial⟩
theorem ok29 {T:Told} (H:qac T):qah T Tryz.prog 29 c29 :=
 qav H.ty (n29 H) hm (lh:=qmH) (ct:=c29) (dcd:=fun y=>(y.2.1)) Tryz.func29 (by kernel_rfl) (by rfl) (q1q (l:=[]) (by kernel_rfl) trivial) (by decide) (fun _=>rfl) (fun x r h=>(qri x.1 x.2.1).trans h)
theorem n73 {T:Told} (H:qac T):qaj T Tryz.prog (envL e73):=q5q (l:=e73) ⟨ok61 H,ok63 H,trivial⟩
theorem ok73 {T:Told} (H:qac T):qah T Tryz.prog 73 c73 :=
 qav H.ty (n73 H) hm (lh:=qn3) (ct:=c73) (dcd:=fun y=>(y.2.1)) Tryz.func73 (by kernel_rfl) (by rfl) (q1q (l:=[]) (by kernel_rfl) trivial) (by decide) (fun _=>rfl) (fun x r h=>(qr2 x.1).trans h)
theorem n47 {T:Told} (H:qac T):qaj T Tryz.prog (envL e47):=q5q (l:=e47) ⟨ok35 H,ok73 H,trivial⟩
theorem ok47 {T:Told} (H:qac T):qah T Tryz.prog 47 c47 :=
 qav H.ty (n47 H) hm (lh:=qog) (ct:=c47) (dcd:=fun y=>(y.2.1)) Tryz.func47 (by kernel_rfl) (by rfl) (q1q (l:=[]) (by kernel_rfl) trivial) (by decide) (fun _=>rfl) (fun x r h=>(qsv x.1).trans h)
theorem n22 {T:Told} (H:qac T):qaj T Tryz.prog (envL e22):=q5q (l:=e22) ⟨ok19 H,ok47 H,trivial⟩
theorem ok22 {T:Told} (H:qac T):qah T Tryz.prog 22 c22 :=
 qav H.ty (n22 H) hm (lh:=qod) (ct:=c22) (dcd:=fun y=>(y.2.1)) Tryz.func22 (by kernel_rfl) (by rfl) (q1q (l:=[]) (by kernel_rfl) trivial) (by decide) (fun _=>rfl) (fun x r h=>(qst x.1 x.2.1).trans h)
theorem n51 {T:Told} (H:qac T):qaj T Tryz.prog (envL e51):=q5q (l:=e51) ⟨ok40 H,ok63 H,trivial⟩
theorem ok51 {T:Told} (H:qac T):qah T Tryz.prog 51 c51 :=
 qav H.ty (n51 H) hm (lh:=qoV) (ct:=c51) (dcd:=fun y=>(y.2.1)) Tryz.func51 (by kernel_rfl) (by rfl) (q1q (l:=[]) (by kernel_rfl) trivial) (by decide) (fun _=>rfl) (fun x r h=>(qtN x.1).trans h)
theorem n52 {T:Told} (H:qac T):qaj T Tryz.prog (envL e52):=q5q (l:=e52) ⟨ok41 H,ok61 H,ok73 H,ok80 H,trivial⟩
theorem ok52 {T:Told} (H:qac T):qah T Tryz.prog 52 c52 :=
 qav H.ty (n52 H) hm (lh:=qmO) (ct:=c52) (dcd:=fun y=>(y.2.1,y.2.2.1)) Tryz.func52 (by kernel_rfl) (by rfl) (q1q (l:=[]) (by kernel_rfl) trivial) (by decide) (fun _=>rfl) (fun x r h=>(qro x.1 x.2.1).trans h)
theorem n28 {T:Told} (H:qac T):qaj T Tryz.prog (envL e28):=q5q (l:=e28) ⟨ok35 H,ok51 H,ok52 H,trivial⟩
theorem ok28 {T:Told} (H:qac T):qah T Tryz.prog 28 c28 :=
 qav H.ty (n28 H) hm (lh:=qmQ) (ct:=c28) (dcd:=fun y=>(y.2.1)) Tryz.func28 (by kernel_rfl) (by rfl) (q1q (l:=[]) (by kernel_rfl) trivial) (by decide) (fun _=>rfl) (fun x r h=>(qrp x.1 x.2.1).trans h)
theorem n64 {T:Told} (H:qac T):qaj T Tryz.prog (envL e64):=q5q (l:=e64) ⟨ok16 H,trivial⟩
theorem qnz {T:Told} (H:qac T):q12q T Tryz.prog 13 (.loop (q3q 3 (q4q Tryz.f64) .skip)) ⟨qcW,qdI,lp qbh K0⟩ :=
 q7q H.ty (n64 H) hm (q1q (l:=[]) (by kernel_rfl) trivial) qnA K0
theorem ok64 {T:Told} (H:qac T):qah T Tryz.prog 64 c64 :=
 qav H.ty (n64 H) hm (lh:=qgA) (ct:=c64) (dcd:=fun y=>(y.2.1)) Tryz.func64 (by kernel_rfl) (by rfl) (q1q (l:=[(.loop (q3q 3 (q4q Tryz.f64) .skip),⟨qcW,qdI,lp qbh K0⟩)]) (by kernel_rfl) ⟨qnz H,trivial⟩) (by decide) (fun _=>rfl) (fun x r h=>(qnB x.1).trans h)
theorem n27 {T:Told} (H:qac T):qaj T Tryz.prog (envL e27):=q5q (l:=e27) ⟨ok40 H,ok51 H,trivial⟩
theorem ok27 {T:Told} (H:qac T):qah T Tryz.prog 27 c27 :=
 qav H.ty (n27 H) hm (lh:=qpo) (ct:=c27) (dcd:=fun y=>(y.2.1)) Tryz.func27 (by kernel_rfl) (by rfl) (q1q (l:=[]) (by kernel_rfl) trivial) (by decide) (fun _=>rfl) (fun x r h=>(qt4 x.1).trans h)
theorem n26 {T:Told} (H:qac T):qaj T Tryz.prog (envL e26):=q5q (l:=e26) ⟨ok27 H,trivial⟩
theorem ok26 {T:Told} (H:qac T):qah T Tryz.prog 26 c26 :=
 qav H.ty (n26 H) hm (lh:=qoe) (ct:=c26) (dcd:=fun y=>(y.2.1)) Tryz.func26 (by kernel_rfl) (by rfl) (q1q (l:=[]) (by kernel_rfl) trivial) (by decide) (fun _=>rfl) (fun x r h=>(qsu ).trans h)
theorem n93 {T:Told} (H:qac T):qaj T Tryz.prog (envL e93):=q5q (l:=e93) ⟨ok26 H,trivial⟩
theorem ok93 {T:Told} (H:qac T):qah T Tryz.prog 93 c93 :=
 qjn H.ty (n93 H) hm (lh:=qkr) (ct:=c93) (wi:=w93) (dcd:=fun y=>(y.2.1)) Tryz.func93 (by kernel_rfl) (by rfl) (q1q (l:=[]) (by kernel_rfl) trivial) (fun _=>rfl) rfl (fun x r h=>(qpx ).trans h)
theorem n54 {T:Told} (H:qac T):qaj T Tryz.prog (envL e54):=q5q (l:=e54) ⟨ok35 H,ok37 H,ok41 H,ok43 H,trivial⟩
theorem ok54 {T:Told} (H:qac T):qah T Tryz.prog 54 c54 :=
 qav H.ty (n54 H) hm (lh:=qoh) (ct:=c54) (dcd:=fun y=>(y.2.1)) Tryz.func54 (by kernel_rfl) (by rfl) (q1q (l:=[]) (by kernel_rfl) trivial) (by decide) (fun _=>rfl) (fun x r h=>(qsw x.1 x.2.1).trans h)
theorem n114 {T:Told} (H:qac T):qaj T Tryz.prog (envL e114):=q5q (l:=e114) trivial
theorem qkn {T:Told} (H:qac T):q12q T Tryz.prog 29 (.loop (q3q 4 (q4q Tryz.f114) .skip)) ⟨qbJ,qcs,lp qal K0⟩ :=
 q7q H.ty (n114 H) hm (q1q (l:=[]) (by kernel_rfl) trivial) qko K0
theorem qCk {T:Told} (H:qac T):qah T Tryz.prog 114 c114 :=
 qjn H.ty (n114 H) hm (lh:=qeE) (ct:=c114) (wi:=w114) (dcd:=fun y=>(y.2.1,y.2.2.1)) Tryz.func114 (by kernel_rfl) (by rfl) (q1q (l:=[(.loop (q3q 4 (q4q Tryz.f114) .skip),⟨qbJ,qcs,lp qal K0⟩)]) (by kernel_rfl) ⟨qkn H,trivial⟩) (fun _=>rfl) rfl (fun x r h=>(qkp x.1 x.2.1).trans h)
theorem n115 {T:Told} (H:qac T):qaj T Tryz.prog (envL e115):=q5q (l:=e115) trivial
theorem qj7 {T:Told} (H:qac T):q12q T Tryz.prog 32 (.loop (q3q 5 (q4q Tryz.f115) .skip)) ⟨qbw,qci,lp qaC K0⟩ :=
 q7q H.ty (n115 H) hm (q1q (l:=[]) (by kernel_rfl) trivial) qj8 K0
theorem qCj {T:Told} (H:qac T):qah T Tryz.prog 115 c115 :=
 qjn H.ty (n115 H) hm (lh:=qem) (ct:=c115) (wi:=w115) (dcd:=fun y=>(y.2.1,y.2.2.1)) Tryz.func115 (by kernel_rfl) (by rfl) (q1q (l:=[(.loop (q3q 5 (q4q Tryz.f115) .skip),⟨qbw,qci,lp qaC K0⟩)]) (by kernel_rfl) ⟨qj7 H,trivial⟩) (fun _=>rfl) rfl (fun x r h=>(qj9 x.1).trans h)
theorem n128 {T:Told} (H:qac T):qaj T Tryz.prog (envL e128):=q5q (l:=e128) ⟨ok35 H,ok38 H,ok52 H,trivial⟩
theorem qCh {T:Told} (H:qac T):qah T Tryz.prog 128 c128 :=
 qav H.ty (n128 H) hm (lh:=qoj) (ct:=c128) (dcd:=fun y=>(y.2.1,y.2.2.1)) Tryz.func128 (by kernel_rfl) (by rfl) (q1q (l:=[]) (by kernel_rfl) trivial) (by decide) (fun _=>rfl) (fun x r h=>(qsx x.1).trans h)
theorem n127 {T:Told} (H:qac T):qaj T Tryz.prog (envL e127):=q5q (l:=e127) ⟨ok22 H,ok28 H,ok54 H,qCh H,trivial⟩
theorem qi5 {T:Told} (H:qac T):q12q T Tryz.prog 104 (.loop (q3q 7 (q4q Tryz.f127) .skip)) ⟨qa8,qbH,lp qap K0⟩ :=
 q7q H.ty (n127 H) hm (q1q (l:=[]) (by kernel_rfl) trivial) qi6 K0
theorem qCi {T:Told} (H:qac T):qah T Tryz.prog 127 c127 :=
 qjn H.ty (n127 H) hm (lh:=qdK) (ct:=c127) (wi:=w127) (dcd:=fun y=>(y.2.1,y.2.2.1)) Tryz.func127 (by kernel_rfl) (by rfl) (q1q (l:=[(.loop (q3q 7 (q4q Tryz.f127) .skip),⟨qa8,qbH,lp qap K0⟩)]) (by kernel_rfl) ⟨qi5 H,trivial⟩) (fun _=>rfl) rfl (fun x r h=>(qi7 x.1 x.2.1).trans h)
theorem n116 {T:Told} (H:qac T):qaj T Tryz.prog (envL e116):=q5q (l:=e116) ⟨qCi H,trivial⟩
theorem qjE {T:Told} (H:qac T):q12q T Tryz.prog 66 (.loop (q3q 8 (q4q Tryz.f116) .skip)) ⟨qbl,qb4,lp qaw K0⟩ :=
 q7q H.ty (n116 H) hm (q1q (l:=[]) (by kernel_rfl) trivial) qjF K0
theorem qC7 {T:Told} (H:qac T):qah T Tryz.prog 116 c116 :=
 qjn H.ty (n116 H) hm (lh:=qd0) (ct:=c116) (wi:=w116) (dcd:=fun y=>(y.2.1,y.2.2.1)) Tryz.func116 (by kernel_rfl) (by rfl) (q1q (l:=[(.loop (q3q 8 (q4q Tryz.f116) .skip),⟨qbl,qb4,lp qaw K0⟩)]) (by kernel_rfl) ⟨qjE H,trivial⟩) (fun _=>rfl) rfl (fun x r h=>(qjG x.1 x.2.1).trans h)
theorem n117 {T:Told} (H:qac T):qaj T Tryz.prog (envL e117):=q5q (l:=e117) ⟨ok16 H,ok19 H,ok28 H,ok35 H,ok54 H,qCm H,qCk H,trivial⟩
theorem qi8 {T:Told} (H:qac T):q12q T Tryz.prog 113 (.loop (q3q 10 (q4q Tryz.f117) .skip)) ⟨qa9,qbK,lp qaq K0⟩ :=
 q7q H.ty (n117 H) hm (q1q (l:=[]) (by kernel_rfl) trivial) qi9 K0
theorem qC6 {T:Told} (H:qac T):qah T Tryz.prog 117 c117 :=
 qjn H.ty (n117 H) hm (lh:=qd1) (ct:=c117) (wi:=w117) (dcd:=fun y=>(y.2.1,y.2.2.1)) Tryz.func117 (by kernel_rfl) (by rfl) (q1q (l:=[(.loop (q3q 10 (q4q Tryz.f117) .skip),⟨qa9,qbK,lp qaq K0⟩)]) (by kernel_rfl) ⟨qi8 H,trivial⟩) (fun _=>rfl) rfl (fun x r h=>(qjH x.1 x.2.1 x.2.2.1 x.2.2.2.1).trans h)
theorem n94 {T:Told} (H:qac T):qaj T Tryz.prog (envL e94):=q5q (l:=e94) ⟨ok54 H,qCk H,qCj H,qC7 H,qC6 H,trivial⟩
theorem ok94 {T:Told} (H:qac T):qah T Tryz.prog 94 c94 :=
 qjn H.ty (n94 H) hm (lh:=qgl) (ct:=c94) (wi:=w94) (dcd:=fun y=>(y.2.1,y.2.2.1,y.2.2.2.1,y.2.2.2.2.1,y.2.2.2.2.2.1,y.2.2.2.2.2.2.1,y.2.2.2.2.2.2.2.1,y.2.2.2.2.2.2.2.2.1,y.2.2.2.2.2.2.2.2.2.1,y.2.2.2.2.2.2.2.2.2.2.1)) Tryz.func94 (by kernel_rfl) (by rfl) (q1q (l:=[]) (by kernel_rfl) trivial) (fun _=>rfl) rfl (fun x r h=>(qj6 x.1 x.2.1 x.2.2.1 x.2.2.2.1 x.2.2.2.2.1 x.2.2.2.2.2.1 x.2.2.2.2.2.2.1 x.2.2.2.2.2.2.2.1 x.2.2.2.2.2.2.2.2.1 x.2.2.2.2.2.2.2.2.2.1).trans h)
theorem n18 {T:Told} (H:qac T):qaj T Tryz.prog (envL e18):=q5q (l:=e18) ⟨ok16 H,ok19 H,trivial⟩
theorem qsp {T:Told} (H:qac T):q12q T Tryz.prog 18 (.loop (q3q 3 (q4q Tryz.f18) .skip)) ⟨qfE,qgR,lp qde K0⟩ :=
 q7q H.ty (n18 H) hm (q1q (l:=[]) (by kernel_rfl) trivial) qsr K0
theorem ok18 {T:Told} (H:qac T):qah T Tryz.prog 18 c18 :=
 qav H.ty (n18 H) hm (lh:=qkl) (ct:=c18) (dcd:=fun y=>(y.2.1)) Tryz.func18 (by kernel_rfl) (by rfl) (q1q (l:=[(.loop (q3q 3 (q4q Tryz.f18) .skip),⟨qfE,qgR,lp qde K0⟩)]) (by kernel_rfl) ⟨qsp H,trivial⟩) (by decide) (fun _=>rfl) (fun x r h=>(qss x.1).trans h)
theorem n118 {T:Told} (H:qac T):qaj T Tryz.prog (envL e118):=q5q (l:=e118) ⟨ok18 H,qCi H,trivial⟩
theorem qC5 {T:Told} (H:qac T):qah T Tryz.prog 118 c118 :=
 qjn H.ty (n118 H) hm (lh:=qhp) (ct:=c118) (wi:=w118) (dcd:=fun y=>(y.2.1,y.2.2.1,y.2.2.2.1)) Tryz.func118 (by kernel_rfl) (by rfl) (q1q (l:=[]) (by kernel_rfl) trivial) (fun _=>rfl) rfl (fun x r h=>(qlE x.1 x.2.1).trans h)
theorem n95 {T:Told} (H:qac T):qaj T Tryz.prog (envL e95):=q5q (l:=e95) ⟨ok19 H,ok26 H,ok47 H,ok54 H,qCj H,qC5 H,trivial⟩
theorem qjB {T:Told} (H:qac T):q12q T Tryz.prog 69 (.loop (q3q 3 (q4q Tryz.f95) .skip)) ⟨qbk,qb2,lp qas K0⟩ :=
 q7q H.ty (n95 H) hm (q1q (l:=[]) (by kernel_rfl) trivial) qjC K0
theorem ok95 {T:Told} (H:qac T):qah T Tryz.prog 95 c95 :=
 qjn H.ty (n95 H) hm (lh:=qdZ) (ct:=c95) (wi:=w95) (dcd:=fun y=>(y.1.1,y.2.1,y.2.2.1,y.2.2.2.1,y.2.2.2.2.1,y.2.2.2.2.2.1)) Tryz.func95 (by kernel_rfl) (by rfl) (q1q (l:=[(.loop (q3q 3 (q4q Tryz.f95) .skip),⟨qbk,qb2,lp qas K0⟩)]) (by kernel_rfl) ⟨qjB H,trivial⟩) (fun _=>rfl) rfl (fun x r h=>(qjD x.1 x.2.1 x.2.2.1 x.2.2.2.1 x.2.2.2.2.1 x.2.2.2.2.2.1 x.2.2.2.2.2.2.1 x.2.2.2.2.2.2.2.1 x.2.2.2.2.2.2.2.2.1 x.2.2.2.2.2.2.2.2.2.1 x.2.2.2.2.2.2.2.2.2.2.1 x.2.2.2.2.2.2.2.2.2.2.2.1 x.2.2.2.2.2.2.2.2.2.2.2.2.1 x.2.2.2.2.2.2.2.2.2.2.2.2.2.1 x.2.2.2.2.2.2.2.2.2.2.2.2.2.2.1).trans h)
theorem n106 {T:Told} (H:qac T):qaj T Tryz.prog (envL e106):=q5q (l:=e106) ⟨ok13 H,trivial⟩
theorem qDa {T:Told} (H:qac T):qah T Tryz.prog 106 c106 :=
 qav H.ty (n106 H) hm (lh:=qmE) (ct:=c106) (dcd:=fun y=>(y.2.1)) Tryz.func106 (by kernel_rfl) (by rfl) (q1q (l:=[]) (by kernel_rfl) trivial) (by decide) (fun _=>rfl) (fun x r h=>(qrf x.1 x.2.1).trans h)
theorem n109 {T:Told} (H:qac T):qaj T Tryz.prog (envL e109):=q5q (l:=e109) ⟨qDa H,trivial⟩
theorem qC9 {T:Told} (H:qac T):qah T Tryz.prog 109 c109 :=
 qav H.ty (n109 H) hm (lh:=qmG) (ct:=c109) (dcd:=fun y=>(y.2.1)) Tryz.func109 (by kernel_rfl) (by rfl) (q1q (l:=[]) (by kernel_rfl) trivial) (by decide) (fun _=>rfl) (fun x r h=>(qrh x.1 x.2.1).trans h)
theorem n119 {T:Told} (H:qac T):qaj T Tryz.prog (envL e119):=q5q (l:=e119) ⟨ok54 H,qCh H,trivial⟩
theorem qC4 {T:Told} (H:qac T):qah T Tryz.prog 119 c119 :=
 qav H.ty (n119 H) hm (lh:=qok) (ct:=c119) (dcd:=fun y=>(y.2.1,y.2.2.1)) Tryz.func119 (by kernel_rfl) (by rfl) (q1q (l:=[]) (by kernel_rfl) trivial) (by decide) (fun _=>rfl) (fun x r h=>(qsA x.1 x.2.1).trans h)
theorem n120 {T:Told} (H:qac T):qaj T Tryz.prog (envL e120):=q5q (l:=e120) trivial
theorem qC3 {T:Told} (H:qac T):qah T Tryz.prog 120 c120 :=
 qjn H.ty (n120 H) hm (lh:=qgT) (ct:=c120) (wi:=w120) (dcd:=fun y=>(y.2.1,y.2.2.1)) Tryz.func120 (by kernel_rfl) (by rfl) (q1q (l:=[]) (by kernel_rfl) trivial) (fun _=>rfl) rfl (fun x r h=>(qkq x.1).trans h)
theorem n96 {T:Told} (H:qac T):qaj T Tryz.prog (envL e96):=q5q (l:=e96) ⟨ok54 H,qC9 H,qC4 H,qC3 H,trivial⟩
theorem ok96 {T:Told} (H:qac T):qah T Tryz.prog 96 c96 :=
 qjn H.ty (n96 H) hm (lh:=qfF) (ct:=c96) (wi:=w96) (dcd:=fun y=>(y.1.1,y.2.1,y.2.2.1,y.2.2.2.1,y.2.2.2.2.1,y.2.2.2.2.2.1,y.2.2.2.2.2.2.1,y.2.2.2.2.2.2.2.1,y.2.2.2.2.2.2.2.2.1,y.2.2.2.2.2.2.2.2.2.1,y.2.2.2.2.2.2.2.2.2.2.1,y.2.2.2.2.2.2.2.2.2.2.2.1,y.2.2.2.2.2.2.2.2.2.2.2.2.1,y.2.2.2.2.2.2.2.2.2.2.2.2.2.1,y.2.2.2.2.2.2.2.2.2.2.2.2.2.2.1,y.2.2.2.2.2.2.2.2.2.2.2.2.2.2.2.1,y.2.2.2.2.2.2.2.2.2.2.2.2.2.2.2.2.1)) Tryz.func96 (by kernel_rfl) (by rfl) (q1q (l:=[]) (by kernel_rfl) trivial) (fun _=>rfl) rfl (fun x r h=>(qi2 x.1 x.2.1 x.2.2.1 x.2.2.2.1 x.2.2.2.2.1 x.2.2.2.2.2.1 x.2.2.2.2.2.2.1 x.2.2.2.2.2.2.2.1 x.2.2.2.2.2.2.2.2.1 x.2.2.2.2.2.2.2.2.2.1 x.2.2.2.2.2.2.2.2.2.2.1 x.2.2.2.2.2.2.2.2.2.2.2.1 x.2.2.2.2.2.2.2.2.2.2.2.2.1 x.2.2.2.2.2.2.2.2.2.2.2.2.2.1 x.2.2.2.2.2.2.2.2.2.2.2.2.2.2.1 x.2.2.2.2.2.2.2.2.2.2.2.2.2.2.2.1 x.2.2.2.2.2.2.2.2.2.2.2.2.2.2.2.2.1).trans h)
theorem n65 {T:Told} (H:qac T):qaj T Tryz.prog (envL e65):=q5q (l:=e65) ⟨ok26 H,ok93 H,ok94 H,ok95 H,ok96 H,trivial⟩
theorem qjw {T:Told} (H:qac T):q12q T Tryz.prog 91 (.loop (q3q 9 (q4q Tryz.f65) .skip)) ⟨qbi,qb0,lp qan K0⟩ :=
 q7q H.ty (n65 H) hm (q1q (l:=[]) (by kernel_rfl) trivial) qjy K0
theorem qjx {T:Told} (H:qac T):q12q T Tryz.prog 91 (.loop (q3q 1 (q4q Tryz.f65) .skip)) ⟨qbj,qb1,lp qar K0⟩ :=
 q7q H.ty (n65 H) hm (q1q (l:=[(.loop (q3q 9 (q4q Tryz.f65) .skip),⟨qbi,qb0,lp qan K0⟩)]) (by kernel_rfl) ⟨qjw H,trivial⟩) qjz K0
theorem ok65 {T:Told} (H:qac T):qah T Tryz.prog 65 c65 :=
 qjn H.ty (n65 H) hm (lh:=qcR) (ct:=c65) (wi:=w65) (dcd:=fun y=>(y.1.1,y.2.1,y.2.2.1,y.2.2.2.1,y.2.2.2.2.1,y.2.2.2.2.2.1)) Tryz.func65 (by kernel_rfl) (by rfl) (q1q (l:=[(.loop (q3q 1 (q4q Tryz.f65) .skip),⟨qbj,qb1,lp qar K0⟩)]) (by kernel_rfl) ⟨qjx H,trivial⟩) (fun _=>rfl) rfl (fun x r h=>(qjA x.1 x.2.1 x.2.2.1 x.2.2.2.1 x.2.2.2.2.1 x.2.2.2.2.2.1).trans h)
theorem n39 {T:Told} (H:qac T):qaj T Tryz.prog (envL e39):=q5q (l:=e39) ⟨ok64 H,ok65 H,trivial⟩
theorem qpu {T:Told} (H:qac T):q12q T Tryz.prog 34 (.loop (q3q 3 (q4q Tryz.f39) .skip)) ⟨qdJ,qeC,lp qb3 K0⟩ :=
 q7q H.ty (n39 H) hm (q1q (l:=[]) (by kernel_rfl) trivial) qpv K0
theorem ok39 {T:Told} (H:qac T):qah T Tryz.prog 39 c39 :=
 qav H.ty (n39 H) hm (lh:=qh2) (ct:=c39) (dcd:=fun y=>(y.2.1)) Tryz.func39 (by kernel_rfl) (by rfl) (q1q (l:=[(.loop (q3q 3 (q4q Tryz.f39) .skip),⟨qdJ,qeC,lp qb3 K0⟩)]) (by kernel_rfl) ⟨qpu H,trivial⟩) (by decide) (fun _=>rfl) (fun x r h=>(qpw x.1 x.2.1 x.2.2.1 x.2.2.2.1).trans h)
theorem n53 {T:Told} (H:qac T):qaj T Tryz.prog (envL e53):=q5q (l:=e53) ⟨ok29 H,ok39 H,trivial⟩
theorem ok53 {T:Told} (H:qac T):qah T Tryz.prog 53 c53 :=
 qav H.ty (n53 H) hm (lh:=qja) (ct:=c53) (dcd:=fun y=>(y.2.1,y.2.2.1)) Tryz.func53 (by kernel_rfl) (by rfl) (q1q (l:=[]) (by kernel_rfl) trivial) (by decide) (fun _=>rfl) (fun x r h=>(qnC x.1 x.2.1 x.2.2.1 x.2.2.2.1).trans h)
theorem n30 {T:Told} (H:qac T):qaj T Tryz.prog (envL e30):=q5q (l:=e30) ⟨ok22 H,ok28 H,ok53 H,ok54 H,trivial⟩
theorem qm9 {T:Told} (H:qac T):q12q T Tryz.prog 48 (.loop (q3q 5 (q4q Tryz.f30) .skip)) ⟨qcC,qdk,lp qa2 K0⟩ :=
 q7q H.ty (n30 H) hm (q1q (l:=[]) (by kernel_rfl) trivial) qna K0
theorem ok30 {T:Told} (H:qac T):qah T Tryz.prog 30 c30 :=
 qav H.ty (n30 H) hm (lh:=qf6) (ct:=c30) (dcd:=fun y=>(y.2.1)) Tryz.func30 (by kernel_rfl) (by rfl) (q1q (l:=[(.loop (q3q 5 (q4q Tryz.f30) .skip),⟨qcC,qdk,lp qa2 K0⟩)]) (by kernel_rfl) ⟨qm9 H,trivial⟩) (by decide) (fun _=>rfl) (fun x r h=>(qnb x.1 x.2.1 x.2.2.1).trans h)
theorem n9 {T:Told} (H:qac T):qaj T Tryz.prog (envL e9):=q5q (l:=e9) ⟨ok29 H,ok30 H,trivial⟩
theorem ok9 {T:Told} (H:qac T):qah T Tryz.prog 9 c9 :=
 qav H.ty (n9 H) hm (lh:=qj3) (ct:=c9) (dcd:=fun y=>(y.2.1,y.2.2.1)) Tryz.func9 (by kernel_rfl) (by rfl) (q1q (l:=[]) (by kernel_rfl) trivial) (by decide) (fun _=>rfl) (fun x r h=>(qoD x.1 x.2.1 x.2.2.1 x.2.2.2.1).trans h)
theorem n8 {T:Told} (H:qac T):qaj T Tryz.prog (envL e8):=q5q (l:=e8) ⟨ok9 H,ok17 H,ok26 H,ok27 H,ok28 H,trivial⟩
theorem qlo {r} (h:c8.F ()=r):qaa=r:=by
 subst h
 delta c8
 exact(@F_in [] _ _ (fun _=>qaa) _ _ () _ rfl).symm
theorem qlm (x) (r:c8.T) (h:c8.F x=some r):fnF tb (envL e8) Tryz.f8 qeQ c8.ps c8.rs (T:=c8.T) (fun y=>(y.2.1)) x=some r:=by
 cases x;exact qln.trans (qlo h)
theorem ok8 {T:Told} (H:qac T):qah T Tryz.prog 8 c8 :=
 qav H.ty (n8 H) hm (lh:=qeQ) (ct:=c8) (dcd:=fun y=>(y.2.1)) Tryz.func8 (by kernel_rfl) (by rfl) (q1q (l:=[]) (by kernel_rfl) trivial) (by decide) (fun _=>rfl) (fun x r h=>qlm x r h)
theorem n15 {T:Told} (H:qac T):qaj T Tryz.prog (envL e15):=q5q (l:=e15) ⟨ok29 H,ok39 H,trivial⟩
theorem ok15 {T:Told} (H:qac T):qah T Tryz.prog 15 c15 :=
 qav H.ty (n15 H) hm (lh:=qir) (ct:=c15) (dcd:=fun y=>(y.2.1,y.2.2.1)) Tryz.func15 (by kernel_rfl) (by rfl) (q1q (l:=[]) (by kernel_rfl) trivial) (by decide) (fun _=>rfl) (fun x r h=>(qmV x.1 x.2.1).trans h)
theorem qCt {T:Told} (H:qac T):qaj T Tryz.prog (envL qzT):=q5q (l:=qzT) ⟨ok16 H,ok19 H,trivial⟩
theorem qpl {T:Told} (H:qac T):q12q T Tryz.prog 18 (.loop (q3q 3 (q4q Tryz.f18) .skip)) ⟨qdH,qeB,lp qbZ K0⟩ :=
 q7q H.ty (qCt H) hm (q1q (l:=[]) (by kernel_rfl) trivial) qpm K0
theorem qCg {T:Told} (H:qac T):qah T Tryz.prog 18 qyH :=
 qav H.ty (qCt H) hm (lh:=qhZ) (ct:=qyH) (dcd:=fun y=>(y.1.1,y.2.1)) Tryz.func18 (by kernel_rfl) (by rfl) (q1q (l:=[(.loop (q3q 3 (q4q Tryz.f18) .skip),⟨qdH,qeB,lp qbZ K0⟩)]) (by kernel_rfl) ⟨qpl H,trivial⟩) (by decide) (fun _=>rfl) (fun x r h=>(qpn x.1).trans h)
theorem n31 {T:Told} (H:qac T):qaj T Tryz.prog (envL e31):=q5q (l:=e31) ⟨ok16 H,trivial⟩
theorem qnL {T:Told} (H:qac T):q12q T Tryz.prog 22 (.loop (q3q 6 (q4q Tryz.f31) .skip)) ⟨qcY,qdN,lp qbn K0⟩ :=
 q7q tyO (n31 H) hm (q1q (l:=[]) (by kernel_rfl) trivial) qnN K0
theorem qnM {T:Told} (H:qac T):q12q T Tryz.prog 22 (.loop (q3q 3 (q4q Tryz.f31) .skip)) ⟨qcZ,qdO,lp qbo K0⟩ :=
 q7q tyO (n31 H) hm (q1q (l:=[(.loop (q3q 6 (q4q Tryz.f31) .skip),⟨qcY,qdN,lp qbn K0⟩)]) (by kernel_rfl) ⟨qnL H,trivial⟩) qnO K0
theorem ok31 {T:Told} (H:qac T):qah T Tryz.prog 31 c31 :=
 qav tyO (n31 H) hm (lh:=qe1) (ct:=c31) (dcd:=fun y=>(y.2.1)) Tryz.func31 (by kernel_rfl) (by rfl) (q1q (l:=[(.loop (q3q 3 (q4q Tryz.f31) .skip),⟨qcZ,qdO,lp qbo K0⟩)]) (by kernel_rfl) ⟨qnM H,trivial⟩) (by decide) (fun _=>rfl) (fun x r h=>(qnP x.1).trans h)
theorem ok32 {T:Told} (H:qac T):qah T Tryz.prog 32 c32:=qw7 (ok25 H)
theorem n10 {T:Told} (H:qac T):qaj T Tryz.prog (envL e10):=q5q (l:=e10) ⟨ok15 H,qCg H,ok22 H,ok30 H,ok31 H,ok32 H,trivial⟩
theorem qmg {T:Told} (H:qac T):q12q T Tryz.prog 91 (.loop (q3q 11 (q4q Tryz.f10) .skip)) ⟨qcm,qc3,lp qaW K0⟩ :=
 q7q tyO (n10 H) hm (q1q (l:=[]) (by kernel_rfl) trivial) qmi K0
theorem qnc {T:Told} (H:qac T):q12q T Tryz.prog 91 (.loop (q3q 7 (q4q Tryz.f10) .skip)) ⟨qcD,qdl,lp qa3 K0⟩ :=
 q7q tyO (n10 H) hm (q1q (l:=[(.loop (q3q 11 (q4q Tryz.f10) .skip),⟨qcm,qc3,lp qaW K0⟩)]) (by kernel_rfl) ⟨qmg H,trivial⟩) qnd K0
theorem qmf {T:Told} (H:qac T):q12q T Tryz.prog 91 (.loop (q3q 18 (q4q Tryz.f10) .skip)) ⟨qcl,qc2,lp qaV K0⟩ :=
 q7q tyO (n10 H) hm (q1q (l:=[]) (by kernel_rfl) trivial) qmh K0
theorem ok10 {T:Told} (H:qac T):qah T Tryz.prog 10 c10 :=
 qav tyO (n10 H) hm (lh:=qdm) (ct:=c10) (dcd:=fun y=>(y.2.1,y.2.2.1)) Tryz.func10 (by kernel_rfl) (by rfl) (q1q (l:=[(.loop (q3q 7 (q4q Tryz.f10) .skip),⟨qcD,qdl,lp qa3 K0⟩),(.loop (q3q 18 (q4q Tryz.f10) .skip),⟨qcl,qc2,lp qaV K0⟩)]) (by kernel_rfl) ⟨qnc H,qmf H,trivial⟩) (by decide) (fun _=>rfl) (fun x r h=>(qne x.1 x.2.1).trans h)
theorem n84 {T:Told} (H:qac T):qaj T Tryz.prog (envL e84):=q5q (l:=e84) trivial
theorem qk8 {T:Told} (H:qac T):q12q T Tryz.prog 14 (.loop (q3q 2 (q4q Tryz.f84) .skip)) ⟨qbR,qcv,lp qaT K0⟩ :=
 q7q H.ty (n84 H) hm (q1q (l:=[]) (by kernel_rfl) trivial) qk9 K0
theorem ok84 {T:Told} (H:qac T):qah T Tryz.prog 84 c84 :=
 qav H.ty (n84 H) hm (lh:=qeM) (ct:=c84) (dcd:=fun y=>(y.2.1)) Tryz.func84 (by kernel_rfl) (by rfl) (q1q (l:=[(.loop (q3q 2 (q4q Tryz.f84) .skip),⟨qbR,qcv,lp qaT K0⟩)]) (by kernel_rfl) ⟨qk8 H,trivial⟩) (by decide) (fun _=>rfl) (fun x r h=>(qla x.1).trans h)
theorem n112 {T:Told} (H:qac T):qaj T Tryz.prog (envL e112):=q5q (l:=e112) trivial
theorem qCl {T:Told} (H:qac T):qah T Tryz.prog 112 c112 :=
 qav H.ty (n112 H) hm (lh:=qhd) (ct:=c112) (dcd:=fun y=>(y.2.1)) Tryz.func112 (by kernel_rfl) (by rfl) (q1q (l:=[]) (by kernel_rfl) trivial) (by decide) (fun _=>rfl) (fun x r h=>(qk2 x.1 x.2.1).trans h)
theorem n88 {T:Told} (H:qac T):qaj T Tryz.prog (envL e88):=q5q (l:=e88) ⟨qCl H,trivial⟩
theorem qlL {T:Told} (H:qac T):q12q T Tryz.prog 41 (.loop (q3q 4 (q4q Tryz.f88) .skip)) ⟨qce,qcN,lp qaF K0⟩ :=
 q7q H.ty (n88 H) hm (q1q (l:=[]) (by kernel_rfl) trivial) qlM K0
theorem ok88 {T:Told} (H:qac T):qah T Tryz.prog 88 c88 :=
 qav H.ty (n88 H) hm (lh:=qe8) (ct:=c88) (dcd:=fun y=>(y.2.1)) Tryz.func88 (by kernel_rfl) (by rfl) (q1q (l:=[(.loop (q3q 4 (q4q Tryz.f88) .skip),⟨qce,qcN,lp qaF K0⟩)]) (by kernel_rfl) ⟨qlL H,trivial⟩) (by decide) (fun _=>rfl) (fun x r h=>(qlN x.1 x.2.1).trans h)
theorem n113 {T:Told} (H:qac T):qaj T Tryz.prog (envL e113):=q5q (l:=e113) trivial
theorem qlI {T:Told} (H:qac T):q12q T Tryz.prog 21 (.loop (q3q 2 (q4q Tryz.f113) .skip)) ⟨qcd,qcM,lp qaP K0⟩ :=
 q7q H.ty (n113 H) hm (q1q (l:=[]) (by kernel_rfl) trivial) qlJ K0
theorem qBc {T:Told} (H:qac T):qah T Tryz.prog 113 c113 :=
 qav H.ty (n113 H) hm (lh:=qe7) (ct:=c113) (dcd:=fun y=>(y.2.1)) Tryz.func113 (by kernel_rfl) (by rfl) (q1q (l:=[(.loop (q3q 2 (q4q Tryz.f113) .skip),⟨qcd,qcM,lp qaP K0⟩)]) (by kernel_rfl) ⟨qlI H,trivial⟩) (by decide) (fun _=>rfl) (fun x r h=>(qlK x.1).trans h)
theorem n89 {T:Told} (H:qac T):qaj T Tryz.prog (envL e89):=q5q (l:=e89) ⟨qBc H,trivial⟩
theorem qk3 {T:Told} (H:qac T):q12q T Tryz.prog 63 (.loop (q3q 7 (q4q Tryz.f89) .skip)) ⟨qbP,qct,lp qaI K0⟩ :=
 q7q H.ty (n89 H) hm (q1q (l:=[]) (by kernel_rfl) trivial) qk5 K0
theorem qk4 {T:Told} (H:qac T):q12q T Tryz.prog 63 (.loop (q3q 3 (q4q Tryz.f89) .skip)) ⟨qbQ,qcu,lp qaS K0⟩ :=
 q7q H.ty (n89 H) hm (q1q (l:=[(.loop (q3q 7 (q4q Tryz.f89) .skip),⟨qbP,qct,lp qaI K0⟩)]) (by kernel_rfl) ⟨qk3 H,trivial⟩) qk6 K0
theorem ok89 {T:Told} (H:qac T):qah T Tryz.prog 89 c89 :=
 qav H.ty (n89 H) hm (lh:=qds) (ct:=c89) (dcd:=fun y=>(y.2.1)) Tryz.func89 (by kernel_rfl) (by rfl) (q1q (l:=[(.loop (q3q 3 (q4q Tryz.f89) .skip),⟨qbQ,qcu,lp qaS K0⟩)]) (by kernel_rfl) ⟨qk4 H,trivial⟩) (by decide) (fun _=>rfl) (fun x r h=>(qk7 x.1 x.2.1).trans h)
theorem n57 {T:Told} (H:qac T):qaj T Tryz.prog (envL e57):=q5q (l:=e57) ⟨ok84 H,ok88 H,ok89 H,trivial⟩
theorem qlR {T:Told} (H:qac T):q12q T Tryz.prog 26 (.loop (q3q 4 (q4q Tryz.f57) .skip)) ⟨qcg,qcP,lp qa1 K0⟩ :=
 q7q H.ty (n57 H) hm (q1q (l:=[]) (by kernel_rfl) trivial) qlS K0
theorem ok57 {T:Told} (H:qac T):qah T Tryz.prog 57 c57 :=
 qav H.ty (n57 H) hm (lh:=qe9) (ct:=c57) (dcd:=fun y=>(y.2.1)) Tryz.func57 (by kernel_rfl) (by rfl) (q1q (l:=[(.loop (q3q 4 (q4q Tryz.f57) .skip),⟨qcg,qcP,lp qa1 K0⟩)]) (by kernel_rfl) ⟨qlR H,trivial⟩) (by decide) (fun _=>rfl) (fun x r h=>(qlT x.1).trans h)
theorem n91 {T:Told} (H:qac T):qaj T Tryz.prog (envL e91):=q5q (l:=e91) trivial
theorem ok91 {T:Told} (H:qac T):qah T Tryz.prog 91 c91 :=
 qav H.ty (n91 H) hm (lh:=qhv) (ct:=c91) (dcd:=fun y=>(y.2.1)) Tryz.func91 (by kernel_rfl) (by rfl) (q1q (l:=[]) (by kernel_rfl) trivial) (by decide) (fun _=>rfl) (fun x r h=>(qlG x.1 x.2.1).trans h)
theorem n90 {T:Told} (H:qac T):qaj T Tryz.prog (envL e90):=q5q (l:=e90) ⟨ok84 H,ok88 H,ok91 H,trivial⟩
theorem ok90 {T:Told} (H:qac T):qah T Tryz.prog 90 c90 :=
 qav H.ty (n90 H) hm (lh:=qhb) (ct:=c90) (dcd:=fun y=>(y.2.1)) Tryz.func90 (by kernel_rfl) (by rfl) (q1q (l:=[]) (by kernel_rfl) trivial) (by decide) (fun _=>rfl) (fun x r h=>(qk0 x.1).trans h)
theorem n58 {T:Told} (H:qac T):qaj T Tryz.prog (envL e58):=q5q (l:=e58) ⟨ok84 H,ok90 H,trivial⟩
theorem ok58 {T:Told} (H:qac T):qah T Tryz.prog 58 c58 :=
 qav H.ty (n58 H) hm (lh:=qg7) (ct:=c58) (dcd:=fun y=>(y.2.1)) Tryz.func58 (by kernel_rfl) (by rfl) (q1q (l:=[]) (by kernel_rfl) trivial) (by decide) (fun _=>rfl) (fun x r h=>(qkW x.1 x.2.1).trans h)
theorem n59 {T:Told} (H:qac T):qaj T Tryz.prog (envL e59):=q5q (l:=e59) ⟨ok57 H,ok91 H,trivial⟩
theorem ok59 {T:Told} (H:qac T):qah T Tryz.prog 59 c59 :=
 qav H.ty (n59 H) hm (lh:=qhw) (ct:=c59) (dcd:=fun y=>(y.2.1)) Tryz.func59 (by kernel_rfl) (by rfl) (q1q (l:=[]) (by kernel_rfl) trivial) (by decide) (fun _=>rfl) (fun x r h=>(qlH x.1).trans h)
theorem n34 {T:Told} (H:qac T):qaj T Tryz.prog (envL e34):=q5q (l:=e34) ⟨ok57 H,ok58 H,ok59 H,trivial⟩
theorem ok34 {T:Told} (H:qac T):qah T Tryz.prog 34 c34 :=
 qav H.ty (n34 H) hm (lh:=qhu) (ct:=c34) (dcd:=fun y=>(y.2.1)) Tryz.func34 (by kernel_rfl) (by rfl) (q1q (l:=[]) (by kernel_rfl) trivial) (by decide) (fun _=>rfl) (fun x r h=>(qlF x.1).trans h)
theorem n81 {T:Told} (H:qac T):qaj T Tryz.prog (envL e81):=q5q (l:=e81) trivial
theorem qlb {T:Told} (H:qac T):q12q T Tryz.prog 27 (.loop (q3q 2 (q4q Tryz.f81) .skip)) ⟨qbS,qcw,lp qaJ K0⟩ :=
 q7q H.ty (n81 H) hm (q1q (l:=[]) (by kernel_rfl) trivial) qlc K0
theorem ok81 {T:Told} (H:qac T):qah T Tryz.prog 81 c81 :=
 qav H.ty (n81 H) hm (lh:=qeN) (ct:=c81) (dcd:=fun y=>(y.2.1)) Tryz.func81 (by kernel_rfl) (by rfl) (q1q (l:=[(.loop (q3q 2 (q4q Tryz.f81) .skip),⟨qbS,qcw,lp qaJ K0⟩)]) (by kernel_rfl) ⟨qlb H,trivial⟩) (by decide) (fun _=>rfl) (fun x r h=>(qld x.1).trans h)
theorem n83 {T:Told} (H:qac T):qaj T Tryz.prog (envL e83):=q5q (l:=e83) trivial
theorem qlg {T:Told} (H:qac T):q12q T Tryz.prog 41 (.loop (q3q 6 (q4q Tryz.f83) .skip)) ⟨qbU,qcy,lp qaz K0⟩ :=
 q7q H.ty (n83 H) hm (q1q (l:=[]) (by kernel_rfl) trivial) qlh K0
theorem ok83 {T:Told} (H:qac T):qah T Tryz.prog 83 c83 :=
 qav H.ty (n83 H) hm (lh:=qeO) (ct:=c83) (dcd:=fun y=>(y.2.1)) Tryz.func83 (by kernel_rfl) (by rfl) (q1q (l:=[(.loop (q3q 6 (q4q Tryz.f83) .skip),⟨qbU,qcy,lp qaz K0⟩)]) (by kernel_rfl) ⟨qlg H,trivial⟩) (by decide) (fun _=>rfl) (fun x r h=>(qli x.1 x.2.1).trans h)
theorem n126 {T:Told} (H:qac T):qaj T Tryz.prog (envL e126):=q5q (l:=e126) ⟨qCl H,qBc H,trivial⟩
theorem qlj {T:Told} (H:qac T):q12q T Tryz.prog 35 (.loop (q3q 4 (q4q Tryz.f126) .skip)) ⟨qbV,qcz,lp qaK K0⟩ :=
 q7q H.ty (n126 H) hm (q1q (l:=[]) (by kernel_rfl) trivial) qlk K0
theorem qCZ {T:Told} (H:qac T):qah T Tryz.prog 126 c126 :=
 qav H.ty (n126 H) hm (lh:=qeP) (ct:=c126) (dcd:=fun y=>(y.2.1)) Tryz.func126 (by kernel_rfl) (by rfl) (q1q (l:=[(.loop (q3q 4 (q4q Tryz.f126) .skip),⟨qbV,qcz,lp qaK K0⟩)]) (by kernel_rfl) ⟨qlj H,trivial⟩) (by decide) (fun _=>rfl) (fun x r h=>(qll x.1 x.2.1).trans h)
theorem n111 {T:Told} (H:qac T):qaj T Tryz.prog (envL e111):=q5q (l:=e111) ⟨ok83 H,ok84 H,ok89 H,qBc H,qCZ H,trivial⟩
theorem qle {T:Told} (H:qac T):q12q T Tryz.prog 65 (.loop (q3q 12 (q4q Tryz.f111) .skip)) ⟨qbT,qcx,lp qay K0⟩ :=
 q7q H.ty (n111 H) hm (q1q (l:=[]) (by kernel_rfl) trivial) qlf K0
theorem qlO {T:Told} (H:qac T):q12q T Tryz.prog 65 (.loop (q3q 4 (q4q Tryz.f111) .skip)) ⟨qcf,qcO,lp qa0 K0⟩ :=
 q7q H.ty (n111 H) hm (q1q (l:=[(.loop (q3q 12 (q4q Tryz.f111) .skip),⟨qbT,qcx,lp qay K0⟩)]) (by kernel_rfl) ⟨qle H,trivial⟩) qlP K0
theorem qC8 {T:Told} (H:qac T):qah T Tryz.prog 111 c111 :=
 qav H.ty (n111 H) hm (lh:=qdz) (ct:=c111) (dcd:=fun y=>(y.2.1,y.2.2.1)) Tryz.func111 (by kernel_rfl) (by rfl) (q1q (l:=[(.loop (q3q 4 (q4q Tryz.f111) .skip),⟨qcf,qcO,lp qa0 K0⟩)]) (by kernel_rfl) ⟨qlO H,trivial⟩) (by decide) (fun _=>rfl) (fun x r h=>(qlQ x.1 x.2.1).trans h)
theorem n82 {T:Told} (H:qac T):qaj T Tryz.prog (envL e82):=q5q (l:=e82) ⟨qC8 H,trivial⟩
theorem qmm {T:Told} (H:qac T):q12q T Tryz.prog 19 (.loop (q3q 1 (q4q Tryz.f82) .skip)) ⟨qcn,qc5,lp qbe K0⟩ :=
 q7q H.ty (n82 H) hm (q1q (l:=[]) (by kernel_rfl) trivial) qmn K0
theorem ok82 {T:Told} (H:qac T):qah T Tryz.prog 82 c82 :=
 qav H.ty (n82 H) hm (lh:=qfA) (ct:=c82) (dcd:=fun y=>(y.2.1)) Tryz.func82 (by kernel_rfl) (by rfl) (q1q (l:=[(.loop (q3q 1 (q4q Tryz.f82) .skip),⟨qcn,qc5,lp qbe K0⟩)]) (by kernel_rfl) ⟨qmm H,trivial⟩) (by decide) (fun _=>rfl) (fun x r h=>(qmo x.1 x.2.1).trans h)
theorem n55 {T:Told} (H:qac T):qaj T Tryz.prog (envL e55):=q5q (l:=e55) ⟨ok57 H,ok81 H,ok82 H,ok83 H,ok84 H,trivial⟩
theorem ok55 {T:Told} (H:qac T):qah T Tryz.prog 55 c55 :=
 qav H.ty (n55 H) hm (lh:=qg8) (ct:=c55) (dcd:=fun y=>(y.2.1)) Tryz.func55 (by kernel_rfl) (by rfl) (q1q (l:=[]) (by kernel_rfl) trivial) (by decide) (fun _=>rfl) (fun x r h=>(qkX x.1).trans h)
theorem n85 {T:Told} (H:qac T):qaj T Tryz.prog (envL e85):=q5q (l:=e85) ⟨ok83 H,trivial⟩
theorem ok85 {T:Told} (H:qac T):qah T Tryz.prog 85 c85 :=
 qav H.ty (n85 H) hm (lh:=qhc) (ct:=c85) (dcd:=fun y=>(y.2.1)) Tryz.func85 (by kernel_rfl) (by rfl) (q1q (l:=[]) (by kernel_rfl) trivial) (by decide) (fun _=>rfl) (fun x r h=>(qk1 x.1 x.2.1).trans h)
theorem n86 {T:Told} (H:qac T):qaj T Tryz.prog (envL e86):=q5q (l:=e86) ⟨ok89 H,ok91 H,trivial⟩
theorem ok86 {T:Told} (H:qac T):qah T Tryz.prog 86 c86 :=
 qav H.ty (n86 H) hm (lh:=qha) (ct:=c86) (dcd:=fun y=>(y.2.1)) Tryz.func86 (by kernel_rfl) (by rfl) (q1q (l:=[]) (by kernel_rfl) trivial) (by decide) (fun _=>rfl) (fun x r h=>(qkZ x.1 x.2.1).trans h)
theorem n87 {T:Told} (H:qac T):qaj T Tryz.prog (envL e87):=q5q (l:=e87) ⟨ok91 H,trivial⟩
theorem ok87 {T:Told} (H:qac T):qah T Tryz.prog 87 c87 :=
 qav H.ty (n87 H) hm (lh:=qii) (ct:=c87) (dcd:=fun y=>(y.2.1)) Tryz.func87 (by kernel_rfl) (by rfl) (q1q (l:=[]) (by kernel_rfl) trivial) (by decide) (fun _=>rfl) (fun x r h=>(qml x.1).trans h)
theorem n56 {T:Told} (H:qac T):qaj T Tryz.prog (envL e56):=q5q (l:=e56) ⟨ok85 H,ok86 H,ok87 H,trivial⟩
theorem ok56 {T:Told} (H:qac T):qah T Tryz.prog 56 c56 :=
 qav H.ty (n56 H) hm (lh:=qg9) (ct:=c56) (dcd:=fun y=>(y.2.1)) Tryz.func56 (by kernel_rfl) (by rfl) (q1q (l:=[]) (by kernel_rfl) trivial) (by decide) (fun _=>rfl) (fun x r h=>(qkY x.1 x.2.1).trans h)
theorem n33 {T:Told} (H:qac T):qaj T Tryz.prog (envL e33):=q5q (l:=e33) ⟨ok34 H,ok55 H,ok56 H,trivial⟩
theorem ok33 {T:Told} (H:qac T):qah T Tryz.prog 33 c33 :=
 qav H.ty (n33 H) hm (lh:=qiv) (ct:=c33) (dcd:=fun y=>(y.2.1)) Tryz.func33 (by kernel_rfl) (by rfl) (q1q (l:=[]) (by kernel_rfl) trivial) (by decide) (fun _=>rfl) (fun x r h=>(qnk x.1 x.2.1).trans h)
theorem n11 {T:Told} (H:qac T):qaj T Tryz.prog (envL e11):=q5q (l:=e11) ⟨ok33 H,ok34 H,trivial⟩
theorem ok11 {T:Told} (H:qac T):qah T Tryz.prog 11 c11 :=
 qav H.ty (n11 H) hm (lh:=qiu) (ct:=c11) (dcd:=fun y=>(y.2.1)) Tryz.func11 (by kernel_rfl) (by rfl) (q1q (l:=[]) (by kernel_rfl) trivial) (by decide) (fun _=>rfl) (fun x r h=>(qnj x.1 x.2.1).trans h)
theorem n3 {T:Told} (H:qac T):qaj T Tryz.prog (envL e3):=q5q (l:=e3) ⟨ok6 H,ok7 H,ok8 H,ok9 H,ok10 H,ok11 H,trivial⟩
theorem ok3 {T:Told} (H:qac T):qah T Tryz.prog 3 c3 :=
 qav H.ty (n3 H) hm (lh:=qd9) (ct:=c3) (dcd:=fun y=>(y.2.1)) Tryz.func3 (by kernel_rfl) (by rfl) (q1q (l:=[]) (by kernel_rfl) trivial) (by decide) (fun _=>rfl) (fun x r h=>(qhm x.1 x.2.1 x.2.2.1 x.2.2.2.1).trans h)
end Go.Proofs.YtaeiamdjpkgjpaaGreatDoor.X
