/- Own work: part of the proof; the first line of each part says what it tells. -/
import Derived.Test.YtiefddjokkihdaaGreatDoorLa11
import Derived.Test.YtiefddjokkihdaaGreatDoorLa15
import Derived.Test.YtiefddjokkihdaaGreatDoorLa16


namespace Go.Proofs.YtiefddjokkihdaaGreatDoor.X
open Go
set_option linter.unusedVariables false
set_option linter.unusedSimpArgs false
set_option maxRecDepth 100000
theorem F_in {ps:List (Ty×PM)} {rs:List (Ty×Bool)} {T:Type} {F:HL (fsts ps)->Option T} {enc:T->HL (qkh ps)×HL (fsts rs)} {wi:Option Wir} (x:HL (fsts ps)) {r:Option T} (h:F x=r):(Ctr.mk ps rs T F enc wi).F x=r:=h
theorem hm:Tryz.prog.follows .mixedOrders=true:=by kernel_rfl
structure qaa (T:Told):Prop where
 ty:TbOk Tryz.prog tb
 h133:qaf T Tryz.prog 133 c133
 h143:qaf T Tryz.prog 143 c143
theorem tyO:TbOk Tryz.prog tbO:=qAn (by kernel_rfl)
theorem n42 {T:Told} (H:qaa T):qai T Tryz.prog (envL e42):=q5q (l:=e42) trivial
theorem ok42 {T:Told} (H:qaa T):qaf T Tryz.prog 42 c42 :=
 qap H.ty (n42 H) hm (lh:=qhR) (ct:=c42) (dcd:=fun y=>(y.2.1)) Tryz.func42 (by kernel_rfl) (by rfl) (q1q (l:=[]) (by kernel_rfl) trivial) (by decide) (fun _=>rfl) (fun x r h=>(ql5 x.1).trans h)
theorem n13 {T:Told} (H:qaa T):qai T Tryz.prog (envL e13):=q5q (l:=e13) ⟨ok42 H,trivial⟩
theorem qoP {T:Told} (H:qaa T):q12q T Tryz.prog 67 (.loop (q3q 7 (q4q Tryz.f13) .skip)) ⟨qcW,qdZ,lp qaS K0⟩ :=
 q7q H.ty (n13 H) hm (q1q (l:=[]) (by kernel_rfl) trivial) qoR K0
theorem qoQ {T:Told} (H:qaa T):q12q T Tryz.prog 67 (.loop (q3q 3 (q4q Tryz.f13) .skip)) ⟨qcX,qd0,lp qaT K0⟩ :=
 q7q H.ty (n13 H) hm (q1q (l:=[(.loop (q3q 7 (q4q Tryz.f13) .skip),⟨qcW,qdZ,lp qaS K0⟩)]) (by kernel_rfl) ⟨qoP H,trivial⟩) qoS K0
theorem ok13 {T:Told} (H:qaa T):qaf T Tryz.prog 13 c13 :=
 qap H.ty (n13 H) hm (lh:=qe8) (ct:=c13) (dcd:=fun y=>(y.2.1)) Tryz.func13 (by kernel_rfl) (by rfl) (q1q (l:=[(.loop (q3q 3 (q4q Tryz.f13) .skip),⟨qcX,qd0,lp qaT K0⟩)]) (by kernel_rfl) ⟨qoQ H,trivial⟩) (by decide) (fun _=>rfl) (fun x r h=>(qoT x.1).trans h)
theorem n43 {T:Told} (H:qaa T):qai T Tryz.prog (envL e43):=q5q (l:=e43) trivial
theorem ok43 {T:Told} (H:qaa T):qaf T Tryz.prog 43 c43 :=
 qap H.ty (n43 H) hm (lh:=qhQ) (ct:=c43) (dcd:=fun y=>(y.2.1)) Tryz.func43 (by kernel_rfl) (by rfl) (q1q (l:=[]) (by kernel_rfl) trivial) (by decide) (fun _=>rfl) (fun x r h=>(ql4 x.1).trans h)
theorem n14 {T:Told} (H:qaa T):qai T Tryz.prog (envL e14):=q5q (l:=e14) ⟨ok43 H,trivial⟩
theorem qoM {T:Told} (H:qaa T):q12q T Tryz.prog 32 (.loop (q3q 3 (q4q Tryz.f14) .skip)) ⟨qcV,qdY,lp qbc K0⟩ :=
 q7q H.ty (n14 H) hm (q1q (l:=[]) (by kernel_rfl) trivial) qoN K0
theorem ok14 {T:Told} (H:qaa T):qaf T Tryz.prog 14 c14 :=
 qap H.ty (n14 H) hm (lh:=qgN) (ct:=c14) (dcd:=fun y=>(y.2.1)) Tryz.func14 (by kernel_rfl) (by rfl) (q1q (l:=[(.loop (q3q 3 (q4q Tryz.f14) .skip),⟨qcV,qdY,lp qbc K0⟩)]) (by kernel_rfl) ⟨qoM H,trivial⟩) (by decide) (fun _=>rfl) (fun x r h=>(qoO x.1 x.2.1).trans h)
theorem n4 {T:Told} (H:qaa T):qai T Tryz.prog (envL e4):=q5q (l:=e4) ⟨ok13 H,ok14 H,trivial⟩
theorem ok4 {T:Told} (H:qaa T):qaf T Tryz.prog 4 c4 :=
 qap H.ty (n4 H) hm (lh:=qiQ) (ct:=c4) (dcd:=fun y=>(y.2.1,y.2.2.1)) Tryz.func4 (by kernel_rfl) (by rfl) (q1q (l:=[]) (by kernel_rfl) trivial) (by decide) (fun _=>rfl) (fun x r h=>(qnp x.1 x.2.1).trans h)
theorem n66 {T:Told} (H:qaa T):qai T Tryz.prog (envL e66):=q5q (l:=e66) trivial
theorem quj {T:Told} (H:qaa T):q12q T Tryz.prog 72 (.loop (q3q 9 (q4q Tryz.f66) .skip)) ⟨qf4,qhi,lp qcv K0⟩ :=
 q7q H.ty (n66 H) hm (q1q (l:=[]) (by kernel_rfl) trivial) qul K0
theorem quk {T:Told} (H:qaa T):q12q T Tryz.prog 72 (.loop (q3q 4 (q4q Tryz.f66) .skip)) ⟨qf5,qhj,lp qbG K0⟩ :=
 q7q H.ty (n66 H) hm (q1q (l:=[(.loop (q3q 9 (q4q Tryz.f66) .skip),⟨qf4,qhi,lp qcv K0⟩)]) (by kernel_rfl) ⟨quj H,trivial⟩) qum K0
theorem ok66 {T:Told} (H:qaa T):qaf T Tryz.prog 66 c66 :=
 qap H.ty (n66 H) hm (lh:=qja) (ct:=c66) (dcd:=fun y=>(y.2.1)) Tryz.func66 (by kernel_rfl) (by rfl) (q1q (l:=[(.loop (q3q 4 (q4q Tryz.f66) .skip),⟨qf5,qhj,lp qbG K0⟩)]) (by kernel_rfl) ⟨quk H,trivial⟩) (by decide) (fun _=>rfl) (fun x r h=>(qun x.1).trans h)
theorem n67 {T:Told} (H:qaa T):qai T Tryz.prog (envL e67):=q5q (l:=e67) trivial
theorem qrz {T:Told} (H:qaa T):q12q T Tryz.prog 52 (.loop (q3q 2 (q4q Tryz.f67) .skip)) ⟨qeE,qfz,lp qbx K0⟩ :=
 q7q H.ty (n67 H) hm (q1q (l:=[]) (by kernel_rfl) trivial) qrA K0
theorem ok67 {T:Told} (H:qaa T):qaf T Tryz.prog 67 c67 :=
 qap H.ty (n67 H) hm (lh:=qjC) (ct:=c67) (dcd:=fun y=>(y.2.1,y.2.2.1)) Tryz.func67 (by kernel_rfl) (by rfl) (q1q (l:=[(.loop (q3q 2 (q4q Tryz.f67) .skip),⟨qeE,qfz,lp qbx K0⟩)]) (by kernel_rfl) ⟨qrz H,trivial⟩) (by decide) (fun _=>rfl) (fun x r h=>(qrB x.1 x.2.1).trans h)
theorem n68 {T:Told} (H:qaa T):qai T Tryz.prog (envL e68):=q5q (l:=e68) trivial
theorem qsR {T:Told} (H:qaa T):q12q T Tryz.prog 103 (.loop (q3q 3 (q4q Tryz.f68) .skip)) ⟨qfg,qgj,lp qcj K0⟩ :=
 q7q H.ty (n68 H) hm (q1q (l:=[]) (by kernel_rfl) trivial) qsS K0
theorem qrv {T:Told} (H:qaa T):q12q T Tryz.prog 103 (.loop (q3q 10 (q4q Tryz.f68) .skip)) ⟨qeD,qfy,lp qbd K0⟩ :=
 q7q H.ty (n68 H) hm (q1q (l:=[]) (by kernel_rfl) trivial) qry K0
theorem qru {T:Told} (H:qaa T):q12q T Tryz.prog 103 (.loop (q3q 17 (q4q Tryz.f68) .skip)) ⟨qeC,qfx,lp qck K0⟩ :=
 q7q H.ty (n68 H) hm (q1q (l:=[]) (by kernel_rfl) trivial) qrx K0
theorem qrt {T:Told} (H:qaa T):q12q T Tryz.prog 103 (.loop (q3q 25 (q4q Tryz.f68) .skip)) ⟨qeB,qfw,lp qbw K0⟩ :=
 q7q H.ty (n68 H) hm (q1q (l:=[]) (by kernel_rfl) trivial) qrw K0
theorem ok68 {T:Told} (H:qaa T):qaf T Tryz.prog 68 c68 :=
 qap H.ty (n68 H) hm (lh:=qff) (ct:=c68) (dcd:=fun y=>(y.2.1,y.2.2.1)) Tryz.func68 (by kernel_rfl) (by rfl) (q1q (l:=[(.loop (q3q 3 (q4q Tryz.f68) .skip),⟨qfg,qgj,lp qcj K0⟩),(.loop (q3q 10 (q4q Tryz.f68) .skip),⟨qeD,qfy,lp qbd K0⟩),(.loop (q3q 17 (q4q Tryz.f68) .skip),⟨qeC,qfx,lp qck K0⟩),(.loop (q3q 25 (q4q Tryz.f68) .skip),⟨qeB,qfw,lp qbw K0⟩)]) (by kernel_rfl) ⟨qsR H,qrv H,qru H,qrt H,trivial⟩) (by decide) (fun _=>rfl) (fun x r h=>(qsT x.1).trans h)
theorem n73 {T:Told} (H:qaa T):qai T Tryz.prog (envL e73):=q5q (l:=e73) trivial
theorem qw1 {T:Told} (H:qaa T):q12q T Tryz.prog 23 (.loop (q3q 2 (q4q Tryz.f73) .skip)) ⟨qh2,qjM,lp qe4 K0⟩ :=
 q7q H.ty (n73 H) hm (q1q (l:=[]) (by kernel_rfl) trivial) qw2 K0
theorem ok73 {T:Told} (H:qaa T):qaf T Tryz.prog 73 c73 :=
 qap H.ty (n73 H) hm (lh:=qop) (ct:=c73) (dcd:=fun y=>(y.2.1)) Tryz.func73 (by kernel_rfl) (by rfl) (q1q (l:=[(.loop (q3q 2 (q4q Tryz.f73) .skip),⟨qh2,qjM,lp qe4 K0⟩)]) (by kernel_rfl) ⟨qw1 H,trivial⟩) (by decide) (fun _=>rfl) (fun x r h=>(qw3 x.1).trans h)
theorem n46 {T:Told} (H:qaa T):qai T Tryz.prog (envL e46):=q5q (l:=e46) ⟨ok73 H,trivial⟩
theorem ok46 {T:Told} (H:qaa T):qaf T Tryz.prog 46 c46 :=
 qap H.ty (n46 H) hm (lh:=qvR) (ct:=c46) (dcd:=fun y=>(y.2.1)) Tryz.func46 (by kernel_rfl) (by rfl) (q1q (l:=[]) (by kernel_rfl) trivial) (by decide) (fun _=>rfl) (fun x r h=>(qA2 x.1).trans h)
theorem n29 {T:Told} (H:qaa T):qai T Tryz.prog (envL e29):=q5q (l:=e29) ⟨ok46 H,trivial⟩
theorem ok29 {T:Told} (H:qaa T):qaf T Tryz.prog 29 c29 :=
 qap H.ty (n29 H) hm (lh:=qo7) (ct:=c29) (dcd:=fun y=>(y.2.1)) Tryz.func29 (by kernel_rfl) (by rfl) (q1q (l:=[]) (by kernel_rfl) trivial) (by decide) (fun _=>rfl) (fun x r h=>(qt5 ).trans h)
theorem n77 {T:Told} (H:qaa T):qai T Tryz.prog (envL e77):=q5q (l:=e77) ⟨ok73 H,trivial⟩
theorem qvS {T:Told} (H:qaa T):q12q T Tryz.prog 24 (.loop (q3q 3 (q4q Tryz.f77) .skip)) ⟨qg3,qiA,lp qd8 K0⟩ :=
 q7q H.ty (n77 H) hm (q1q (l:=[]) (by kernel_rfl) trivial) qvT K0
theorem ok77 {T:Told} (H:qaa T):qaf T Tryz.prog 77 c77 :=
 qap H.ty (n77 H) hm (lh:=qmF) (ct:=c77) (dcd:=fun y=>(y.2.1)) Tryz.func77 (by kernel_rfl) (by rfl) (q1q (l:=[(.loop (q3q 3 (q4q Tryz.f77) .skip),⟨qg3,qiA,lp qd8 K0⟩)]) (by kernel_rfl) ⟨qvS H,trivial⟩) (by decide) (fun _=>rfl) (fun x r h=>(qvU x.1).trans h)
theorem n132 {T:Told} (H:qaa T):qai T Tryz.prog (envL e132):=q5q (l:=e132) ⟨ok77 H,trivial⟩
theorem qGD {T:Told} (H:qaa T):qaf T Tryz.prog 132 c132 :=
 qap H.ty (n132 H) hm (lh:=qvQ) (ct:=c132) (dcd:=fun y=>(y.2.1,y.2.2.1)) Tryz.func132 (by kernel_rfl) (by rfl) (q1q (l:=[]) (by kernel_rfl) trivial) (by decide) (fun _=>rfl) (fun x r h=>(qA1 x.1).trans h)
theorem n110 {T:Told} (H:qaa T):qai T Tryz.prog (envL e110):=q5q (l:=e110) ⟨ok46 H,qGD H,trivial⟩
theorem que {T:Told} (H:qaa T):q12q T Tryz.prog 27 (.loop (q3q 3 (q4q Tryz.f110) .skip)) ⟨qf1,qhh,lp qd7 K0⟩ :=
 q7q H.ty (n110 H) hm (q1q (l:=[]) (by kernel_rfl) trivial) quf K0
theorem qGN {T:Told} (H:qaa T):qaf T Tryz.prog 110 c110 :=
 qap H.ty (n110 H) hm (lh:=qlA) (ct:=c110) (dcd:=fun y=>(y.2.1)) Tryz.func110 (by kernel_rfl) (by rfl) (q1q (l:=[(.loop (q3q 3 (q4q Tryz.f110) .skip),⟨qf1,qhh,lp qd7 K0⟩)]) (by kernel_rfl) ⟨que H,trivial⟩) (by decide) (fun _=>rfl) (fun x r h=>(qug x.1 x.2.1).trans h)
theorem n111 {T:Told} (H:qaa T):qai T Tryz.prog (envL e111):=q5q (l:=e111) ⟨H.h133,trivial⟩
theorem qvB {T:Told} (H:qaa T):q12q T Tryz.prog 24 (.loop (q3q 3 (q4q Tryz.f111) .skip)) ⟨qgX,qiu,lp qeY K0⟩ :=
 q7q H.ty (n111 H) hm (q1q (l:=[]) (by kernel_rfl) trivial) qvC K0
theorem qGM {T:Told} (H:qaa T):qaf T Tryz.prog 111 c111 :=
 qap H.ty (n111 H) hm (lh:=qmw) (ct:=c111) (dcd:=fun y=>(y.2.1)) Tryz.func111 (by kernel_rfl) (by rfl) (q1q (l:=[(.loop (q3q 3 (q4q Tryz.f111) .skip),⟨qgX,qiu,lp qeY K0⟩)]) (by kernel_rfl) ⟨qvB H,trivial⟩) (by decide) (fun _=>rfl) (fun x r h=>(qvD x.1).trans h)
theorem n119 {T:Told} (H:qaa T):qai T Tryz.prog (envL e119):=q5q (l:=e119) trivial
theorem qAZ {T:Told} (H:qaa T):qaf T Tryz.prog 119 c119 :=
 qap H.ty (n119 H) hm (lh:=qsb) (ct:=c119) (dcd:=fun y=>(y.2.1)) Tryz.func119 (by kernel_rfl) (by rfl) (q1q (l:=[]) (by kernel_rfl) trivial) (by decide) (fun _=>rfl) (fun x r h=>(qxb x.1 x.2.1).trans h)
theorem n112 {T:Told} (H:qaa T):qai T Tryz.prog (envL e112):=q5q (l:=e112) ⟨ok73 H,qAZ H,trivial⟩
theorem qzg {T:Told} (H:qaa T):q12q T Tryz.prog 50 (.loop (q3q 6 (q4q Tryz.f112) .skip)) ⟨qjr,qkR,lp qfZ K0⟩ :=
 q7q H.ty (n112 H) hm (q1q (l:=[]) (by kernel_rfl) trivial) qzh K0
theorem qF3 {T:Told} (H:qaa T):qaf T Tryz.prog 112 c112 :=
 qap H.ty (n112 H) hm (lh:=qp5) (ct:=c112) (dcd:=fun y=>(y.2.1)) Tryz.func112 (by kernel_rfl) (by rfl) (q1q (l:=[(.loop (q3q 6 (q4q Tryz.f112) .skip),⟨qjr,qkR,lp qfZ K0⟩)]) (by kernel_rfl) ⟨qzg H,trivial⟩) (by decide) (fun _=>rfl) (fun x r h=>(qzi x.1 x.2.1).trans h)
theorem n113 {T:Told} (H:qaa T):qai T Tryz.prog (envL e113):=q5q (l:=e113) trivial
theorem qvH {T:Told} (H:qaa T):q12q T Tryz.prog 45 (.loop (q3q 6 (q4q Tryz.f113) .skip)) ⟨qgZ,qiw,lp qdC K0⟩ :=
 q7q H.ty (n113 H) hm (q1q (l:=[]) (by kernel_rfl) trivial) qvI K0
theorem qCS {T:Told} (H:qaa T):qaf T Tryz.prog 113 c113 :=
 qap H.ty (n113 H) hm (lh:=qmz) (ct:=c113) (dcd:=fun y=>(y.2.1)) Tryz.func113 (by kernel_rfl) (by rfl) (q1q (l:=[(.loop (q3q 6 (q4q Tryz.f113) .skip),⟨qgZ,qiw,lp qdC K0⟩)]) (by kernel_rfl) ⟨qvH H,trivial⟩) (by decide) (fun _=>rfl) (fun x r h=>(qvJ x.1 x.2.1).trans h)
theorem n114 {T:Told} (H:qaa T):qai T Tryz.prog (envL e114):=q5q (l:=e114) ⟨ok73 H,trivial⟩
theorem qzj {T:Told} (H:qaa T):q12q T Tryz.prog 51 (.loop (q3q 4 (q4q Tryz.f114) .skip)) ⟨qjs,qkS,lp qf0 K0⟩ :=
 q7q H.ty (n114 H) hm (q1q (l:=[]) (by kernel_rfl) trivial) qzk K0
theorem qF2 {T:Told} (H:qaa T):qaf T Tryz.prog 114 c114 :=
 qap H.ty (n114 H) hm (lh:=qp6) (ct:=c114) (dcd:=fun y=>(y.2.1)) Tryz.func114 (by kernel_rfl) (by rfl) (q1q (l:=[(.loop (q3q 4 (q4q Tryz.f114) .skip),⟨qjs,qkS,lp qf0 K0⟩)]) (by kernel_rfl) ⟨qzj H,trivial⟩) (by decide) (fun _=>rfl) (fun x r h=>(qzl x.1 x.2.1).trans h)
theorem n117 {T:Told} (H:qaa T):qai T Tryz.prog (envL e117):=q5q (l:=e117) ⟨ok73 H,trivial⟩
theorem qvE {T:Told} (H:qaa T):q12q T Tryz.prog 38 (.loop (q3q 4 (q4q Tryz.f117) .skip)) ⟨qgY,qiv,lp qeZ K0⟩ :=
 q7q H.ty (n117 H) hm (q1q (l:=[]) (by kernel_rfl) trivial) qvF K0
theorem qGK {T:Told} (H:qaa T):qaf T Tryz.prog 117 c117 :=
 qap H.ty (n117 H) hm (lh:=qmx) (ct:=c117) (dcd:=fun y=>(y.2.1,y.2.2.1)) Tryz.func117 (by kernel_rfl) (by rfl) (q1q (l:=[(.loop (q3q 4 (q4q Tryz.f117) .skip),⟨qgY,qiv,lp qeZ K0⟩)]) (by kernel_rfl) ⟨qvE H,trivial⟩) (by decide) (fun _=>rfl) (fun x r h=>(qvG x.1 x.2.1).trans h)
theorem n134 {T:Told} (H:qaa T):qai T Tryz.prog (envL e134):=q5q (l:=e134) ⟨H.h143,trivial⟩
theorem qGC {T:Told} (H:qaa T):qaf T Tryz.prog 134 c134 :=
 qap H.ty (n134 H) hm (lh:=qhS) (ct:=c134) (dcd:=fun y=>(y.2.1)) Tryz.func134 (by kernel_rfl) (by rfl) (q1q (l:=[]) (by kernel_rfl) trivial) (by decide) (fun _=>rfl) (fun x r h=>(ql6 x.1).trans h)
theorem n144 {T:Told} (H:qaa T):qai T Tryz.prog (envL e144):=q5q (l:=e144) ⟨qAZ H,trivial⟩
theorem qw4 {T:Told} (H:qaa T):q12q T Tryz.prog 46 (.loop (q3q 3 (q4q Tryz.f144) .skip)) ⟨qh3,qjN,lp qfK K0⟩ :=
 q7q H.ty (n144 H) hm (q1q (l:=[]) (by kernel_rfl) trivial) qw5 K0
theorem qGz {T:Told} (H:qaa T):qaf T Tryz.prog 144 c144 :=
 qap H.ty (n144 H) hm (lh:=qoq) (ct:=c144) (dcd:=fun y=>(y.1.1,y.2.1)) Tryz.func144 (by kernel_rfl) (by rfl) (q1q (l:=[(.loop (q3q 3 (q4q Tryz.f144) .skip),⟨qh3,qjN,lp qfK K0⟩)]) (by kernel_rfl) ⟨qw4 H,trivial⟩) (by decide) (fun _=>rfl) (fun x r h=>(qw6 x.1 x.2.1 x.2.2.1).trans h)
theorem n145 {T:Told} (H:qaa T):qai T Tryz.prog (envL e145):=q5q (l:=e145) ⟨qAZ H,trivial⟩
theorem qxc {T:Told} (H:qaa T):q12q T Tryz.prog 29 (.loop (q3q 2 (q4q Tryz.f145) .skip)) ⟨qh5,qjQ,lp qfL K0⟩ :=
 q7q H.ty (n145 H) hm (q1q (l:=[]) (by kernel_rfl) trivial) qxd K0
theorem qGy {T:Told} (H:qaa T):qaf T Tryz.prog 145 c145 :=
 qap H.ty (n145 H) hm (lh:=qos) (ct:=c145) (dcd:=fun y=>(y.1.1)) Tryz.func145 (by kernel_rfl) (by rfl) (q1q (l:=[(.loop (q3q 2 (q4q Tryz.f145) .skip),⟨qh5,qjQ,lp qfL K0⟩)]) (by kernel_rfl) ⟨qxc H,trivial⟩) (by decide) (fun _=>rfl) (fun x r h=>(qxe x.1 x.2.1).trans h)
theorem n135 {T:Told} (H:qaa T):qai T Tryz.prog (envL e135):=q5q (l:=e135) ⟨qGz H,qGy H,trivial⟩
theorem qvN {T:Told} (H:qaa T):q12q T Tryz.prog 77 (.loop (q3q 4 (q4q Tryz.f135) .skip)) ⟨qg1,qiz,lp qb6 K0⟩ :=
 q7q H.ty (n135 H) hm (q1q (l:=[]) (by kernel_rfl) trivial) qvO K0
theorem qGB {T:Told} (H:qaa T):qaf T Tryz.prog 135 c135 :=
 qap H.ty (n135 H) hm (lh:=qmB) (ct:=c135) (dcd:=fun y=>(y.1.1,y.2.1)) Tryz.func135 (by kernel_rfl) (by rfl) (q1q (l:=[(.loop (q3q 4 (q4q Tryz.f135) .skip),⟨qg1,qiz,lp qb6 K0⟩)]) (by kernel_rfl) ⟨qvN H,trivial⟩) (by decide) (fun _=>rfl) (fun x r h=>(qvP x.1 x.2.1).trans h)
theorem n118 {T:Told} (H:qaa T):qai T Tryz.prog (envL e118):=q5q (l:=e118) ⟨ok73 H,qF3 H,qF2 H,qGC H,qGB H,trivial⟩
theorem qw8 {T:Told} (H:qaa T):q12q T Tryz.prog 64 (.loop (q3q 7 (q4q Tryz.f118) .skip)) ⟨qh4,qjP,lp qe6 K0⟩ :=
 q7q H.ty (n118 H) hm (q1q (l:=[]) (by kernel_rfl) trivial) qw9 K0
theorem qGJ {T:Told} (H:qaa T):qaf T Tryz.prog 118 c118 :=
 qap H.ty (n118 H) hm (lh:=qor) (ct:=c118) (dcd:=fun y=>(y.2.1,y.2.2.1)) Tryz.func118 (by kernel_rfl) (by rfl) (q1q (l:=[(.loop (q3q 7 (q4q Tryz.f118) .skip),⟨qh4,qjP,lp qe6 K0⟩)]) (by kernel_rfl) ⟨qw8 H,trivial⟩) (by decide) (fun _=>rfl) (fun x r h=>(qxa x.1 x.2.1).trans h)
theorem n85 {T:Told} (H:qaa T):qai T Tryz.prog (envL e85):=q5q (l:=e85) ⟨ok46 H,ok77 H,qCS H,qGK H,qGJ H,trivial⟩
theorem ok85 {T:Told} (H:qaa T):qaf T Tryz.prog 85 c85 :=
 qap H.ty (n85 H) hm (lh:=qpo) (ct:=c85) (dcd:=fun y=>(y.2.1,y.2.2.1,y.2.2.2.1)) Tryz.func85 (by kernel_rfl) (by rfl) (q1q (l:=[]) (by kernel_rfl) trivial) (by decide) (fun _=>rfl) (fun x r h=>(quh x.1 x.2.1).trans h)
theorem n115 {T:Told} (H:qaa T):qai T Tryz.prog (envL e115):=q5q (l:=e115) ⟨ok85 H,trivial⟩
theorem qGL {T:Told} (H:qaa T):qaf T Tryz.prog 115 c115 :=
 qap H.ty (n115 H) hm (lh:=qsa) (ct:=c115) (dcd:=fun y=>(y.2.1,y.2.2.1)) Tryz.func115 (by kernel_rfl) (by rfl) (q1q (l:=[]) (by kernel_rfl) trivial) (by decide) (fun _=>rfl) (fun x r h=>(qw7 x.1 x.2.1).trans h)
theorem n116 {T:Told} (H:qaa T):qai T Tryz.prog (envL e116):=q5q (l:=e116) ⟨ok73 H,qAZ H,trivial⟩
theorem qvK {T:Told} (H:qaa T):q12q T Tryz.prog 39 (.loop (q3q 4 (q4q Tryz.f116) .skip)) ⟨qg0,qiy,lp qe0 K0⟩ :=
 q7q H.ty (n116 H) hm (q1q (l:=[]) (by kernel_rfl) trivial) qvL K0
theorem qF1 {T:Told} (H:qaa T):qaf T Tryz.prog 116 c116 :=
 qap H.ty (n116 H) hm (lh:=qmA) (ct:=c116) (dcd:=fun y=>(y.2.1)) Tryz.func116 (by kernel_rfl) (by rfl) (q1q (l:=[(.loop (q3q 4 (q4q Tryz.f116) .skip),⟨qg0,qiy,lp qe0 K0⟩)]) (by kernel_rfl) ⟨qvK H,trivial⟩) (by decide) (fun _=>rfl) (fun x r h=>(qvM x.1 x.2.1).trans h)
theorem n84 {T:Told} (H:qaa T):qai T Tryz.prog (envL e84):=q5q (l:=e84) ⟨ok77 H,qGN H,qGM H,qF3 H,qCS H,qF2 H,qGL H,qF1 H,trivial⟩
theorem qxf {T:Told} (H:qaa T):q12q T Tryz.prog 86 (.loop (q3q 10 (q4q Tryz.f84) .skip)) ⟨qh6,qjR,lp qct K0⟩ :=
 q7q H.ty (n84 H) hm (q1q (l:=[]) (by kernel_rfl) trivial) qxg K0
theorem ok84 {T:Told} (H:qaa T):qaf T Tryz.prog 84 c84 :=
 qap H.ty (n84 H) hm (lh:=qp7) (ct:=c84) (dcd:=fun y=>(y.2.1)) Tryz.func84 (by kernel_rfl) (by rfl) (q1q (l:=[(.loop (q3q 10 (q4q Tryz.f84) .skip),⟨qh6,qjR,lp qct K0⟩)]) (by kernel_rfl) ⟨qxf H,trivial⟩) (by decide) (fun _=>rfl) (fun x r h=>(qzs x.1 x.2.1).trans h)
theorem n55 {T:Told} (H:qaa T):qai T Tryz.prog (envL e55):=q5q (l:=e55) ⟨ok46 H,ok84 H,ok85 H,trivial⟩
theorem ok55 {T:Told} (H:qaa T):qaf T Tryz.prog 55 c55 :=
 qap H.ty (n55 H) hm (lh:=qo6) (ct:=c55) (dcd:=fun y=>(y.2.1)) Tryz.func55 (by kernel_rfl) (by rfl) (q1q (l:=[]) (by kernel_rfl) trivial) (by decide) (fun _=>rfl) (fun x r h=>(qt4 x.1 x.2.1).trans h)
theorem n72 {T:Told} (H:qaa T):qai T Tryz.prog (envL e72):=q5q (l:=e72) trivial
theorem ok72 {T:Told} (H:qaa T):qaf T Tryz.prog 72 c72 :=
 qap H.ty (n72 H) hm (lh:=qoW) (ct:=c72) (dcd:=fun y=>(y.2.1)) Tryz.func72 (by kernel_rfl) (by rfl) (q1q (l:=[]) (by kernel_rfl) trivial) (by decide) (fun _=>rfl) (fun x r h=>(qtM x.1 x.2.1).trans h)
theorem n75 {T:Told} (H:qaa T):qai T Tryz.prog (envL e75):=q5q (l:=e75) ⟨ok72 H,ok77 H,trivial⟩
theorem ok75 {T:Told} (H:qaa T):qaf T Tryz.prog 75 c75 :=
 qap H.ty (n75 H) hm (lh:=qn7) (ct:=c75) (dcd:=fun y=>(y.2.1)) Tryz.func75 (by kernel_rfl) (by rfl) (q1q (l:=[]) (by kernel_rfl) trivial) (by decide) (fun _=>rfl) (fun x r h=>(qsQ x.1).trans h)
theorem n49 {T:Told} (H:qaa T):qai T Tryz.prog (envL e49):=q5q (l:=e49) ⟨ok29 H,ok55 H,ok75 H,ok77 H,trivial⟩
theorem ok49 {T:Told} (H:qaa T):qaf T Tryz.prog 49 c49 :=
 qap H.ty (n49 H) hm (lh:=qob) (ct:=c49) (dcd:=fun y=>(y.2.1)) Tryz.func49 (by kernel_rfl) (by rfl) (q1q (l:=[]) (by kernel_rfl) trivial) (by decide) (fun _=>rfl) (fun x r h=>(qs0 x.1).trans h)
theorem n76 {T:Told} (H:qaa T):qai T Tryz.prog (envL e76):=q5q (l:=e76) ⟨ok75 H,trivial⟩
theorem ok76 {T:Told} (H:qaa T):qaf T Tryz.prog 76 c76 :=
 qap H.ty (n76 H) hm (lh:=qoX) (ct:=c76) (dcd:=fun y=>(y.2.1)) Tryz.func76 (by kernel_rfl) (by rfl) (q1q (l:=[]) (by kernel_rfl) trivial) (by decide) (fun _=>rfl) (fun x r h=>(qtN x.1).trans h)
theorem n100 {T:Told} (H:qaa T):qai T Tryz.prog (envL e100):=q5q (l:=e100) ⟨ok49 H,ok76 H,trivial⟩
theorem qF4 {T:Told} (H:qaa T):qaf T Tryz.prog 100 c100 :=
 qap H.ty (n100 H) hm (lh:=qo9) (ct:=c100) (dcd:=fun y=>(y.2.1)) Tryz.func100 (by kernel_rfl) (by rfl) (q1q (l:=[]) (by kernel_rfl) trivial) (by decide) (fun _=>rfl) (fun x r h=>(qt6 x.1).trans h)
theorem n69 {T:Told} (H:qaa T):qai T Tryz.prog (envL e69):=q5q (l:=e69) ⟨qF4 H,trivial⟩
theorem qrC {T:Told} (H:qaa T):q12q T Tryz.prog 19 (.loop (q3q 2 (q4q Tryz.f69) .skip)) ⟨qeF,qfA,lp qby K0⟩ :=
 q7q H.ty (n69 H) hm (q1q (l:=[]) (by kernel_rfl) trivial) qrD K0
theorem ok69 {T:Told} (H:qaa T):qaf T Tryz.prog 69 c69 :=
 qap H.ty (n69 H) hm (lh:=qjD) (ct:=c69) (dcd:=fun y=>(y.2.1,y.2.2.1)) Tryz.func69 (by kernel_rfl) (by rfl) (q1q (l:=[(.loop (q3q 2 (q4q Tryz.f69) .skip),⟨qeF,qfA,lp qby K0⟩)]) (by kernel_rfl) ⟨qrC H,trivial⟩) (by decide) (fun _=>rfl) (fun x r h=>(qrE x.1).trans h)
theorem n59 {T:Told} (H:qaa T):qai T Tryz.prog (envL e59):=q5q (l:=e59) ⟨ok73 H,ok77 H,trivial⟩
theorem qzn {T:Told} (H:qaa T):q12q T Tryz.prog 67 (.loop (q3q 8 (q4q Tryz.f59) .skip)) ⟨qjt,qkV,lp qf2 K0⟩ :=
 q7q H.ty (n59 H) hm (q1q (l:=[]) (by kernel_rfl) trivial) qzp K0
theorem qzo {T:Told} (H:qaa T):q12q T Tryz.prog 67 (.loop (q3q 4 (q4q Tryz.f59) .skip)) ⟨qju,qkW,lp qg2 K0⟩ :=
 q7q H.ty (n59 H) hm (q1q (l:=[(.loop (q3q 8 (q4q Tryz.f59) .skip),⟨qjt,qkV,lp qf2 K0⟩)]) (by kernel_rfl) ⟨qzn H,trivial⟩) qzq K0
theorem ok59 {T:Told} (H:qaa T):qaf T Tryz.prog 59 c59 :=
 qap H.ty (n59 H) hm (lh:=qnz) (ct:=c59) (dcd:=fun y=>(y.2.1)) Tryz.func59 (by kernel_rfl) (by rfl) (q1q (l:=[(.loop (q3q 4 (q4q Tryz.f59) .skip),⟨qju,qkW,lp qg2 K0⟩)]) (by kernel_rfl) ⟨qzo H,trivial⟩) (by decide) (fun _=>rfl) (fun x r h=>(qzr x.1 x.2.1).trans h)
theorem n57 {T:Told} (H:qaa T):qai T Tryz.prog (envL e57):=q5q (l:=e57) ⟨ok59 H,ok72 H,ok75 H,trivial⟩
theorem ok57 {T:Told} (H:qaa T):qaf T Tryz.prog 57 c57 :=
 qap H.ty (n57 H) hm (lh:=qqx) (ct:=c57) (dcd:=fun y=>(y.2.1)) Tryz.func57 (by kernel_rfl) (by rfl) (q1q (l:=[]) (by kernel_rfl) trivial) (by decide) (fun _=>rfl) (fun x r h=>(quQ x.1 x.2.1).trans h)
theorem n58 {T:Told} (H:qaa T):qai T Tryz.prog (envL e58):=q5q (l:=e58) trivial
theorem ok58 {T:Told} (H:qaa T):qaf T Tryz.prog 58 c58 :=
 qap H.ty (n58 H) hm (lh:=qqF) (ct:=c58) (dcd:=fun y=>(y.2.1)) Tryz.func58 (by kernel_rfl) (by rfl) (q1q (l:=[]) (by kernel_rfl) trivial) (by decide) (fun _=>rfl) (fun x r h=>(qvd x.1).trans h)
theorem n87 {T:Told} (H:qaa T):qai T Tryz.prog (envL e87):=q5q (l:=e87) ⟨ok77 H,qCS H,trivial⟩
theorem ok87 {T:Told} (H:qaa T):qaf T Tryz.prog 87 c87 :=
 qap H.ty (n87 H) hm (lh:=qts) (ct:=c87) (dcd:=fun y=>(y.2.1)) Tryz.func87 (by kernel_rfl) (by rfl) (q1q (l:=[]) (by kernel_rfl) trivial) (by decide) (fun _=>rfl) (fun x r h=>(qzt x.1 x.2.1).trans h)
theorem n74 {T:Told} (H:qaa T):qai T Tryz.prog (envL e74):=q5q (l:=e74) ⟨ok75 H,ok87 H,trivial⟩
theorem ok74 {T:Told} (H:qaa T):qaf T Tryz.prog 74 c74 :=
 qap H.ty (n74 H) hm (lh:=qqy) (ct:=c74) (dcd:=fun y=>(y.2.1)) Tryz.func74 (by kernel_rfl) (by rfl) (q1q (l:=[]) (by kernel_rfl) trivial) (by decide) (fun _=>rfl) (fun x r h=>(quR x.1 x.2.1).trans h)
theorem n47 {T:Told} (H:qaa T):qai T Tryz.prog (envL e47):=q5q (l:=e47) ⟨ok49 H,ok57 H,ok58 H,ok74 H,trivial⟩
theorem ok47 {T:Told} (H:qaa T):qaf T Tryz.prog 47 c47 :=
 qap H.ty (n47 H) hm (lh:=qqQ) (ct:=c47) (dcd:=fun y=>(y.2.1)) Tryz.func47 (by kernel_rfl) (by rfl) (q1q (l:=[]) (by kernel_rfl) trivial) (by decide) (fun _=>rfl) (fun x r h=>(qvo x.1 x.2.1).trans h)
theorem n19 {T:Told} (H:qaa T):qai T Tryz.prog (envL e19):=q5q (l:=e19) ⟨ok47 H,trivial⟩
theorem ok19 {T:Told} (H:qaa T):qaf T Tryz.prog 19 c19 :=
 qap H.ty (n19 H) hm (lh:=qpa) (ct:=c19) (dcd:=fun y=>(y.2.1)) Tryz.func19 (by kernel_rfl) (by rfl) (q1q (l:=[]) (by kernel_rfl) trivial) (by decide) (fun _=>rfl) (fun x r h=>(qt8 x.1 x.2.1).trans h)
theorem n86 {T:Told} (H:qaa T):qai T Tryz.prog (envL e86):=q5q (l:=e86) ⟨ok73 H,ok77 H,qAZ H,trivial⟩
theorem qzu {T:Told} (H:qaa T):q12q T Tryz.prog 43 (.loop (q3q 5 (q4q Tryz.f86) .skip)) ⟨qjv,qkX,lp qg4 K0⟩ :=
 q7q H.ty (n86 H) hm (q1q (l:=[]) (by kernel_rfl) trivial) qzv K0
theorem ok86 {T:Told} (H:qaa T):qaf T Tryz.prog 86 c86 :=
 qap H.ty (n86 H) hm (lh:=qp8) (ct:=c86) (dcd:=fun y=>(y.2.1)) Tryz.func86 (by kernel_rfl) (by rfl) (q1q (l:=[(.loop (q3q 5 (q4q Tryz.f86) .skip),⟨qjv,qkX,lp qg4 K0⟩)]) (by kernel_rfl) ⟨qzu H,trivial⟩) (by decide) (fun _=>rfl) (fun x r h=>(qzw x.1 x.2.1).trans h)
theorem n88 {T:Told} (H:qaa T):qai T Tryz.prog (envL e88):=q5q (l:=e88) ⟨ok77 H,qCS H,qF1 H,trivial⟩
theorem ok88 {T:Told} (H:qaa T):qaf T Tryz.prog 88 c88 :=
 qap H.ty (n88 H) hm (lh:=qtr) (ct:=c88) (dcd:=fun y=>(y.2.1,y.2.2.1)) Tryz.func88 (by kernel_rfl) (by rfl) (q1q (l:=[]) (by kernel_rfl) trivial) (by decide) (fun _=>rfl) (fun x r h=>(qzm x.1 x.2.1).trans h)
theorem n56 {T:Told} (H:qaa T):qai T Tryz.prog (envL e56):=q5q (l:=e56) ⟨ok72 H,ok75 H,ok86 H,ok87 H,ok88 H,trivial⟩
theorem ok56 {T:Told} (H:qaa T):qaf T Tryz.prog 56 c56 :=
 qap H.ty (n56 H) hm (lh:=qqz) (ct:=c56) (dcd:=fun y=>(y.2.1)) Tryz.func56 (by kernel_rfl) (by rfl) (q1q (l:=[]) (by kernel_rfl) trivial) (by decide) (fun _=>rfl) (fun x r h=>(quS x.1 x.2.1).trans h)
theorem n34 {T:Told} (H:qaa T):qai T Tryz.prog (envL e34):=q5q (l:=e34) ⟨ok49 H,ok55 H,ok56 H,ok57 H,ok58 H,ok59 H,trivial⟩
theorem ok34 {T:Told} (H:qaa T):qaf T Tryz.prog 34 c34 :=
 qap H.ty (n34 H) hm (lh:=qqR) (ct:=c34) (dcd:=fun y=>(y.2.1)) Tryz.func34 (by kernel_rfl) (by rfl) (q1q (l:=[]) (by kernel_rfl) trivial) (by decide) (fun _=>rfl) (fun x r h=>(qvp x.1 x.2.1).trans h)
theorem n70 {T:Told} (H:qaa T):qai T Tryz.prog (envL e70):=q5q (l:=e70) ⟨ok19 H,ok34 H,trivial⟩
theorem qtO {T:Told} (H:qaa T):q12q T Tryz.prog 37 (.loop (q3q 2 (q4q Tryz.f70) .skip)) ⟨qfX,qg8,lp qbV K0⟩ :=
 q7q H.ty (n70 H) hm (q1q (l:=[]) (by kernel_rfl) trivial) qtP K0
theorem ok70 {T:Told} (H:qaa T):qaf T Tryz.prog 70 c70 :=
 qap H.ty (n70 H) hm (lh:=qlb) (ct:=c70) (dcd:=fun y=>(y.2.1,y.2.2.1)) Tryz.func70 (by kernel_rfl) (by rfl) (q1q (l:=[(.loop (q3q 2 (q4q Tryz.f70) .skip),⟨qfX,qg8,lp qbV K0⟩)]) (by kernel_rfl) ⟨qtO H,trivial⟩) (by decide) (fun _=>rfl) (fun x r h=>(qtQ x.1).trans h)
theorem n71 {T:Told} (H:qaa T):qai T Tryz.prog (envL e71):=q5q (l:=e71) trivial
theorem ok71 {T:Told} (H:qaa T):qaf T Tryz.prog 71 c71 :=
 qap H.ty (n71 H) hm (lh:=qn8) (ct:=c71) (dcd:=fun y=>(y.2.1)) Tryz.func71 (by kernel_rfl) (by rfl) (q1q (l:=[]) (by kernel_rfl) trivial) (by decide) (fun _=>rfl) (fun x r h=>(qsU x.1 x.2.1 x.2.2.1).trans h)
theorem n44 {T:Told} (H:qaa T):qai T Tryz.prog (envL e44):=q5q (l:=e44) ⟨ok66 H,ok67 H,ok68 H,ok69 H,ok70 H,ok71 H,trivial⟩
theorem qsV {T:Told} (H:qaa T):q12q T Tryz.prog 63 (.loop (q3q 7 (q4q Tryz.f44) .skip)) ⟨qfh,qgk,lp qaJ K0⟩ :=
 q7q H.ty (n44 H) hm (q1q (l:=[]) (by kernel_rfl) trivial) qsX K0
theorem qsW {T:Told} (H:qaa T):q12q T Tryz.prog 63 (.loop (q3q 4 (q4q Tryz.f44) .skip)) ⟨qfi,qgl,lp qbT K0⟩ :=
 q7q H.ty (n44 H) hm (q1q (l:=[(.loop (q3q 7 (q4q Tryz.f44) .skip),⟨qfh,qgk,lp qaJ K0⟩)]) (by kernel_rfl) ⟨qsV H,trivial⟩) qsY K0
theorem ok44 {T:Told} (H:qaa T):qaf T Tryz.prog 44 c44 :=
 qap H.ty (n44 H) hm (lh:=qih) (ct:=c44) (dcd:=fun y=>(y.2.1)) Tryz.func44 (by kernel_rfl) (by rfl) (q1q (l:=[(.loop (q3q 4 (q4q Tryz.f44) .skip),⟨qfi,qgl,lp qbT K0⟩)]) (by kernel_rfl) ⟨qsW H,trivial⟩) (by decide) (fun _=>rfl) (fun x r h=>(qsZ x.1).trans h)
theorem n15 {T:Told} (H:qaa T):qai T Tryz.prog (envL e15):=q5q (l:=e15) ⟨ok44 H,trivial⟩
theorem ok15 {T:Told} (H:qaa T):qaf T Tryz.prog 15 c15 :=
 qap H.ty (n15 H) hm (lh:=qrF) (ct:=c15) (dcd:=fun y=>(y.2.1)) Tryz.func15 (by kernel_rfl) (by rfl) (q1q (l:=[]) (by kernel_rfl) trivial) (by decide) (fun _=>rfl) (fun x r h=>(qwF x.1).trans h)
theorem n5 {T:Told} (H:qaa T):qai T Tryz.prog (envL e5):=q5q (l:=e5) ⟨ok15 H,trivial⟩
theorem ok5 {T:Told} (H:qaa T):qaf T Tryz.prog 5 c5 :=
 qap H.ty (n5 H) hm (lh:=qj4) (ct:=c5) (dcd:=fun y=>(y.2.1)) Tryz.func5 (by kernel_rfl) (by rfl) (q1q (l:=[]) (by kernel_rfl) trivial) (by decide) (fun _=>rfl) (fun x r h=>(qoL x.1 x.2.1).trans h)
theorem n45 {T:Told} (H:qaa T):qai T Tryz.prog (envL e45):=q5q (l:=e45) ⟨ok46 H,ok72 H,trivial⟩
theorem ok45 {T:Told} (H:qaa T):qaf T Tryz.prog 45 c45 :=
 qap H.ty (n45 H) hm (lh:=qrs) (ct:=c45) (dcd:=fun y=>(y.2.1)) Tryz.func45 (by kernel_rfl) (by rfl) (q1q (l:=[]) (by kernel_rfl) trivial) (by decide) (fun _=>rfl) (fun x r h=>(qwC x.1).trans h)
theorem n17 {T:Told} (H:qaa T):qai T Tryz.prog (envL e17):=q5q (l:=e17) ⟨ok45 H,ok46 H,trivial⟩
theorem ok17 {T:Told} (H:qaa T):qaf T Tryz.prog 17 c17 :=
 qap H.ty (n17 H) hm (lh:=qrV) (ct:=c17) (dcd:=fun y=>(y.2.1)) Tryz.func17 (by kernel_rfl) (by rfl) (q1q (l:=[]) (by kernel_rfl) trivial) (by decide) (fun _=>rfl) (fun x r h=>(qwT x.1).trans h)
theorem n16 {T:Told} (H:qaa T):qai T Tryz.prog (envL e16):=q5q (l:=e16) ⟨ok17 H,trivial⟩
theorem ok16 {T:Told} (H:qaa T):qaf T Tryz.prog 16 c16 :=
 qap H.ty (n16 H) hm (lh:=qqH) (ct:=c16) (dcd:=fun y=>(y.2.1)) Tryz.func16 (by kernel_rfl) (by rfl) (q1q (l:=[]) (by kernel_rfl) trivial) (by decide) (fun _=>rfl) (fun x r h=>(qvj ).trans h)
theorem n60 {T:Told} (H:qaa T):qai T Tryz.prog (envL e60):=q5q (l:=e60) ⟨ok72 H,ok75 H,trivial⟩
theorem ok60 {T:Told} (H:qaa T):qaf T Tryz.prog 60 c60 :=
 qap H.ty (n60 H) hm (lh:=qqw) (ct:=c60) (dcd:=fun y=>(y.2.1)) Tryz.func60 (by kernel_rfl) (by rfl) (q1q (l:=[]) (by kernel_rfl) trivial) (by decide) (fun _=>rfl) (fun x r h=>(quP x.1).trans h)
theorem n39 {T:Told} (H:qaa T):qai T Tryz.prog (envL e39):=q5q (l:=e39) ⟨ok49 H,ok60 H,trivial⟩
theorem ok39 {T:Told} (H:qaa T):qaf T Tryz.prog 39 c39 :=
 qap H.ty (n39 H) hm (lh:=qqJ) (ct:=c39) (dcd:=fun y=>(y.2.1)) Tryz.func39 (by kernel_rfl) (by rfl) (q1q (l:=[]) (by kernel_rfl) trivial) (by decide) (fun _=>rfl) (fun x r h=>(qvk x.1).trans h)
theorem n11 {T:Told} (H:qaa T):qai T Tryz.prog (envL e11):=q5q (l:=e11) ⟨ok34 H,ok39 H,trivial⟩
theorem ok11 {T:Told} (H:qaa T):qaf T Tryz.prog 11 c11 :=
 qap H.ty (n11 H) hm (lh:=qqG) (ct:=c11) (dcd:=fun y=>(y.2.1)) Tryz.func11 (by kernel_rfl) (by rfl) (q1q (l:=[]) (by kernel_rfl) trivial) (by decide) (fun _=>rfl) (fun x r h=>(qvi x.1 x.2.1).trans h)
theorem n48 {T:Told} (H:qaa T):qai T Tryz.prog (envL e48):=q5q (l:=e48) ⟨ok55 H,ok60 H,ok75 H,ok76 H,trivial⟩
theorem ok48 {T:Told} (H:qaa T):qaf T Tryz.prog 48 c48 :=
 qap H.ty (n48 H) hm (lh:=qpb) (ct:=c48) (dcd:=fun y=>(y.2.1,y.2.2.1)) Tryz.func48 (by kernel_rfl) (by rfl) (q1q (l:=[]) (by kernel_rfl) trivial) (by decide) (fun _=>rfl) (fun x r h=>(qt9 x.1 x.2.1).trans h)
theorem n20 {T:Told} (H:qaa T):qai T Tryz.prog (envL e20):=q5q (l:=e20) ⟨ok45 H,ok48 H,ok49 H,trivial⟩
theorem ok20 {T:Told} (H:qaa T):qaf T Tryz.prog 20 c20 :=
 qap H.ty (n20 H) hm (lh:=qpc) (ct:=c20) (dcd:=fun y=>(y.2.1)) Tryz.func20 (by kernel_rfl) (by rfl) (q1q (l:=[]) (by kernel_rfl) trivial) (by decide) (fun _=>rfl) (fun x r h=>(qua x.1 x.2.1).trans h)
theorem n35 {T:Told} (H:qaa T):qai T Tryz.prog (envL e35):=q5q (l:=e35) ⟨ok49 H,ok55 H,ok57 H,ok59 H,trivial⟩
theorem ok35 {T:Told} (H:qaa T):qaf T Tryz.prog 35 c35 :=
 qap H.ty (n35 H) hm (lh:=qqK) (ct:=c35) (dcd:=fun y=>(y.2.1)) Tryz.func35 (by kernel_rfl) (by rfl) (q1q (l:=[]) (by kernel_rfl) trivial) (by decide) (fun _=>rfl) (fun x r h=>(qvl x.1 x.2.1).trans h)
theorem n52 {T:Told} (H:qaa T):qai T Tryz.prog (envL e52):=q5q (l:=e52) ⟨ok15 H,trivial⟩
theorem ok52 {T:Told} (H:qaa T):qaf T Tryz.prog 52 c52 :=
 qap H.ty (n52 H) hm (lh:=qo3) (ct:=c52) (dcd:=fun y=>(y.2.1)) Tryz.func52 (by kernel_rfl) (by rfl) (q1q (l:=[]) (by kernel_rfl) trivial) (by decide) (fun _=>rfl) (fun x r h=>(qt1 x.1 x.2.1).trans h)
theorem n26 {T:Told} (H:qaa T):qai T Tryz.prog (envL e26):=q5q (l:=e26) ⟨ok52 H,trivial⟩
theorem ok26 {T:Told} (H:qaa T):qaf T Tryz.prog 26 c26 :=
 qap H.ty (n26 H) hm (lh:=qo5) (ct:=c26) (dcd:=fun y=>(y.2.1)) Tryz.func26 (by kernel_rfl) (by rfl) (q1q (l:=[]) (by kernel_rfl) trivial) (by decide) (fun _=>rfl) (fun x r h=>(qt3 x.1 x.2.1).trans h)
theorem n78 {T:Told} (H:qaa T):qai T Tryz.prog (envL e78):=q5q (l:=e78) ⟨ok29 H,trivial⟩
theorem qp0 {T:Told} (H:qaa T):q12q T Tryz.prog 13 (.loop (q3q 3 (q4q Tryz.f78) .skip)) ⟨qdF,qeI,lp qbB K0⟩ :=
 q7q H.ty (n78 H) hm (q1q (l:=[]) (by kernel_rfl) trivial) qp1 K0
theorem ok78 {T:Told} (H:qaa T):qaf T Tryz.prog 78 c78 :=
 qap H.ty (n78 H) hm (lh:=qh0) (ct:=c78) (dcd:=fun y=>(y.2.1)) Tryz.func78 (by kernel_rfl) (by rfl) (q1q (l:=[(.loop (q3q 3 (q4q Tryz.f78) .skip),⟨qdF,qeI,lp qbB K0⟩)]) (by kernel_rfl) ⟨qp0 H,trivial⟩) (by decide) (fun _=>rfl) (fun x r h=>(qp2 x.1).trans h)
theorem n101 {T:Told} (H:qaa T):qai T Tryz.prog (envL e101):=q5q (l:=e101) ⟨ok16 H,trivial⟩
theorem qGV {T:Told} (H:qaa T):qaf T Tryz.prog 101 c101 :=
 qhF H.ty (n101 H) hm (lh:=qmo) (ct:=c101) (wi:=w101) (dcd:=fun y=>(y.2.1)) Tryz.func101 (by kernel_rfl) (by rfl) (q1q (l:=[]) (by kernel_rfl) trivial) (fun _=>rfl) rfl (fun x r h=>(qr4 ).trans h)
theorem n123 {T:Told} (H:qaa T):qai T Tryz.prog (envL e123):=q5q (l:=e123) trivial
theorem qmk {T:Told} (H:qaa T):q12q T Tryz.prog 29 (.loop (q3q 4 (q4q Tryz.f123) .skip)) ⟨qb4,qc0,lp qam K0⟩ :=
 q7q H.ty (n123 H) hm (q1q (l:=[]) (by kernel_rfl) trivial) qml K0
theorem qFZ {T:Told} (H:qaa T):qaf T Tryz.prog 123 c123 :=
 qhF H.ty (n123 H) hm (lh:=qfG) (ct:=c123) (wi:=w123) (dcd:=fun y=>(y.2.1,y.2.2.1)) Tryz.func123 (by kernel_rfl) (by rfl) (q1q (l:=[(.loop (q3q 4 (q4q Tryz.f123) .skip),⟨qb4,qc0,lp qam K0⟩)]) (by kernel_rfl) ⟨qmk H,trivial⟩) (fun _=>rfl) rfl (fun x r h=>(qmm x.1 x.2.1).trans h)
theorem n124 {T:Told} (H:qaa T):qai T Tryz.prog (envL e124):=q5q (l:=e124) trivial
theorem ql0 {T:Told} (H:qaa T):q12q T Tryz.prog 32 (.loop (q3q 5 (q4q Tryz.f124) .skip)) ⟨qbS,qcM,lp qaH K0⟩ :=
 q7q H.ty (n124 H) hm (q1q (l:=[]) (by kernel_rfl) trivial) ql1 K0
theorem qFY {T:Told} (H:qaa T):qaf T Tryz.prog 124 c124 :=
 qhF H.ty (n124 H) hm (lh:=qfm) (ct:=c124) (wi:=w124) (dcd:=fun y=>(y.2.1,y.2.2.1)) Tryz.func124 (by kernel_rfl) (by rfl) (q1q (l:=[(.loop (q3q 5 (q4q Tryz.f124) .skip),⟨qbS,qcM,lp qaH K0⟩)]) (by kernel_rfl) ⟨ql0 H,trivial⟩) (fun _=>rfl) rfl (fun x r h=>(ql2 x.1).trans h)
theorem n138 {T:Told} (H:qaa T):qai T Tryz.prog (envL e138):=q5q (l:=e138) ⟨ok48 H,ok49 H,ok58 H,trivial⟩
theorem qFV {T:Told} (H:qaa T):qaf T Tryz.prog 138 c138 :=
 qap H.ty (n138 H) hm (lh:=qqM) (ct:=c138) (dcd:=fun y=>(y.2.1,y.2.2.1)) Tryz.func138 (by kernel_rfl) (by rfl) (q1q (l:=[]) (by kernel_rfl) trivial) (by decide) (fun _=>rfl) (fun x r h=>(qvm x.1).trans h)
theorem n137 {T:Told} (H:qaa T):qai T Tryz.prog (envL e137):=q5q (l:=e137) ⟨ok11 H,ok20 H,ok35 H,qFV H,trivial⟩
theorem qkI {T:Told} (H:qaa T):q12q T Tryz.prog 104 (.loop (q3q 7 (q4q Tryz.f137) .skip)) ⟨qbr,qb2,lp qaq K0⟩ :=
 q7q H.ty (n137 H) hm (q1q (l:=[]) (by kernel_rfl) trivial) qkJ K0
theorem qFW {T:Told} (H:qaa T):qaf T Tryz.prog 137 c137 :=
 qhF H.ty (n137 H) hm (lh:=qeK) (ct:=c137) (wi:=w137) (dcd:=fun y=>(y.2.1,y.2.2.1)) Tryz.func137 (by kernel_rfl) (by rfl) (q1q (l:=[(.loop (q3q 7 (q4q Tryz.f137) .skip),⟨qbr,qb2,lp qaq K0⟩)]) (by kernel_rfl) ⟨qkI H,trivial⟩) (fun _=>rfl) rfl (fun x r h=>(qkK x.1 x.2.1).trans h)
theorem n125 {T:Told} (H:qaa T):qai T Tryz.prog (envL e125):=q5q (l:=e125) ⟨qFW H,trivial⟩
theorem qlt {T:Told} (H:qaa T):q12q T Tryz.prog 66 (.loop (q3q 8 (q4q Tryz.f125) .skip)) ⟨qbF,qcr,lp qaz K0⟩ :=
 q7q H.ty (n125 H) hm (q1q (l:=[]) (by kernel_rfl) trivial) qlu K0
theorem qGH {T:Told} (H:qaa T):qaf T Tryz.prog 125 c125 :=
 qhF H.ty (n125 H) hm (lh:=qe2) (ct:=c125) (wi:=w125) (dcd:=fun y=>(y.2.1,y.2.2.1)) Tryz.func125 (by kernel_rfl) (by rfl) (q1q (l:=[(.loop (q3q 8 (q4q Tryz.f125) .skip),⟨qbF,qcr,lp qaz K0⟩)]) (by kernel_rfl) ⟨qlt H,trivial⟩) (fun _=>rfl) rfl (fun x r h=>(qlv x.1 x.2.1).trans h)
theorem n126 {T:Told} (H:qaa T):qai T Tryz.prog (envL e126):=q5q (l:=e126) ⟨ok20 H,ok29 H,ok34 H,ok35 H,ok49 H,qF4 H,qFZ H,trivial⟩
theorem qkL {T:Told} (H:qaa T):q12q T Tryz.prog 113 (.loop (q3q 10 (q4q Tryz.f126) .skip)) ⟨qbs,qb5,lp qar K0⟩ :=
 q7q H.ty (n126 H) hm (q1q (l:=[]) (by kernel_rfl) trivial) qkM K0
theorem qGG {T:Told} (H:qaa T):qaf T Tryz.prog 126 c126 :=
 qhF H.ty (n126 H) hm (lh:=qe3) (ct:=c126) (wi:=w126) (dcd:=fun y=>(y.2.1,y.2.2.1)) Tryz.func126 (by kernel_rfl) (by rfl) (q1q (l:=[(.loop (q3q 10 (q4q Tryz.f126) .skip),⟨qbs,qb5,lp qar K0⟩)]) (by kernel_rfl) ⟨qkL H,trivial⟩) (fun _=>rfl) rfl (fun x r h=>(qlw x.1 x.2.1 x.2.2.1 x.2.2.2.1).trans h)
theorem n102 {T:Told} (H:qaa T):qai T Tryz.prog (envL e102):=q5q (l:=e102) ⟨ok35 H,qFZ H,qFY H,qGH H,qGG H,trivial⟩
theorem qGU {T:Told} (H:qaa T):qaf T Tryz.prog 102 c102 :=
 qhF H.ty (n102 H) hm (lh:=qhD) (ct:=c102) (wi:=w102) (dcd:=fun y=>(y.2.1,y.2.2.1,y.2.2.2.1,y.2.2.2.2.1,y.2.2.2.2.2.1,y.2.2.2.2.2.2.1,y.2.2.2.2.2.2.2.1,y.2.2.2.2.2.2.2.2.1,y.2.2.2.2.2.2.2.2.2.1,y.2.2.2.2.2.2.2.2.2.2.1)) Tryz.func102 (by kernel_rfl) (by rfl) (q1q (l:=[]) (by kernel_rfl) trivial) (fun _=>rfl) rfl (fun x r h=>(qlZ x.1 x.2.1 x.2.2.1 x.2.2.2.1 x.2.2.2.2.1 x.2.2.2.2.2.1 x.2.2.2.2.2.2.1 x.2.2.2.2.2.2.2.1 x.2.2.2.2.2.2.2.2.1 x.2.2.2.2.2.2.2.2.2.1).trans h)
theorem n25 {T:Told} (H:qaa T):qai T Tryz.prog (envL e25):=q5q (l:=e25) ⟨ok29 H,ok34 H,trivial⟩
theorem qve {T:Told} (H:qaa T):q12q T Tryz.prog 18 (.loop (q3q 3 (q4q Tryz.f25) .skip)) ⟨qgR,qiq,lp qd5 K0⟩ :=
 q7q H.ty (n25 H) hm (q1q (l:=[]) (by kernel_rfl) trivial) qvg K0
theorem ok25 {T:Told} (H:qaa T):qaf T Tryz.prog 25 c25 :=
 qap H.ty (n25 H) hm (lh:=qmi) (ct:=c25) (dcd:=fun y=>(y.2.1)) Tryz.func25 (by kernel_rfl) (by rfl) (q1q (l:=[(.loop (q3q 3 (q4q Tryz.f25) .skip),⟨qgR,qiq,lp qd5 K0⟩)]) (by kernel_rfl) ⟨qve H,trivial⟩) (by decide) (fun _=>rfl) (fun x r h=>(qvh x.1).trans h)
theorem n127 {T:Told} (H:qaa T):qai T Tryz.prog (envL e127):=q5q (l:=e127) ⟨ok25 H,qFW H,trivial⟩
theorem qGF {T:Told} (H:qaa T):qaf T Tryz.prog 127 c127 :=
 qhF H.ty (n127 H) hm (lh:=qiZ) (ct:=c127) (wi:=w127) (dcd:=fun y=>(y.2.1,y.2.2.1,y.2.2.2.1)) Tryz.func127 (by kernel_rfl) (by rfl) (q1q (l:=[]) (by kernel_rfl) trivial) (fun _=>rfl) rfl (fun x r h=>(qnI x.1 x.2.1).trans h)
theorem n103 {T:Told} (H:qaa T):qai T Tryz.prog (envL e103):=q5q (l:=e103) ⟨ok16 H,ok34 H,ok35 H,ok39 H,qFY H,qGF H,trivial⟩
theorem qlq {T:Told} (H:qaa T):q12q T Tryz.prog 69 (.loop (q3q 3 (q4q Tryz.f103) .skip)) ⟨qbE,qcp,lp qau K0⟩ :=
 q7q H.ty (n103 H) hm (q1q (l:=[]) (by kernel_rfl) trivial) qlr K0
theorem qGT {T:Told} (H:qaa T):qaf T Tryz.prog 103 c103 :=
 qhF H.ty (n103 H) hm (lh:=qe1) (ct:=c103) (wi:=w103) (dcd:=fun y=>(y.1.1,y.2.1,y.2.2.1,y.2.2.2.1,y.2.2.2.2.1,y.2.2.2.2.2.1)) Tryz.func103 (by kernel_rfl) (by rfl) (q1q (l:=[(.loop (q3q 3 (q4q Tryz.f103) .skip),⟨qbE,qcp,lp qau K0⟩)]) (by kernel_rfl) ⟨qlq H,trivial⟩) (fun _=>rfl) rfl (fun x r h=>(qls x.1 x.2.1 x.2.2.1 x.2.2.2.1 x.2.2.2.2.1 x.2.2.2.2.2.1 x.2.2.2.2.2.2.1 x.2.2.2.2.2.2.2.1 x.2.2.2.2.2.2.2.2.1 x.2.2.2.2.2.2.2.2.2.1 x.2.2.2.2.2.2.2.2.2.2.1 x.2.2.2.2.2.2.2.2.2.2.2.1 x.2.2.2.2.2.2.2.2.2.2.2.2.1 x.2.2.2.2.2.2.2.2.2.2.2.2.2.1 x.2.2.2.2.2.2.2.2.2.2.2.2.2.2.1).trans h)
theorem n106 {T:Told} (H:qaa T):qai T Tryz.prog (envL e106):=q5q (l:=e106) ⟨ok47 H,trivial⟩
theorem qGQ {T:Told} (H:qaa T):qaf T Tryz.prog 106 c106 :=
 qap H.ty (n106 H) hm (lh:=qo2) (ct:=c106) (dcd:=fun y=>(y.2.1)) Tryz.func106 (by kernel_rfl) (by rfl) (q1q (l:=[]) (by kernel_rfl) trivial) (by decide) (fun _=>rfl) (fun x r h=>(qt0 x.1 x.2.1).trans h)
theorem n82 {T:Told} (H:qaa T):qai T Tryz.prog (envL e82):=q5q (l:=e82) ⟨qGQ H,trivial⟩
theorem ok82 {T:Told} (H:qaa T):qaf T Tryz.prog 82 c82 :=
 qap H.ty (n82 H) hm (lh:=qo4) (ct:=c82) (dcd:=fun y=>(y.2.1)) Tryz.func82 (by kernel_rfl) (by rfl) (q1q (l:=[]) (by kernel_rfl) trivial) (by decide) (fun _=>rfl) (fun x r h=>(qt2 x.1 x.2.1).trans h)
theorem n128 {T:Told} (H:qaa T):qai T Tryz.prog (envL e128):=q5q (l:=e128) ⟨ok35 H,qFV H,trivial⟩
theorem qFX {T:Told} (H:qaa T):qaf T Tryz.prog 128 c128 :=
 qap H.ty (n128 H) hm (lh:=qqO) (ct:=c128) (dcd:=fun y=>(y.2.1,y.2.2.1)) Tryz.func128 (by kernel_rfl) (by rfl) (q1q (l:=[]) (by kernel_rfl) trivial) (by decide) (fun _=>rfl) (fun x r h=>(qvn x.1 x.2.1).trans h)
theorem n129 {T:Told} (H:qaa T):qai T Tryz.prog (envL e129):=q5q (l:=e129) trivial
theorem qGE {T:Told} (H:qaa T):qaf T Tryz.prog 129 c129 :=
 qhF H.ty (n129 H) hm (lh:=qis) (ct:=c129) (wi:=w129) (dcd:=fun y=>(y.2.1,y.2.2.1)) Tryz.func129 (by kernel_rfl) (by rfl) (q1q (l:=[]) (by kernel_rfl) trivial) (fun _=>rfl) rfl (fun x r h=>(qmn x.1).trans h)
theorem n104 {T:Told} (H:qaa T):qai T Tryz.prog (envL e104):=q5q (l:=e104) ⟨ok35 H,ok82 H,qFX H,qGE H,trivial⟩
theorem qGS {T:Told} (H:qaa T):qaf T Tryz.prog 104 c104 :=
 qhF H.ty (n104 H) hm (lh:=qgS) (ct:=c104) (wi:=w104) (dcd:=fun y=>(y.1.1,y.2.1,y.2.2.1,y.2.2.2.1,y.2.2.2.2.1,y.2.2.2.2.2.1,y.2.2.2.2.2.2.1,y.2.2.2.2.2.2.2.1,y.2.2.2.2.2.2.2.2.1,y.2.2.2.2.2.2.2.2.2.1,y.2.2.2.2.2.2.2.2.2.2.1,y.2.2.2.2.2.2.2.2.2.2.2.1,y.2.2.2.2.2.2.2.2.2.2.2.2.1,y.2.2.2.2.2.2.2.2.2.2.2.2.2.1,y.2.2.2.2.2.2.2.2.2.2.2.2.2.2.1,y.2.2.2.2.2.2.2.2.2.2.2.2.2.2.2.1,y.2.2.2.2.2.2.2.2.2.2.2.2.2.2.2.2.1)) Tryz.func104 (by kernel_rfl) (by rfl) (q1q (l:=[]) (by kernel_rfl) trivial) (fun _=>rfl) rfl (fun x r h=>(qkF x.1 x.2.1 x.2.2.1 x.2.2.2.1 x.2.2.2.2.1 x.2.2.2.2.2.1 x.2.2.2.2.2.2.1 x.2.2.2.2.2.2.2.1 x.2.2.2.2.2.2.2.2.1 x.2.2.2.2.2.2.2.2.2.1 x.2.2.2.2.2.2.2.2.2.2.1 x.2.2.2.2.2.2.2.2.2.2.2.1 x.2.2.2.2.2.2.2.2.2.2.2.2.1 x.2.2.2.2.2.2.2.2.2.2.2.2.2.1 x.2.2.2.2.2.2.2.2.2.2.2.2.2.2.1 x.2.2.2.2.2.2.2.2.2.2.2.2.2.2.2.1 x.2.2.2.2.2.2.2.2.2.2.2.2.2.2.2.2.1).trans h)
theorem n79 {T:Told} (H:qaa T):qai T Tryz.prog (envL e79):=q5q (l:=e79) ⟨ok16 H,qGV H,qGU H,qGT H,qGS H,trivial⟩
theorem qll {T:Told} (H:qaa T):q12q T Tryz.prog 91 (.loop (q3q 9 (q4q Tryz.f79) .skip)) ⟨qbC,qcn,lp qan K0⟩ :=
 q7q H.ty (n79 H) hm (q1q (l:=[]) (by kernel_rfl) trivial) qln K0
theorem qlm {T:Told} (H:qaa T):q12q T Tryz.prog 91 (.loop (q3q 1 (q4q Tryz.f79) .skip)) ⟨qbD,qco,lp qat K0⟩ :=
 q7q H.ty (n79 H) hm (q1q (l:=[(.loop (q3q 9 (q4q Tryz.f79) .skip),⟨qbC,qcn,lp qan K0⟩)]) (by kernel_rfl) ⟨qll H,trivial⟩) qlo K0
theorem ok79 {T:Told} (H:qaa T):qaf T Tryz.prog 79 c79 :=
 qhF H.ty (n79 H) hm (lh:=qdy) (ct:=c79) (wi:=w79) (dcd:=fun y=>(y.1.1,y.2.1,y.2.2.1,y.2.2.2.1,y.2.2.2.2.1,y.2.2.2.2.2.1)) Tryz.func79 (by kernel_rfl) (by rfl) (q1q (l:=[(.loop (q3q 1 (q4q Tryz.f79) .skip),⟨qbD,qco,lp qat K0⟩)]) (by kernel_rfl) ⟨qlm H,trivial⟩) (fun _=>rfl) rfl (fun x r h=>(qlp x.1 x.2.1 x.2.2.1 x.2.2.2.1 x.2.2.2.2.1 x.2.2.2.2.2.1).trans h)
theorem n50 {T:Told} (H:qaa T):qai T Tryz.prog (envL e50):=q5q (l:=e50) ⟨ok78 H,ok79 H,trivial⟩
theorem qr1 {T:Told} (H:qaa T):q12q T Tryz.prog 34 (.loop (q3q 3 (q4q Tryz.f50) .skip)) ⟨qeJ,qfF,lp qcq K0⟩ :=
 q7q H.ty (n50 H) hm (q1q (l:=[]) (by kernel_rfl) trivial) qr2 K0
theorem ok50 {T:Told} (H:qaa T):qaf T Tryz.prog 50 c50 :=
 qap H.ty (n50 H) hm (lh:=qjJ) (ct:=c50) (dcd:=fun y=>(y.2.1)) Tryz.func50 (by kernel_rfl) (by rfl) (q1q (l:=[(.loop (q3q 3 (q4q Tryz.f50) .skip),⟨qeJ,qfF,lp qcq K0⟩)]) (by kernel_rfl) ⟨qr1 H,trivial⟩) (by decide) (fun _=>rfl) (fun x r h=>(qr3 x.1 x.2.1 x.2.2.1 x.2.2.2.1).trans h)
theorem n51 {T:Told} (H:qaa T):qai T Tryz.prog (envL e51):=q5q (l:=e51) ⟨ok26 H,ok50 H,trivial⟩
theorem ok51 {T:Told} (H:qaa T):qaf T Tryz.prog 51 c51 :=
 qap H.ty (n51 H) hm (lh:=qkN) (ct:=c51) (dcd:=fun y=>(y.2.1,y.2.2.1)) Tryz.func51 (by kernel_rfl) (by rfl) (q1q (l:=[]) (by kernel_rfl) trivial) (by decide) (fun _=>rfl) (fun x r h=>(qp3 x.1 x.2.1 x.2.2.1 x.2.2.2.1).trans h)
theorem n24 {T:Told} (H:qaa T):qai T Tryz.prog (envL e24):=q5q (l:=e24) ⟨ok11 H,ok20 H,ok35 H,ok51 H,trivial⟩
theorem qpu {T:Told} (H:qaa T):q12q T Tryz.prog 48 (.loop (q3q 5 (q4q Tryz.f24) .skip)) ⟨qdd,qd9,lp qbj K0⟩ :=
 q7q H.ty (n24 H) hm (q1q (l:=[]) (by kernel_rfl) trivial) qpv K0
theorem ok24 {T:Told} (H:qaa T):qaf T Tryz.prog 24 c24 :=
 qap H.ty (n24 H) hm (lh:=qhk) (ct:=c24) (dcd:=fun y=>(y.2.1)) Tryz.func24 (by kernel_rfl) (by rfl) (q1q (l:=[(.loop (q3q 5 (q4q Tryz.f24) .skip),⟨qdd,qd9,lp qbj K0⟩)]) (by kernel_rfl) ⟨qpu H,trivial⟩) (by decide) (fun _=>rfl) (fun x r h=>(qpw x.1 x.2.1 x.2.2.1).trans h)
theorem n18 {T:Told} (H:qaa T):qai T Tryz.prog (envL e18):=q5q (l:=e18) ⟨ok24 H,ok26 H,trivial⟩
theorem ok18 {T:Told} (H:qaa T):qaf T Tryz.prog 18 c18 :=
 qap H.ty (n18 H) hm (lh:=qlW) (ct:=c18) (dcd:=fun y=>(y.2.1,y.2.2.1)) Tryz.func18 (by kernel_rfl) (by rfl) (q1q (l:=[]) (by kernel_rfl) trivial) (by decide) (fun _=>rfl) (fun x r h=>(qq8 x.1 x.2.1 x.2.2.1 x.2.2.2.1).trans h)
theorem n6 {T:Told} (H:qaa T):qai T Tryz.prog (envL e6):=q5q (l:=e6) ⟨ok16 H,ok17 H,ok18 H,ok19 H,ok20 H,trivial⟩
theorem qno {r} (h:c6.F ()=r):qa3=r:=by
 subst h
 delta c6
 exact(@F_in [] _ _ (fun _=>qa3) _ _ () _ rfl).symm
theorem qnm (x) (r:c6.T) (h:c6.F x=some r):fnF tb (envL e6) Tryz.f6 qfV c6.ps c6.rs (T:=c6.T) (fun y=>(y.2.1)) x=some r:=by
 cases x;exact qnn.trans (qno h)
theorem ok6 {T:Told} (H:qaa T):qaf T Tryz.prog 6 c6 :=
 qap H.ty (n6 H) hm (lh:=qfV) (ct:=c6) (dcd:=fun y=>(y.2.1)) Tryz.func6 (by kernel_rfl) (by rfl) (q1q (l:=[]) (by kernel_rfl) trivial) (by decide) (fun _=>rfl) (fun x r h=>qnm x r h)
theorem n21 {T:Told} (H:qaa T):qai T Tryz.prog (envL e21):=q5q (l:=e21) ⟨ok26 H,ok50 H,trivial⟩
theorem ok21 {T:Told} (H:qaa T):qaf T Tryz.prog 21 c21 :=
 qap H.ty (n21 H) hm (lh:=qj8) (ct:=c21) (dcd:=fun y=>(y.2.1,y.2.2.1)) Tryz.func21 (by kernel_rfl) (by rfl) (q1q (l:=[]) (by kernel_rfl) trivial) (by decide) (fun _=>rfl) (fun x r h=>(qpg x.1 x.2.1).trans h)
theorem n22 {T:Told} (H:qaa T):qai T Tryz.prog (envL e22):=q5q (l:=e22) ⟨ok29 H,trivial⟩
theorem qqd {T:Told} (H:qaa T):q12q T Tryz.prog 22 (.loop (q3q 6 (q4q Tryz.f22) .skip)) ⟨qdI,qeN,lp qbH K0⟩ :=
 q7q tyO (n22 H) hm (q1q (l:=[]) (by kernel_rfl) trivial) qqf K0
theorem qqe {T:Told} (H:qaa T):q12q T Tryz.prog 22 (.loop (q3q 3 (q4q Tryz.f22) .skip)) ⟨qdJ,qeO,lp qbI K0⟩ :=
 q7q tyO (n22 H) hm (q1q (l:=[(.loop (q3q 6 (q4q Tryz.f22) .skip),⟨qdI,qeN,lp qbH K0⟩)]) (by kernel_rfl) ⟨qqd H,trivial⟩) qqg K0
theorem ok22 {T:Told} (H:qaa T):qaf T Tryz.prog 22 c22 :=
 qap tyO (n22 H) hm (lh:=qf6) (ct:=c22) (dcd:=fun y=>(y.2.1)) Tryz.func22 (by kernel_rfl) (by rfl) (q1q (l:=[(.loop (q3q 3 (q4q Tryz.f22) .skip),⟨qdJ,qeO,lp qbI K0⟩)]) (by kernel_rfl) ⟨qqe H,trivial⟩) (by decide) (fun _=>rfl) (fun x r h=>(qqh x.1).trans h)
theorem ok23 {T:Told} (H:qaa T):qaf T Tryz.prog 23 c23:=qz9 (ok15 H)
theorem qF9 {T:Told} (H:qaa T):qai T Tryz.prog (envL qDl):=q5q (l:=qDl) ⟨ok29 H,ok34 H,trivial⟩
theorem qrS {T:Told} (H:qaa T):q12q T Tryz.prog 18 (.loop (q3q 3 (q4q Tryz.f25) .skip)) ⟨qeH,qfD,lp qcm K0⟩ :=
 q7q H.ty (qF9 H) hm (q1q (l:=[]) (by kernel_rfl) trivial) qrT K0
theorem qFU {T:Told} (H:qaa T):qaf T Tryz.prog 25 qBZ :=
 qap H.ty (qF9 H) hm (lh:=qjF) (ct:=qBZ) (dcd:=fun y=>(y.1.1,y.2.1)) Tryz.func25 (by kernel_rfl) (by rfl) (q1q (l:=[(.loop (q3q 3 (q4q Tryz.f25) .skip),⟨qeH,qfD,lp qcm K0⟩)]) (by kernel_rfl) ⟨qrS H,trivial⟩) (by decide) (fun _=>rfl) (fun x r h=>(qrU x.1).trans h)
theorem n7 {T:Told} (H:qaa T):qai T Tryz.prog (envL e7):=q5q (l:=e7) ⟨ok11 H,ok21 H,ok22 H,ok23 H,ok24 H,qFU H,trivial⟩
theorem qow {T:Told} (H:qaa T):q12q T Tryz.prog 91 (.loop (q3q 11 (q4q Tryz.f7) .skip)) ⟨qcR,qdQ,lp qa9 K0⟩ :=
 q7q tyO (n7 H) hm (q1q (l:=[]) (by kernel_rfl) trivial) qoy K0
theorem qpx {T:Told} (H:qaa T):q12q T Tryz.prog 91 (.loop (q3q 7 (q4q Tryz.f7) .skip)) ⟨qde,qea,lp qbk K0⟩ :=
 q7q tyO (n7 H) hm (q1q (l:=[(.loop (q3q 11 (q4q Tryz.f7) .skip),⟨qcR,qdQ,lp qa9 K0⟩)]) (by kernel_rfl) ⟨qow H,trivial⟩) qpy K0
theorem qov {T:Told} (H:qaa T):q12q T Tryz.prog 91 (.loop (q3q 18 (q4q Tryz.f7) .skip)) ⟨qcQ,qdP,lp qa8 K0⟩ :=
 q7q tyO (n7 H) hm (q1q (l:=[]) (by kernel_rfl) trivial) qox K0
theorem ok7 {T:Told} (H:qaa T):qaf T Tryz.prog 7 c7 :=
 qap tyO (n7 H) hm (lh:=qeb) (ct:=c7) (dcd:=fun y=>(y.2.1,y.2.2.1)) Tryz.func7 (by kernel_rfl) (by rfl) (q1q (l:=[(.loop (q3q 7 (q4q Tryz.f7) .skip),⟨qde,qea,lp qbk K0⟩),(.loop (q3q 18 (q4q Tryz.f7) .skip),⟨qcQ,qdP,lp qa8 K0⟩)]) (by kernel_rfl) ⟨qpx H,qov H,trivial⟩) (by decide) (fun _=>rfl) (fun x r h=>(qpz x.1 x.2.1).trans h)
theorem n80 {T:Told} (H:qaa T):qai T Tryz.prog (envL e80):=q5q (l:=e80) trivial
theorem ok80 {T:Told} (H:qaa T):qaf T Tryz.prog 80 c80 :=
 qap H.ty (n80 H) hm (lh:=qmO) (ct:=c80) (dcd:=fun y=>(y.2.1)) Tryz.func80 (by kernel_rfl) (by rfl) (q1q (l:=[]) (by kernel_rfl) trivial) (by decide) (fun _=>rfl) (fun x r h=>(qsw x.1 x.2.1).trans h)
theorem n105 {T:Told} (H:qaa T):qai T Tryz.prog (envL e105):=q5q (l:=e105) ⟨qFX H,trivial⟩
theorem qGR {T:Told} (H:qaa T):qaf T Tryz.prog 105 c105 :=
 qap H.ty (n105 H) hm (lh:=qoh) (ct:=c105) (dcd:=fun y=>(y.2.1)) Tryz.func105 (by kernel_rfl) (by rfl) (q1q (l:=[]) (by kernel_rfl) trivial) (by decide) (fun _=>rfl) (fun x r h=>(qs5 x.1 x.2.1).trans h)
theorem n81 {T:Told} (H:qaa T):qai T Tryz.prog (envL e81):=q5q (l:=e81) ⟨ok34 H,ok35 H,qGR H,trivial⟩
theorem ok81 {T:Told} (H:qaa T):qaf T Tryz.prog 81 c81 :=
 qap H.ty (n81 H) hm (lh:=qoi) (ct:=c81) (dcd:=fun y=>(y.2.1)) Tryz.func81 (by kernel_rfl) (by rfl) (q1q (l:=[]) (by kernel_rfl) trivial) (by decide) (fun _=>rfl) (fun x r h=>(qs6 x.1 x.2.1 x.2.2.1 x.2.2.2.1).trans h)
theorem n53 {T:Told} (H:qaa T) (n:Nat) (hr:qaf T Tryz.prog 53 (c53 n)):qai T Tryz.prog (envL (e53 n)):=q5q (l:=(e53 n)) ⟨ok49 H,hr,ok80 H,ok81 H,ok82 H,trivial⟩
theorem ok53 {T:Told} (H:qaa T):∀ n,qaf T Tryz.prog 53 (c53 n)
 | 0=>qaf.never Tryz.func53 (by kernel_rfl) (by rfl) (fun _=>rfl)
 | n+1=>qap H.ty (n53 H n (ok53 H n)) hm (lh:=qmN n) (ct:=c53 (n+1)) (dcd:=fun y=>(y.2.1)) Tryz.func53 (by kernel_rfl) (by rfl) (q1q (l:=[]) (by kernel_rfl) trivial) (Nat.le_of_ble_eq_true rfl) (fun _=>rfl) (fun x r h=>(qsv n x.1 x.2.1 x.2.2.1 x.2.2.2.1).trans h)
theorem n27 {T:Told} (H:qaa T):qai T Tryz.prog (envL e27):=q5q (l:=e27) ⟨ok26 H,ok29 H,ok34 H,ok53 H R0,trivial⟩
theorem qsx {T:Told} (H:qaa T):q12q T Tryz.prog 35 (.loop (q3q 6 (q4q Tryz.f27) .skip)) ⟨qeQ,qfO,lp qcw K0⟩ :=
 q7q H.ty (n27 H) hm (q1q (l:=[]) (by kernel_rfl) trivial) qsy K0
theorem ok27 {T:Told} (H:qaa T):qaf T Tryz.prog 27 c27 :=
 qap H.ty (n27 H) hm (lh:=qj1) (ct:=c27) (dcd:=fun y=>(y.2.1,y.2.2.1)) Tryz.func27 (by kernel_rfl) (by rfl) (q1q (l:=[(.loop (q3q 6 (q4q Tryz.f27) .skip),⟨qeQ,qfO,lp qcw K0⟩)]) (by kernel_rfl) ⟨qsx H,trivial⟩) (by decide) (fun _=>rfl) (fun x r h=>(qsA x.1 x.2.1 x.2.2.1).trans h)
theorem n8 {T:Told} (H:qaa T):qai T Tryz.prog (envL e8):=q5q (l:=e8) ⟨ok26 H,ok27 H,trivial⟩
theorem qsB {T:Told} (H:qaa T):q12q T Tryz.prog 39 (.loop (q3q 8 (q4q Tryz.f8) .skip)) ⟨qeR,qfP,lp qcx K0⟩ :=
 q7q H.ty (n8 H) hm (q1q (l:=[]) (by kernel_rfl) trivial) qsC K0
theorem ok8 {T:Told} (H:qaa T):qaf T Tryz.prog 8 c8 :=
 qap H.ty (n8 H) hm (lh:=qj2) (ct:=c8) (dcd:=fun y=>(y.2.1,y.2.2.1)) Tryz.func8 (by kernel_rfl) (by rfl) (q1q (l:=[(.loop (q3q 8 (q4q Tryz.f8) .skip),⟨qeR,qfP,lp qcx K0⟩)]) (by kernel_rfl) ⟨qsB H,trivial⟩) (by decide) (fun _=>rfl) (fun x r h=>(qsD x.1 x.2.1).trans h)
theorem n28 {T:Told} (H:qaa T):qai T Tryz.prog (envL e28):=q5q (l:=e28) trivial
theorem ok28 {T:Told} (H:qaa T):qaf T Tryz.prog 28 c28 :=
 qhF H.ty (n28 H) hm (lh:=qqA) (ct:=c28) (wi:=w28) (dcd:=fun y=>(y.2.1,y.2.2.1,y.2.2.2.1,y.2.2.2.2.1)) Tryz.func28 (by kernel_rfl) (by rfl) (q1q (l:=[]) (by kernel_rfl) trivial) (fun _=>rfl) rfl (fun x r h=>(quT ).trans h)
theorem n30 {T:Told} (H:qaa T):qai T Tryz.prog (envL e30):=q5q (l:=e30) trivial
theorem qoI {T:Told} (H:qaa T):q12q T Tryz.prog 13 (.loop (q3q 3 (q4q Tryz.f30) .skip)) ⟨qcU,qdV,lp qbb K0⟩ :=
 q7q H.ty (n30 H) hm (q1q (l:=[]) (by kernel_rfl) trivial) qoJ K0
theorem ok30 {T:Told} (H:qaa T):qaf T Tryz.prog 30 c30 :=
 qap H.ty (n30 H) hm (lh:=qgM) (ct:=c30) (dcd:=fun y=>(y.2.1)) Tryz.func30 (by kernel_rfl) (by rfl) (q1q (l:=[(.loop (q3q 3 (q4q Tryz.f30) .skip),⟨qcU,qdV,lp qbb K0⟩)]) (by kernel_rfl) ⟨qoI H,trivial⟩) (by decide) (fun _=>rfl) (fun x r h=>(qoK x.1).trans h)
theorem n31 {T:Told} (H:qaa T):qai T Tryz.prog (envL e31):=q5q (l:=e31) trivial
theorem qpI {T:Told} (H:qaa T):q12q T Tryz.prog 16 (.loop (q3q 2 (q4q Tryz.f31) .skip)) ⟨qdi,qep,lp qbm K0⟩ :=
 q7q H.ty (n31 H) hm (q1q (l:=[]) (by kernel_rfl) trivial) qpJ K0
theorem ok31 {T:Told} (H:qaa T):qaf T Tryz.prog 31 c31 :=
 qap H.ty (n31 H) hm (lh:=qhz) (ct:=c31) (dcd:=fun y=>(y.2.1)) Tryz.func31 (by kernel_rfl) (by rfl) (q1q (l:=[(.loop (q3q 2 (q4q Tryz.f31) .skip),⟨qdi,qep,lp qbm K0⟩)]) (by kernel_rfl) ⟨qpI H,trivial⟩) (by decide) (fun _=>rfl) (fun x r h=>(qpK x.1 x.2.1).trans h)
theorem n32 {T:Told} (H:qaa T):qai T Tryz.prog (envL e32):=q5q (l:=e32) ⟨ok31 H,trivial⟩
theorem qn3 {T:Told} (H:qaa T):q12q T Tryz.prog 18 (.loop (q3q 3 (q4q Tryz.f32) .skip)) ⟨qcL,qdv,lp qaZ K0⟩ :=
 q7q H.ty (n32 H) hm (q1q (l:=[]) (by kernel_rfl) trivial) qn4 K0
theorem ok32 {T:Told} (H:qaa T):qaf T Tryz.prog 32 c32 :=
 qap H.ty (n32 H) hm (lh:=qgi) (ct:=c32) (dcd:=fun y=>(y.2.1)) Tryz.func32 (by kernel_rfl) (by rfl) (q1q (l:=[(.loop (q3q 3 (q4q Tryz.f32) .skip),⟨qcL,qdv,lp qaZ K0⟩)]) (by kernel_rfl) ⟨qn3 H,trivial⟩) (by decide) (fun _=>rfl) (fun x r h=>(qn5 x.1 x.2.1).trans h)
theorem n109 {T:Told} (H:qaa T):qai T Tryz.prog (envL e109):=q5q (l:=e109) ⟨ok45 H,ok57 H,trivial⟩
theorem qpU {T:Told} (H:qaa T):q12q T Tryz.prog 21 (.loop (q3q 4 (q4q Tryz.f109) .skip)) ⟨qdD,qeA,lp qez K0⟩ :=
 q7q H.ty (n109 H) hm (q1q (l:=[]) (by kernel_rfl) trivial) qpV K0
theorem qGO {T:Told} (H:qaa T):qaf T Tryz.prog 109 c109 :=
 qap H.ty (n109 H) hm (lh:=qhU) (ct:=c109) (dcd:=fun y=>(y.2.1)) Tryz.func109 (by kernel_rfl) (by rfl) (q1q (l:=[(.loop (q3q 4 (q4q Tryz.f109) .skip),⟨qdD,qeA,lp qez K0⟩)]) (by kernel_rfl) ⟨qpU H,trivial⟩) (by decide) (fun _=>rfl) (fun x r h=>(qpW ).trans h)
theorem n108 {T:Told} (H:qaa T):qai T Tryz.prog (envL e108):=q5q (l:=e108) ⟨qGO H,trivial⟩
theorem qGP {T:Told} (H:qaa T):qaf T Tryz.prog 108 c108 :=
 qhF H.ty (n108 H) hm (lh:=qiY) (ct:=c108) (wi:=w108) (dcd:=fun y=>(y.2.1,y.2.2.1,y.2.2.2.1,y.2.2.2.2.1)) Tryz.func108 (by kernel_rfl) (by rfl) (q1q (l:=[]) (by kernel_rfl) trivial) (fun _=>rfl) rfl (fun x r h=>(qnE x.1 x.2.1 x.2.2.1 x.2.2.2.1).trans h)
theorem ok83 {T:Told} (H:qaa T):qaf T Tryz.prog 83 c83:=qFo (qGP H)
theorem n54 {T:Told} (H:qaa T):qai T Tryz.prog (envL e54):=q5q (l:=e54) ⟨ok48 H,ok57 H,ok83 H,trivial⟩
theorem ok54 {T:Told} (H:qaa T):qaf T Tryz.prog 54 c54 :=
 qhF H.ty (n54 H) hm (lh:=qg7) (ct:=c54) (wi:=w54) (dcd:=fun y=>(y.2.1,y.2.2.1,y.2.2.2.1,y.2.2.2.2.1,y.2.2.2.2.2.1)) Tryz.func54 (by kernel_rfl) (by rfl) (q1q (l:=[]) (by kernel_rfl) trivial) (fun _=>rfl) rfl (fun x r h=>(qla x.1 x.2.1 x.2.2.1 x.2.2.2.1 x.2.2.2.2.1 x.2.2.2.2.2.1 x.2.2.2.2.2.2.1).trans h)
theorem n33 {T:Told} (H:qaa T):qai T Tryz.prog (envL e33):=q5q (l:=e33) ⟨ok54 H,trivial⟩
theorem ok33 {T:Told} (H:qaa T):qaf T Tryz.prog 33 c33 :=
 qhF H.ty (n33 H) hm (lh:=qik) (ct:=c33) (wi:=w33) (dcd:=fun y=>(y.2.1,y.2.2.1,y.2.2.2.1,y.2.2.2.2.1,y.2.2.2.2.2.1,y.2.2.2.2.2.2.1)) Tryz.func33 (by kernel_rfl) (by rfl) (q1q (l:=[]) (by kernel_rfl) trivial) (fun _=>rfl) rfl (fun x r h=>(qma x.1 x.2.1 x.2.2.1 x.2.2.2.1 x.2.2.2.2.1 x.2.2.2.2.2.1).trans h)
theorem n9 {T:Told} (H:qaa T):qai T Tryz.prog (envL e9):=q5q (l:=e9) ⟨ok11 H,ok28 H,ok29 H,ok30 H,ok31 H,ok32 H,ok33 H,ok34 H,ok35 H,trivial⟩
theorem qk5 {T:Told} (H:qaa T):q12q T Tryz.prog 93 (.loop (q3q 11 (q4q Tryz.f9) .skip)) ⟨qbu,qch,lp qav K0⟩ :=
 q7q H.ty (n9 H) hm (q1q (l:=[]) (by kernel_rfl) trivial) qk6 K0
theorem qlJ {T:Told} (H:qaa T):q12q T Tryz.prog 93 (.loop (q3q 7 (q4q Tryz.f9) .skip)) ⟨qbJ,qcz,lp qaA K0⟩ :=
 q7q H.ty (n9 H) hm (q1q (l:=[(.loop (q3q 11 (q4q Tryz.f9) .skip),⟨qbu,qch,lp qav K0⟩)]) (by kernel_rfl) ⟨qk5 H,trivial⟩) qlK K0
theorem ok9 {T:Told} (H:qaa T):qaf T Tryz.prog 9 c9 :=
 qap H.ty (n9 H) hm (lh:=qdz) (ct:=c9) (dcd:=fun y=>(y.2.1)) Tryz.func9 (by kernel_rfl) (by rfl) (q1q (l:=[(.loop (q3q 7 (q4q Tryz.f9) .skip),⟨qbJ,qcz,lp qaA K0⟩)]) (by kernel_rfl) ⟨qlJ H,trivial⟩) (by decide) (fun _=>rfl) (fun x r h=>(qlL x.1 x.2.1 x.2.2.1 x.2.2.2.1).trans h)
theorem n36 {T:Told} (H:qaa T):qai T Tryz.prog (envL e36):=q5q (l:=e36) trivial
theorem qoF {T:Told} (H:qaa T):q12q T Tryz.prog 13 (.loop (q3q 3 (q4q Tryz.f36) .skip)) ⟨qcT,qdT,lp qba K0⟩ :=
 q7q H.ty (n36 H) hm (q1q (l:=[]) (by kernel_rfl) trivial) qoG K0
theorem ok36 {T:Told} (H:qaa T):qaf T Tryz.prog 36 c36 :=
 qap H.ty (n36 H) hm (lh:=qgL) (ct:=c36) (dcd:=fun y=>(y.2.1)) Tryz.func36 (by kernel_rfl) (by rfl) (q1q (l:=[(.loop (q3q 3 (q4q Tryz.f36) .skip),⟨qcT,qdT,lp qba K0⟩)]) (by kernel_rfl) ⟨qoF H,trivial⟩) (by decide) (fun _=>rfl) (fun x r h=>(qoH x.1).trans h)
theorem n37 {T:Told} (H:qaa T):qai T Tryz.prog (envL e37):=q5q (l:=e37) trivial
theorem qpF {T:Told} (H:qaa T):q12q T Tryz.prog 16 (.loop (q3q 2 (q4q Tryz.f37) .skip)) ⟨qdh,qek,lp qbl K0⟩ :=
 q7q H.ty (n37 H) hm (q1q (l:=[]) (by kernel_rfl) trivial) qpG K0
theorem ok37 {T:Told} (H:qaa T):qaf T Tryz.prog 37 c37 :=
 qap H.ty (n37 H) hm (lh:=qhy) (ct:=c37) (dcd:=fun y=>(y.2.1)) Tryz.func37 (by kernel_rfl) (by rfl) (q1q (l:=[(.loop (q3q 2 (q4q Tryz.f37) .skip),⟨qdh,qek,lp qbl K0⟩)]) (by kernel_rfl) ⟨qpF H,trivial⟩) (by decide) (fun _=>rfl) (fun x r h=>(qpH x.1 x.2.1).trans h)
theorem n38 {T:Told} (H:qaa T):qai T Tryz.prog (envL e38):=q5q (l:=e38) ⟨ok20 H,ok35 H,ok54 H,trivial⟩
theorem ok38 {T:Told} (H:qaa T):qaf T Tryz.prog 38 c38 :=
 qhF H.ty (n38 H) hm (lh:=qjA) (ct:=c38) (wi:=w38) (dcd:=fun y=>(y.2.1,y.2.2.1,y.2.2.2.1,y.2.2.2.2.1,y.2.2.2.2.2.1,y.2.2.2.2.2.2.1)) Tryz.func38 (by kernel_rfl) (by rfl) (q1q (l:=[]) (by kernel_rfl) trivial) (fun _=>rfl) rfl (fun x r h=>(qok x.1 x.2.1 x.2.2.1 x.2.2.2.1 x.2.2.2.2.1 x.2.2.2.2.2.1).trans h)
theorem n10 {T:Told} (H:qaa T):qai T Tryz.prog (envL e10):=q5q (l:=e10) ⟨ok11 H,ok28 H,ok29 H,ok34 H,ok35 H,ok36 H,ok37 H,ok38 H,trivial⟩
theorem qnY {T:Told} (H:qaa T):q12q T Tryz.prog 89 (.loop (q3q 9 (q4q Tryz.f10) .skip)) ⟨qcJ,qdt,lp qaY K0⟩ :=
 q7q H.ty (n10 H) hm (q1q (l:=[]) (by kernel_rfl) trivial) qn0 K0
theorem qnZ {T:Told} (H:qaa T):q12q T Tryz.prog 89 (.loop (q3q 4 (q4q Tryz.f10) .skip)) ⟨qcK,qdu,lp qaL K0⟩ :=
 q7q H.ty (n10 H) hm (q1q (l:=[(.loop (q3q 9 (q4q Tryz.f10) .skip),⟨qcJ,qdt,lp qaY K0⟩)]) (by kernel_rfl) ⟨qnY H,trivial⟩) qn1 K0
theorem ok10 {T:Told} (H:qaa T):qaf T Tryz.prog 10 c10 :=
 qap H.ty (n10 H) hm (lh:=qew) (ct:=c10) (dcd:=fun y=>(y.2.1)) Tryz.func10 (by kernel_rfl) (by rfl) (q1q (l:=[(.loop (q3q 4 (q4q Tryz.f10) .skip),⟨qcK,qdu,lp qaL K0⟩)]) (by kernel_rfl) ⟨qnZ H,trivial⟩) (by decide) (fun _=>rfl) (fun x r h=>(qn2 x.1 x.2.1 x.2.2.1 x.2.2.2.1).trans h)
theorem n92 {T:Told} (H:qaa T):qai T Tryz.prog (envL e92):=q5q (l:=e92) trivial
theorem qm8 {T:Told} (H:qaa T):q12q T Tryz.prog 14 (.loop (q3q 2 (q4q Tryz.f92) .skip)) ⟨qcc,qc6,lp qa6 K0⟩ :=
 q7q H.ty (n92 H) hm (q1q (l:=[]) (by kernel_rfl) trivial) qm9 K0
theorem ok92 {T:Told} (H:qaa T):qaf T Tryz.prog 92 c92 :=
 qap H.ty (n92 H) hm (lh:=qfR) (ct:=c92) (dcd:=fun y=>(y.2.1)) Tryz.func92 (by kernel_rfl) (by rfl) (q1q (l:=[(.loop (q3q 2 (q4q Tryz.f92) .skip),⟨qcc,qc6,lp qa6 K0⟩)]) (by kernel_rfl) ⟨qm8 H,trivial⟩) (by decide) (fun _=>rfl) (fun x r h=>(qna x.1).trans h)
theorem n121 {T:Told} (H:qaa T):qai T Tryz.prog (envL e121):=q5q (l:=e121) trivial
theorem qF0 {T:Told} (H:qaa T):qaf T Tryz.prog 121 c121 :=
 qap H.ty (n121 H) hm (lh:=qiO) (ct:=c121) (dcd:=fun y=>(y.2.1)) Tryz.func121 (by kernel_rfl) (by rfl) (q1q (l:=[]) (by kernel_rfl) trivial) (by decide) (fun _=>rfl) (fun x r h=>(qm2 x.1 x.2.1).trans h)
theorem n96 {T:Told} (H:qaa T):qai T Tryz.prog (envL e96):=q5q (l:=e96) ⟨qF0 H,trivial⟩
theorem qnP {T:Told} (H:qaa T):q12q T Tryz.prog 41 (.loop (q3q 4 (q4q Tryz.f96) .skip)) ⟨qcG,qdq,lp qaK K0⟩ :=
 q7q H.ty (n96 H) hm (q1q (l:=[]) (by kernel_rfl) trivial) qnQ K0
theorem ok96 {T:Told} (H:qaa T):qaf T Tryz.prog 96 c96 :=
 qap H.ty (n96 H) hm (lh:=qgg) (ct:=c96) (dcd:=fun y=>(y.2.1)) Tryz.func96 (by kernel_rfl) (by rfl) (q1q (l:=[(.loop (q3q 4 (q4q Tryz.f96) .skip),⟨qcG,qdq,lp qaK K0⟩)]) (by kernel_rfl) ⟨qnP H,trivial⟩) (by decide) (fun _=>rfl) (fun x r h=>(qnR x.1 x.2.1).trans h)
theorem n122 {T:Told} (H:qaa T):qai T Tryz.prog (envL e122):=q5q (l:=e122) trivial
theorem qnM {T:Told} (H:qaa T):q12q T Tryz.prog 21 (.loop (q3q 2 (q4q Tryz.f122) .skip)) ⟨qcF,qdp,lp qaX K0⟩ :=
 q7q H.ty (n122 H) hm (q1q (l:=[]) (by kernel_rfl) trivial) qnN K0
theorem qEK {T:Told} (H:qaa T):qaf T Tryz.prog 122 c122 :=
 qap H.ty (n122 H) hm (lh:=qgf) (ct:=c122) (dcd:=fun y=>(y.2.1)) Tryz.func122 (by kernel_rfl) (by rfl) (q1q (l:=[(.loop (q3q 2 (q4q Tryz.f122) .skip),⟨qcF,qdp,lp qaX K0⟩)]) (by kernel_rfl) ⟨qnM H,trivial⟩) (by decide) (fun _=>rfl) (fun x r h=>(qnO x.1).trans h)
theorem n97 {T:Told} (H:qaa T):qai T Tryz.prog (envL e97):=q5q (l:=e97) ⟨qEK H,trivial⟩
theorem qm3 {T:Told} (H:qaa T):q12q T Tryz.prog 63 (.loop (q3q 7 (q4q Tryz.f97) .skip)) ⟨qca,qc4,lp qaO K0⟩ :=
 q7q H.ty (n97 H) hm (q1q (l:=[]) (by kernel_rfl) trivial) qm5 K0
theorem qm4 {T:Told} (H:qaa T):q12q T Tryz.prog 63 (.loop (q3q 3 (q4q Tryz.f97) .skip)) ⟨qcb,qc5,lp qa5 K0⟩ :=
 q7q H.ty (n97 H) hm (q1q (l:=[(.loop (q3q 7 (q4q Tryz.f97) .skip),⟨qca,qc4,lp qaO K0⟩)]) (by kernel_rfl) ⟨qm3 H,trivial⟩) qm6 K0
theorem ok97 {T:Told} (H:qaa T):qaf T Tryz.prog 97 c97 :=
 qap H.ty (n97 H) hm (lh:=qei) (ct:=c97) (dcd:=fun y=>(y.2.1)) Tryz.func97 (by kernel_rfl) (by rfl) (q1q (l:=[(.loop (q3q 3 (q4q Tryz.f97) .skip),⟨qcb,qc5,lp qa5 K0⟩)]) (by kernel_rfl) ⟨qm4 H,trivial⟩) (by decide) (fun _=>rfl) (fun x r h=>(qm7 x.1 x.2.1).trans h)
theorem n63 {T:Told} (H:qaa T):qai T Tryz.prog (envL e63):=q5q (l:=e63) ⟨ok92 H,ok96 H,ok97 H,trivial⟩
theorem qnV {T:Told} (H:qaa T):q12q T Tryz.prog 26 (.loop (q3q 4 (q4q Tryz.f63) .skip)) ⟨qcI,qds,lp qbh K0⟩ :=
 q7q H.ty (n63 H) hm (q1q (l:=[]) (by kernel_rfl) trivial) qnW K0
theorem ok63 {T:Told} (H:qaa T):qaf T Tryz.prog 63 c63 :=
 qap H.ty (n63 H) hm (lh:=qgh) (ct:=c63) (dcd:=fun y=>(y.2.1)) Tryz.func63 (by kernel_rfl) (by rfl) (q1q (l:=[(.loop (q3q 4 (q4q Tryz.f63) .skip),⟨qcI,qds,lp qbh K0⟩)]) (by kernel_rfl) ⟨qnV H,trivial⟩) (by decide) (fun _=>rfl) (fun x r h=>(qnX x.1).trans h)
theorem n99 {T:Told} (H:qaa T):qai T Tryz.prog (envL e99):=q5q (l:=e99) trivial
theorem ok99 {T:Told} (H:qaa T):qaf T Tryz.prog 99 c99 :=
 qap H.ty (n99 H) hm (lh:=qi5) (ct:=c99) (dcd:=fun y=>(y.2.1)) Tryz.func99 (by kernel_rfl) (by rfl) (q1q (l:=[]) (by kernel_rfl) trivial) (by decide) (fun _=>rfl) (fun x r h=>(qnK x.1 x.2.1).trans h)
theorem n98 {T:Told} (H:qaa T):qai T Tryz.prog (envL e98):=q5q (l:=e98) ⟨ok92 H,ok96 H,ok99 H,trivial⟩
theorem ok98 {T:Told} (H:qaa T):qaf T Tryz.prog 98 c98 :=
 qap H.ty (n98 H) hm (lh:=qiM) (ct:=c98) (dcd:=fun y=>(y.2.1)) Tryz.func98 (by kernel_rfl) (by rfl) (q1q (l:=[]) (by kernel_rfl) trivial) (by decide) (fun _=>rfl) (fun x r h=>(qm0 x.1).trans h)
theorem n64 {T:Told} (H:qaa T):qai T Tryz.prog (envL e64):=q5q (l:=e64) ⟨ok92 H,ok98 H,trivial⟩
theorem ok64 {T:Told} (H:qaa T):qaf T Tryz.prog 64 c64 :=
 qap H.ty (n64 H) hm (lh:=qiI) (ct:=c64) (dcd:=fun y=>(y.2.1)) Tryz.func64 (by kernel_rfl) (by rfl) (q1q (l:=[]) (by kernel_rfl) trivial) (by decide) (fun _=>rfl) (fun x r h=>(qmW x.1 x.2.1).trans h)
theorem n65 {T:Told} (H:qaa T):qai T Tryz.prog (envL e65):=q5q (l:=e65) ⟨ok63 H,ok99 H,trivial⟩
theorem ok65 {T:Told} (H:qaa T):qaf T Tryz.prog 65 c65 :=
 qap H.ty (n65 H) hm (lh:=qi6) (ct:=c65) (dcd:=fun y=>(y.2.1)) Tryz.func65 (by kernel_rfl) (by rfl) (q1q (l:=[]) (by kernel_rfl) trivial) (by decide) (fun _=>rfl) (fun x r h=>(qnL x.1).trans h)
theorem n41 {T:Told} (H:qaa T):qai T Tryz.prog (envL e41):=q5q (l:=e41) ⟨ok63 H,ok64 H,ok65 H,trivial⟩
theorem ok41 {T:Told} (H:qaa T):qaf T Tryz.prog 41 c41 :=
 qap H.ty (n41 H) hm (lh:=qi4) (ct:=c41) (dcd:=fun y=>(y.2.1)) Tryz.func41 (by kernel_rfl) (by rfl) (q1q (l:=[]) (by kernel_rfl) trivial) (by decide) (fun _=>rfl) (fun x r h=>(qnJ x.1).trans h)
theorem n89 {T:Told} (H:qaa T):qai T Tryz.prog (envL e89):=q5q (l:=e89) trivial
theorem qnb {T:Told} (H:qaa T):q12q T Tryz.prog 27 (.loop (q3q 2 (q4q Tryz.f89) .skip)) ⟨qcd,qc7,lp qaP K0⟩ :=
 q7q H.ty (n89 H) hm (q1q (l:=[]) (by kernel_rfl) trivial) qnc K0
theorem ok89 {T:Told} (H:qaa T):qaf T Tryz.prog 89 c89 :=
 qap H.ty (n89 H) hm (lh:=qfS) (ct:=c89) (dcd:=fun y=>(y.2.1)) Tryz.func89 (by kernel_rfl) (by rfl) (q1q (l:=[(.loop (q3q 2 (q4q Tryz.f89) .skip),⟨qcd,qc7,lp qaP K0⟩)]) (by kernel_rfl) ⟨qnb H,trivial⟩) (by decide) (fun _=>rfl) (fun x r h=>(qnd x.1).trans h)
theorem n91 {T:Told} (H:qaa T):qai T Tryz.prog (envL e91):=q5q (l:=e91) trivial
theorem qng {T:Told} (H:qaa T):q12q T Tryz.prog 41 (.loop (q3q 6 (q4q Tryz.f91) .skip)) ⟨qcf,qc9,lp qaD K0⟩ :=
 q7q H.ty (n91 H) hm (q1q (l:=[]) (by kernel_rfl) trivial) qnh K0
theorem ok91 {T:Told} (H:qaa T):qaf T Tryz.prog 91 c91 :=
 qap H.ty (n91 H) hm (lh:=qfT) (ct:=c91) (dcd:=fun y=>(y.2.1)) Tryz.func91 (by kernel_rfl) (by rfl) (q1q (l:=[(.loop (q3q 6 (q4q Tryz.f91) .skip),⟨qcf,qc9,lp qaD K0⟩)]) (by kernel_rfl) ⟨qng H,trivial⟩) (by decide) (fun _=>rfl) (fun x r h=>(qni x.1 x.2.1).trans h)
theorem n136 {T:Told} (H:qaa T):qai T Tryz.prog (envL e136):=q5q (l:=e136) ⟨qF0 H,qEK H,trivial⟩
theorem qnj {T:Told} (H:qaa T):q12q T Tryz.prog 35 (.loop (q3q 4 (q4q Tryz.f136) .skip)) ⟨qcg,qda,lp qaQ K0⟩ :=
 q7q H.ty (n136 H) hm (q1q (l:=[]) (by kernel_rfl) trivial) qnk K0
theorem qGA {T:Told} (H:qaa T):qaf T Tryz.prog 136 c136 :=
 qap H.ty (n136 H) hm (lh:=qfU) (ct:=c136) (dcd:=fun y=>(y.2.1)) Tryz.func136 (by kernel_rfl) (by rfl) (q1q (l:=[(.loop (q3q 4 (q4q Tryz.f136) .skip),⟨qcg,qda,lp qaQ K0⟩)]) (by kernel_rfl) ⟨qnj H,trivial⟩) (by decide) (fun _=>rfl) (fun x r h=>(qnl x.1 x.2.1).trans h)
theorem n120 {T:Told} (H:qaa T):qai T Tryz.prog (envL e120):=q5q (l:=e120) ⟨ok91 H,ok92 H,ok97 H,qEK H,qGA H,trivial⟩
theorem qne {T:Told} (H:qaa T):q12q T Tryz.prog 65 (.loop (q3q 12 (q4q Tryz.f120) .skip)) ⟨qce,qc8,lp qaC K0⟩ :=
 q7q H.ty (n120 H) hm (q1q (l:=[]) (by kernel_rfl) trivial) qnf K0
theorem qnS {T:Told} (H:qaa T):q12q T Tryz.prog 65 (.loop (q3q 4 (q4q Tryz.f120) .skip)) ⟨qcH,qdr,lp qbg K0⟩ :=
 q7q H.ty (n120 H) hm (q1q (l:=[(.loop (q3q 12 (q4q Tryz.f120) .skip),⟨qce,qc8,lp qaC K0⟩)]) (by kernel_rfl) ⟨qne H,trivial⟩) qnT K0
theorem qGI {T:Told} (H:qaa T):qaf T Tryz.prog 120 c120 :=
 qap H.ty (n120 H) hm (lh:=qev) (ct:=c120) (dcd:=fun y=>(y.2.1,y.2.2.1)) Tryz.func120 (by kernel_rfl) (by rfl) (q1q (l:=[(.loop (q3q 4 (q4q Tryz.f120) .skip),⟨qcH,qdr,lp qbg K0⟩)]) (by kernel_rfl) ⟨qnS H,trivial⟩) (by decide) (fun _=>rfl) (fun x r h=>(qnU x.1 x.2.1).trans h)
theorem n90 {T:Told} (H:qaa T):qai T Tryz.prog (envL e90):=q5q (l:=e90) ⟨qGI H,trivial⟩
theorem qoC {T:Told} (H:qaa T):q12q T Tryz.prog 19 (.loop (q3q 1 (q4q Tryz.f90) .skip)) ⟨qcS,qdS,lp qbz K0⟩ :=
 q7q H.ty (n90 H) hm (q1q (l:=[]) (by kernel_rfl) trivial) qoD K0
theorem ok90 {T:Told} (H:qaa T):qaf T Tryz.prog 90 c90 :=
 qap H.ty (n90 H) hm (lh:=qgK) (ct:=c90) (dcd:=fun y=>(y.2.1)) Tryz.func90 (by kernel_rfl) (by rfl) (q1q (l:=[(.loop (q3q 1 (q4q Tryz.f90) .skip),⟨qcS,qdS,lp qbz K0⟩)]) (by kernel_rfl) ⟨qoC H,trivial⟩) (by decide) (fun _=>rfl) (fun x r h=>(qoE x.1 x.2.1).trans h)
theorem n61 {T:Told} (H:qaa T):qai T Tryz.prog (envL e61):=q5q (l:=e61) ⟨ok63 H,ok89 H,ok90 H,ok91 H,ok92 H,trivial⟩
theorem ok61 {T:Told} (H:qaa T):qaf T Tryz.prog 61 c61 :=
 qap H.ty (n61 H) hm (lh:=qiJ) (ct:=c61) (dcd:=fun y=>(y.2.1)) Tryz.func61 (by kernel_rfl) (by rfl) (q1q (l:=[]) (by kernel_rfl) trivial) (by decide) (fun _=>rfl) (fun x r h=>(qmX x.1).trans h)
theorem n93 {T:Told} (H:qaa T):qai T Tryz.prog (envL e93):=q5q (l:=e93) ⟨ok91 H,trivial⟩
theorem ok93 {T:Told} (H:qaa T):qaf T Tryz.prog 93 c93 :=
 qap H.ty (n93 H) hm (lh:=qiN) (ct:=c93) (dcd:=fun y=>(y.2.1)) Tryz.func93 (by kernel_rfl) (by rfl) (q1q (l:=[]) (by kernel_rfl) trivial) (by decide) (fun _=>rfl) (fun x r h=>(qm1 x.1 x.2.1).trans h)
theorem n94 {T:Told} (H:qaa T):qai T Tryz.prog (envL e94):=q5q (l:=e94) ⟨ok97 H,ok99 H,trivial⟩
theorem ok94 {T:Told} (H:qaa T):qaf T Tryz.prog 94 c94 :=
 qap H.ty (n94 H) hm (lh:=qiL) (ct:=c94) (dcd:=fun y=>(y.2.1)) Tryz.func94 (by kernel_rfl) (by rfl) (q1q (l:=[]) (by kernel_rfl) trivial) (by decide) (fun _=>rfl) (fun x r h=>(qmZ x.1 x.2.1).trans h)
theorem n95 {T:Told} (H:qaa T):qai T Tryz.prog (envL e95):=q5q (l:=e95) ⟨ok99 H,trivial⟩
theorem ok95 {T:Told} (H:qaa T):qaf T Tryz.prog 95 c95 :=
 qap H.ty (n95 H) hm (lh:=qj3) (ct:=c95) (dcd:=fun y=>(y.2.1)) Tryz.func95 (by kernel_rfl) (by rfl) (q1q (l:=[]) (by kernel_rfl) trivial) (by decide) (fun _=>rfl) (fun x r h=>(qoB x.1).trans h)
theorem n62 {T:Told} (H:qaa T):qai T Tryz.prog (envL e62):=q5q (l:=e62) ⟨ok93 H,ok94 H,ok95 H,trivial⟩
theorem ok62 {T:Told} (H:qaa T):qaf T Tryz.prog 62 c62 :=
 qap H.ty (n62 H) hm (lh:=qiK) (ct:=c62) (dcd:=fun y=>(y.2.1)) Tryz.func62 (by kernel_rfl) (by rfl) (q1q (l:=[]) (by kernel_rfl) trivial) (by decide) (fun _=>rfl) (fun x r h=>(qmY x.1 x.2.1).trans h)
theorem n40 {T:Told} (H:qaa T):qai T Tryz.prog (envL e40):=q5q (l:=e40) ⟨ok41 H,ok61 H,ok62 H,trivial⟩
theorem ok40 {T:Told} (H:qaa T):qaf T Tryz.prog 40 c40 :=
 qap H.ty (n40 H) hm (lh:=qkc) (ct:=c40) (dcd:=fun y=>(y.2.1)) Tryz.func40 (by kernel_rfl) (by rfl) (q1q (l:=[]) (by kernel_rfl) trivial) (by decide) (fun _=>rfl) (fun x r h=>(qpE x.1 x.2.1).trans h)
theorem n12 {T:Told} (H:qaa T):qai T Tryz.prog (envL e12):=q5q (l:=e12) ⟨ok40 H,ok41 H,trivial⟩
theorem ok12 {T:Told} (H:qaa T):qaf T Tryz.prog 12 c12 :=
 qap H.ty (n12 H) hm (lh:=qkb) (ct:=c12) (dcd:=fun y=>(y.2.1)) Tryz.func12 (by kernel_rfl) (by rfl) (q1q (l:=[]) (by kernel_rfl) trivial) (by decide) (fun _=>rfl) (fun x r h=>(qpD x.1 x.2.1).trans h)
theorem n3 {T:Told} (H:qaa T):qai T Tryz.prog (envL e3):=q5q (l:=e3) ⟨ok4 H,ok5 H,ok6 H,ok7 H,ok8 H,ok9 H,ok10 H,ok11 H,ok12 H,trivial⟩
theorem qia {T:Told} (H:qaa T):q12q T Tryz.prog 128 (.loop (q3q 20 (q4q Tryz.f3) .skip)) ⟨qaE,qa0,lp qag K0⟩ :=
 q7q H.ty (n3 H) hm (q1q (l:=[]) (by kernel_rfl) trivial) qic K0
theorem qib {T:Told} (H:qaa T):q12q T Tryz.prog 128 (.loop (q3q 14 (q4q Tryz.f3) .skip)) ⟨qaF,qa1,lp qah K0⟩ :=
 q7q H.ty (n3 H) hm (q1q (l:=[(.loop (q3q 20 (q4q Tryz.f3) .skip),⟨qaE,qa0,lp qag K0⟩)]) (by kernel_rfl) ⟨qia H,trivial⟩) qid K0
theorem ok3 {T:Told} (H:qaa T):qaf T Tryz.prog 3 c3 :=
 qap H.ty (n3 H) hm (lh:=qbQ) (ct:=c3) (dcd:=fun y=>(y.2.1)) Tryz.func3 (by kernel_rfl) (by rfl) (q1q (l:=[(.loop (q3q 14 (q4q Tryz.f3) .skip),⟨qaF,qa1,lp qah K0⟩)]) (by kernel_rfl) ⟨qib H,trivial⟩) (by decide) (fun _=>rfl) (fun x r h=>(qiP x.1 x.2.1).trans h)
end Go.Proofs.YtiefddjokkihdaaGreatDoor.X
