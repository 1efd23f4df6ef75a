/- Own work: part of the proof; the first line of each part says what it tells. -/
import Derived.Test.YtiefddjokkihdaaGreatDoorLa5
import Derived.Test.YtiefddjokkihdaaGreatDoorProg
open Nat renaming ble->j9,beq->jb
open List renaming replicate->ja


namespace Go.Proofs.YtiefddjokkihdaaGreatDoor.X
open Go
set_option linter.unusedVariables false
set_option linter.unusedSimpArgs false
set_option maxRecDepth 100000
def tb:Tb:=[(2,.sc (.int .i64)),(3,.sc (.int .i64)),(4,.sc .bool),(5,.sc (.int .u8)),(6,.sc (.int .u8)),(7,.stc (.pair (.int .i64) (.pair (.int .i64) (.pair .bool (.int .u8)))) [(0,2),(1,3),(2,4),(3,6)] false),(21,.sc (.int .i32)),(22,.slc 55 (.sl qbv) 24),(24,.stc qfB [(0,3),(1,22)] false),(25,.slc 59 qay 64),(28,.sc (.int .i64)),(31,.slc 34 (.sl tRAT) 24),(34,.slc 43 tRAT 56),(39,.slc 66 (.int .u64) 8),(41,.stc tWH [(0,4),(1,39)] false),(43,.stc tRAT [(0,41),(2,39)] false),(53,.stc qbv [(0,4),(1,3),(2,43),(5,3),(6,3),(7,4),(8,43),(11,43)] false),(55,.slc 53 qbv 208),(59,.stc qay [(0,4),(1,43)] false),(62,.slc 4 .bool 1),(66,.sc (.int .u64)),(68,.pt 108 (.pair (.pair .unit (.pair (.pair .unit (.int .u32)) (.pair .unit (.pair (.int .i32) (.int .u32))))) (.sl tWH))),(76,.slc 3 (.int .i64) 8),(77,.slc 3 (.int .i64) 8),(79,.stc (.pair .bool (.sl (.int .i64))) [(0,4),(1,77)] false),(81,.stc (.pair (.pair .bool (.sl (.int .i64))) (.sl (.int .i64))) [(0,79),(2,77)] false),(84,.stc (.pair (.int .i64) (.pair (.int .i64) (.pair (.int .i64) (.int .i64)))) [(0,28),(1,3),(2,3),(3,3)] true),(95,.stc .unit [] false),(96,.stc .unit [] false),(97,.sc (.int .u32)),(99,.stc (.pair .unit (.int .u32)) [(0,96),(0,97)] false),(101,.stc (.pair (.int .i32) (.int .u32)) [(0,21),(1,97)] true),(103,.stc (.pair .unit (.pair (.int .i32) (.int .u32))) [(0,95),(0,101)] false),(105,.stc (.pair .unit (.pair (.pair .unit (.int .u32)) (.pair .unit (.pair (.int .i32) (.int .u32))))) [(0,95),(0,99),(1,103)] false),(106,.slc 41 tWH 32),(108,.stc (.pair (.pair .unit (.pair (.pair .unit (.int .u32)) (.pair .unit (.pair (.int .i32) (.int .u32))))) (.sl tWH)) [(0,105),(3,106)] false),(126,.sc (.int .u64)),(130,.pt 133 (.pair (.sl qbv) (.pair (.sl qay) (.pair (.int .i64) (.pair .bool (.pair (.sl tRAT) (.sl (.pair (.int .i64) (.pair (.op (.pair (.os (.pair (.int .i64) (.pair tRAT qay))) .unit)) (.pair tRAT qmc)))))))))),(131,.slc 155 (.pair (.int .i64) (.pair (.op (.pair (.os (.pair (.int .i64) (.pair tRAT qay))) .unit)) (.pair tRAT qmc))) 144),(133,.stc (.pair (.sl qbv) (.pair (.sl qay) (.pair (.int .i64) (.pair .bool (.pair (.sl tRAT) (.sl (.pair (.int .i64) (.pair (.op (.pair (.os (.pair (.int .i64) (.pair tRAT qay))) .unit)) (.pair tRAT qmc))))))))) [(0,55),(1,25),(2,3),(3,4),(4,34),(5,131)] false),(152,.pt 177 (.pair (.os (.pair (.int .i64) (.pair tRAT qay))) .unit)),(155,.stc (.pair (.int .i64) (.pair (.op (.pair (.os (.pair (.int .i64) (.pair tRAT qay))) .unit)) (.pair tRAT qmc))) [(0,3),(1,152),(2,43),(5,3),(6,43),(9,4)] false),(157,.arr 4 .bool),(174,.stc (.pair (.int .i64) (.pair tRAT qay)) [(0,3),(1,43),(4,4),(5,43)] false),(175,.slc 174 (.pair (.int .i64) (.pair tRAT qay)) 128),(177,.stc (.pair (.sl (.pair (.int .i64) (.pair tRAT qay))) .unit) [(0,175)] false),(178,.pt 155 (.pair (.int .i64) (.pair (.op (.pair (.os (.pair (.int .i64) (.pair tRAT qay))) .unit)) (.pair tRAT qmc)))),(180,.stc qmc [(0,3),(1,43),(4,4)] false),(181,.slc 180 qmc 72)]
def tbO:Tb:=[(3,.sc (.int .i64)),(4,.sc .bool),(22,.slc 55 (.os qbv) 24),(24,.stc (.pair (.int .i64) (.sl (.os qbv))) [(0,3),(1,22)] false),(25,.slc 59 qay 64),(28,.sc (.int .i64)),(31,.slc 34 (.os tRAT) 24),(34,.slc 43 tRAT 56),(39,.slc 66 (.int .u64) 8),(41,.stc tWH [(0,4),(1,39)] false),(43,.stc tRAT [(0,41),(2,39)] false),(53,.stc qbv [(0,4),(1,3),(2,43),(5,3),(6,3),(7,4),(8,43),(11,43)] false),(55,.slc 53 qbv 208),(59,.stc qay [(0,4),(1,43)] false),(62,.slc 4 .bool 1),(66,.sc (.int .u64))]
def qbZ (a_0:RAT):Option RAT :=
 bif (decide ((a_0.1.2.length:Int)>4)) then (bif decide ((4:Int)<=(a_0.1.2.length:Int)) then bif (decide ((a_0.2.length:Int)>4)) then (bif decide ((4:Int)<=(a_0.2.length:Int)) then some ((a_0.1.1,(a_0.1.2.take 4)),(a_0.2.take 4)) else none) else (some ((a_0.1.1,(a_0.1.2.take 4)),a_0.2)) else none) else (bif (decide ((a_0.2.length:Int)>4)) then (bif decide ((4:Int)<=(a_0.2.length:Int)) then some (a_0.1,(a_0.2.take 4)) else none) else (some a_0))
def c42:Ctr:=⟨[(tRAT,.imm)],[(tRAT,false)],RAT,fun x=>qbZ x.1,fun r=>((),(r,())),none⟩
abbrev qcW:SG:=⟨[(1,.p 8 0 0),(2,.p 16 0 0),(3,.p 24 0 0),(4,.v (.int .i64)),(5,.o qbv 47),(6,.v (.int .i64))],[(8,[.v (.int .i64),.v (.sl (.sl qbv))]),(16,[.v (.int .i64),.o (.sl qbv) 18]),(24,[.v (.int .i64),.o (.sl qbv) 26])],[],[]⟩
abbrev qdZ:List (Ex×SG):=[(.exit 2,⟨[(1,.p 8 0 0),(2,.p 16 0 0),(3,.p 24 0 0),(4,.v (.int .i64)),(5,.o qbv 47)],[(8,[.v (.int .i64),.v (.sl (.sl qbv))]),(16,[.v (.int .i64),.o (.sl qbv) 18]),(24,[.v (.int .i64),.o (.sl qbv) 26])],[],[]⟩)]
abbrev qiS:=((Int×(List NODE)×Int×Unit)×((Int×(List (List NODE))×Unit)×(Int×(List (List NODE))×Unit)×(Int×(List (List NODE))×Unit)×Unit))
abbrev qiR:=((Int×(List NODE)×Unit)×((Int×(List (List NODE))×Unit)×(Int×(List (List NODE))×Unit)×(Int×(List (List NODE))×Unit)×Unit))
def qaS (g:qiS->Option qiR):qiS->Option qiR
 | ((v_4,v_5,v_6,_),((b8_0,b8_1,_),(b16_0,b16_1,_),(b24_0,b24_1,_),_))=>bif decide (0<=v_4) then (b8_1[v_4.toNat]?).bind fun x1=>bif (decide (v_6<(x1.length:Int))) then (bif (decide (v_6<15)) then (bif decide (0<=v_4) then (b8_1[v_4.toNat]?).bind fun x2=>bif decide (0<=v_6) then (x2[v_6.toNat]?).bind fun x3=>(qbZ x3.2.2.1).bind fun r4=>(qbZ x3.2.2.2.2.2.2.1).bind fun r5=>(qbZ x3.2.2.2.2.2.2.2).bind fun r6=>bif j9 ((v_5.length+1)*208) 140737488355328&&!false then g ((v_4,(v_5++([(x3.1,(x3.2.1,(r4,(x3.2.2.2.1,(x3.2.2.2.2.1,(x3.2.2.2.2.2.1,(r5,r6)))))))]:List NODE)),(iadd .i64 v_6 1),()),((b8_0,b8_1,()),(b16_0,b16_1,()),(b24_0,b24_1,()),())) else none else none else none) else (some ((v_4,v_5,()),((b8_0,b8_1,()),(b16_0,b16_1,()),(b24_0,b24_1,()),())))) else (some ((v_4,v_5,()),((b8_0,b8_1,()),(b16_0,b16_1,()),(b24_0,b24_1,()),()))) else none
abbrev qcX:SG:=⟨[(1,.p 8 0 0),(2,.p 16 0 0),(3,.p 24 0 0),(4,.v (.int .i64))],[(8,[.v (.int .i64),.v (.sl (.sl qbv))]),(16,[.v (.int .i64),.o (.sl qbv) 18]),(24,[.v (.int .i64),.o (.sl qbv) 26])],[],[]⟩
abbrev qd0:List (Ex×SG):=[(.exit 0,⟨[(2,.p 16 0 0),(3,.p 24 0 0)],[(16,[.v (.int .i64),.o (.sl qbv) 18]),(24,[.v (.int .i64),.o (.sl qbv) 26])],[],[]⟩)]
abbrev qiU:=((Int×Unit)×((Int×(List (List NODE))×Unit)×(Int×(List (List NODE))×Unit)×(Int×(List (List NODE))×Unit)×Unit))
abbrev qiT:=(Unit×((Int×(List (List NODE))×Unit)×(Int×(List (List NODE))×Unit)×Unit))
def qaT (g:qiU->Option qiT):qiU->Option qiT
 | ((v_4,_),((b8_0,b8_1,_),(b16_0,b16_1,_),(b24_0,b24_1,_),_))=>bif (decide (v_4<(b8_1.length:Int))) then (bif (decide (v_4<6)) then ((lp qaS K0 ((v_4,[],0,()),((b8_0,b8_1,()),(b16_0,b16_1,()),(b24_0,b24_1,()),()))).bind fun t7=>bif j9 ((t7.2.2.2.1.2.1.length+1)*24) 140737488355328&&!false then g (((iadd .i64 t7.1.1 1),()),((t7.2.1.1,t7.2.1.2.1,()),(t7.2.2.1.1,t7.2.2.1.2.1,()),(t7.2.2.2.1.1,(t7.2.2.2.1.2.1++([t7.1.2.1]:List (List NODE))),()),())) else none) else (some ((()),((b16_0,b16_1,()),(b24_0,b24_1,()),())))) else (some ((()),((b16_0,b16_1,()),(b24_0,b24_1,()),())))
def qfc (a_0:qas):Option qas :=
 (lp qaT K0 ((0,()),((a_0.1,a_0.2,()),(0,[],()),(a_0.1,[],()),()))).bind fun t8=>some (t8.2.2.1.1,t8.2.2.1.2.1)
def c13:Ctr:=⟨[(qfB,.imm)],[(qfB,false)],qas,fun x=>qfc x.1,fun r=>((),(r,())),none⟩
def qdX (a_0:RAT):Option RAT :=
 bif (decide ((a_0.1.2.length:Int)>3)) then (bif decide ((3:Int)<=(a_0.1.2.length:Int)) then bif (decide ((a_0.2.length:Int)>3)) then (bif decide ((3:Int)<=(a_0.2.length:Int)) then some ((a_0.1.1,(a_0.1.2.take 3)),(a_0.2.take 3)) else none) else (some ((a_0.1.1,(a_0.1.2.take 3)),a_0.2)) else none) else (bif (decide ((a_0.2.length:Int)>3)) then (bif decide ((3:Int)<=(a_0.2.length:Int)) then some (a_0.1,(a_0.2.take 3)) else none) else (some a_0))
def c43:Ctr:=⟨[(tRAT,.imm)],[(tRAT,false)],RAT,fun x=>qdX x.1,fun r=>((),(r,())),none⟩
abbrev qcV:SG:=⟨[(0,.v (.sl qay)),(1,.v (.int .i64)),(5,.o qay 47),(6,.v (.int .i64))],[],[],[]⟩
abbrev qdY:List (Ex×SG):=[(.exit 0,⟨[(5,.o qay 47)],[],[],[]⟩)]
def qbc (g:(((List CELL)×Int×(List CELL)×Int×Unit)×Unit)->Option (((List CELL)×Unit)×Unit)):(((List CELL)×Int×(List CELL)×Int×Unit)×Unit)->Option (((List CELL)×Unit)×Unit)
 | ((l_0,n_1,out_5,i_6,_),_)=>bif (decide (i_6<(l_0.length:Int))) then (bif (decide (i_6<n_1)) then (bif decide (0<=i_6) then (l_0[i_6.toNat]?).bind fun x1=>(qdX x1.2).bind fun r2=>bif j9 ((out_5.length+1)*64) 140737488355328&&!false then g ((l_0,n_1,(out_5++([(x1.1,r2)]:List CELL)),(iadd .i64 i_6 1),()),()) else none else none) else (some ((out_5,()),()))) else (some ((out_5,()),()))
def qdm (l_0:List CELL) (n_1:Int):Option (List CELL) :=
 (lp qbc K0 ((l_0,n_1,[],0,()),())).bind fun t3=>some t3.1.1
def c14:Ctr:=⟨[((.sl qay),.imm),((.int .i64),.imm)],[((.sl qay),true)],(List CELL),fun x=>qdm x.1 x.2.1,fun r=>((),(r,())),none⟩
def qdj (m_0:qas) (row_1:List CELL):Option (qas×(List CELL)) :=
 (qfc m_0).bind fun r1=>bif (decide ((r1.2.length:Int)>3)) then (bif decide ((3:Int)<=(r1.2.length:Int)) then (qdm row_1 70).bind fun r2=>some ((r1.1,(r1.2.take 3)),r2) else none) else ((qdm row_1 70).bind fun r3=>some (r1,r3))
def c4:Ctr:=⟨[(qfB,.imm),((.sl qay),.imm)],[(qfB,false),((.sl qay),true)],qas×(List CELL),fun x=>qdj x.1 x.2.1,fun r=>((),(r.1,r.2,())),none⟩
abbrev qf4:SG:=⟨[(22,.v (.sl (.sl qbv))),(23,.v (.int .i64)),(24,.v (.int .i64)),(36,.v (.sl qbv)),(37,.v (.int .i64)),(38,.v (.int .i64))],[],[],[]⟩
abbrev qhi:List (Ex×SG):=[(.exit 2,⟨[(22,.v (.sl (.sl qbv))),(23,.v (.int .i64)),(24,.v (.int .i64))],[],[],[]⟩),(.ret,⟨[(2,.v .bool)],[],[],[]⟩)]
abbrev qmH:=(((List (List NODE))×Int×Int×(List NODE)×Int×Int×Unit)×Unit)
abbrev qmG:=((((List (List NODE))×Int×Int×Unit)×Unit) ⊕ ((Bool×Unit)×Unit))
def qcv (g:qmH->Option qmG):qmH->Option qmG
 | ((v_22,v_23,v_24,v_36,v_37,v_38,_),_)=>bif (decide (v_38<v_37)) then (bif decide (0<=v_38) then (v_36[v_38.toNat]?).bind fun x2=>bif (decide (x2.2.1<0)) then (some (.inr ((false,()),()))) else (bif (decide (x2.2.1>64)) then (some (.inr ((false,()),()))) else (bif (decide (x2.2.2.2.1<0)) then (some (.inr ((false,()),()))) else (bif (decide (x2.2.2.2.1>255)) then (some (.inr ((false,()),()))) else (bif (decide (x2.2.2.2.2.1<0)) then (some (.inr ((false,()),()))) else (bif (decide (x2.2.2.2.2.1>255)) then (some (.inr ((false,()),()))) else (g ((v_22,v_23,v_24,v_36,v_37,(iadd .i64 v_38 1),()),()))))))) else none) else (some (.inl ((v_22,v_23,v_24,()),())))
abbrev qf5:SG:=⟨[(22,.v (.sl (.sl qbv))),(23,.v (.int .i64)),(24,.v (.int .i64))],[],[],[]⟩
abbrev qhj:List (Ex×SG):=[(.exit 0,⟨[],[],[],[]⟩),(.ret,⟨[(2,.v .bool)],[],[],[]⟩)]
def qbG (g:(((List (List NODE))×Int×Int×Unit)×Unit)->Option ((Unit×Unit) ⊕ ((Bool×Unit)×Unit))):(((List (List NODE))×Int×Int×Unit)×Unit)->Option ((Unit×Unit) ⊕ ((Bool×Unit)×Unit))
 | ((v_22,v_23,v_24,_),_)=>bif (decide (v_24<v_23)) then (bif decide (0<=v_24) then (v_22[v_24.toNat]?).bind fun x1=>bif (decide ((x1.length:Int)<1)) then (some (.inr ((false,()),()))) else (bif (decide ((x1.length:Int)>255)) then (some (.inr ((false,()),()))) else ((lp qcv K0 ((v_22,v_23,v_24,x1,(x1.length:Int),0,()),())).bind fun t3=>(match t3 with | .inl t4=>g ((t4.1.1,t4.1.2.1,(iadd .i64 t4.1.2.2.1 1),()),()) | .inr t5=>some (.inr ((t5.1.1,()),()))))) else none) else (some (.inl ((()),())))
def qkY (a_0:qas):Option Bool :=
 bif (decide (a_0.1<0)) then (some false) else (bif (decide (a_0.1>64)) then (some false) else (bif (decide ((a_0.2.length:Int)>64)) then (some false) else ((lp qbG K0 ((a_0.2,(a_0.2.length:Int),0,()),())).bind fun t6=>(match t6 with | .inl t7=>some true | .inr t8=>some t8.1.1))))
def c66:Ctr:=⟨[(qfB,.imm)],[(.bool,false)],Bool,fun x=>qkY x.1,fun r=>((),(r,())),none⟩
abbrev qeE:SG:=⟨[(0,.v (.sl qbv)),(1,.v (.int .i64)),(8,.v (.sl qbv)),(9,.v (.int .i64)),(10,.v (.int .i64))],[],[],[]⟩
abbrev qfz:List (Ex×SG):=[(.exit 0,⟨[],[],[],[]⟩),(.ret,⟨[(4,.v (.int .i64)),(5,.v (.int .i64))],[],[],[]⟩)]
abbrev qkq:=(((List NODE)×Int×(List NODE)×Int×Int×Unit)×Unit)
abbrev qkp:=((Unit×Unit) ⊕ ((Int×Int×Unit)×Unit))
def qbx (g:qkq->Option qkp):qkq->Option qkp
 | ((t_0,features_1,v_8,v_9,v_10,_),_)=>bif (decide (v_10<v_9)) then (bif decide (0<=v_10) then (v_8[v_10.toNat]?).bind fun x1=>bif x1.1 then (g ((t_0,features_1,v_8,v_9,(iadd .i64 v_10 1),()),())) else (bif (decide (x1.2.1<0)) then (some (.inr ((v_10,8,()),()))) else (bif (decide (x1.2.1>=features_1)) then (some (.inr ((v_10,8,()),()))) else (bif (decide (x1.2.2.2.1<1)) then (some (.inr ((v_10,8,()),()))) else (bif (decide (x1.2.2.2.1>=(t_0.length:Int))) then (some (.inr ((v_10,8,()),()))) else (bif (decide (x1.2.2.2.2.1<1)) then (some (.inr ((v_10,8,()),()))) else (bif (decide (x1.2.2.2.2.1>=(t_0.length:Int))) then (some (.inr ((v_10,8,()),()))) else (g ((t_0,features_1,v_8,v_9,(iadd .i64 v_10 1),()),())))))))) else none) else (some (.inl ((()),())))
def qgP (t_0:List NODE) (features_1:Int):Option (Int×Int) :=
 (lp qbx K0 ((t_0,features_1,t_0,(t_0.length:Int),0,()),())).bind fun t2=>(match t2 with | .inl t3=>some (0,0) | .inr t4=>some (t4.1.1,t4.1.2.1))
def c67:Ctr:=⟨[((.sl qbv),.imm),((.int .i64),.imm)],[((.int .i64),false),((.int .i64),false)],Int×Int,fun x=>qgP x.1 x.2.1,fun r=>((),(r.1,r.2,())),none⟩
abbrev qfg:SG:=⟨[(0,.v (.sl qbv)),(4,.o (.int .i64) 39),(18,.v (.sl qbv)),(19,.v (.int .i64)),(20,.v (.int .i64))],[],[],[]⟩
abbrev qgj:List (Ex×SG):=[(.exit 0,⟨[(0,.v (.sl qbv)),(4,.o (.int .i64) 39)],[],[],[]⟩)]
abbrev qlQ:=(((List NODE)×(List Int)×(List NODE)×Int×Int×Unit)×Unit)
abbrev qlP:=(((List NODE)×(List Int)×Unit)×Unit)
def qcj (g:qlQ->Option qlP):qlQ->Option qlP
 | ((v_0,v_4,v_18,v_19,v_20,_),_)=>bif (decide (v_20<v_19)) then (bif decide (0<=v_20) then (v_18[v_20.toNat]?).bind fun x1=>bif (!x1.1) then (bif decide (0<=x1.2.2.2.1)&&decide (x1.2.2.2.1<(v_4.length:Int)) then (v_4[x1.2.2.2.1.toNat]?).bind fun x2=>bif decide (0<=x1.2.2.2.1)&&decide (x1.2.2.2.1<(v_4.length:Int)) then (v_4[x1.2.2.2.1.toNat]?).bind fun _=>bif decide (0<=x1.2.2.2.2.1)&&decide (x1.2.2.2.2.1<((v_4.set x1.2.2.2.1.toNat (iadd .i64 x2 1)).length:Int)) then ((v_4.set x1.2.2.2.1.toNat (iadd .i64 x2 1))[x1.2.2.2.2.1.toNat]?).bind fun x4=>bif decide (0<=x1.2.2.2.2.1)&&decide (x1.2.2.2.2.1<((v_4.set x1.2.2.2.1.toNat (iadd .i64 x2 1)).length:Int)) then ((v_4.set x1.2.2.2.1.toNat (iadd .i64 x2 1))[x1.2.2.2.2.1.toNat]?).bind fun _=>g ((v_0,((v_4.set x1.2.2.2.1.toNat (iadd .i64 x2 1)).set x1.2.2.2.2.1.toNat (iadd .i64 x4 1)),v_18,v_19,(iadd .i64 v_20 1),()),()) else none else none else none else none) else (g ((v_0,v_4,v_18,v_19,(iadd .i64 v_20 1),()),())) else none) else (some ((v_0,v_4,()),()))
abbrev qeD:SG:=⟨[(0,.v (.sl qbv)),(42,.o (.int .i64) 343),(43,.v (.int .i64)),(44,.v (.int .i64))],[],[],[]⟩
abbrev qfy:List (Ex×SG):=[(.exit 2,⟨[(0,.v (.sl qbv))],[],[],[]⟩),(.ret,⟨[(2,.v (.int .i64)),(3,.v (.int .i64))],[],[],[]⟩)]
def qbd (g:(((List NODE)×(List Int)×Int×Int×Unit)×Unit)->Option ((((List NODE)×Unit)×Unit) ⊕ ((Int×Int×Unit)×Unit))):(((List NODE)×(List Int)×Int×Int×Unit)×Unit)->Option ((((List NODE)×Unit)×Unit) ⊕ ((Int×Int×Unit)×Unit))
 | ((v_0,v_42,v_43,v_44,_),_)=>bif (decide (v_44<v_43)) then (bif decide (0<=v_44)&&decide (v_44<(v_42.length:Int)) then (v_42[v_44.toNat]?).bind fun x7=>bif (decide (v_44>0)) then (bif (!decide (x7=1)) then (some (.inr ((v_44,11,()),()))) else (g ((v_0,v_42,v_43,(iadd .i64 v_44 1),()),()))) else (g ((v_0,v_42,v_43,(iadd .i64 v_44 1),()),())) else none) else (some (.inl ((v_0,()),())))
abbrev qeC:SG:=⟨[(0,.v (.sl qbv)),(9,.o .bool 79),(10,.o (.int .i64) 87)],[],[],[]⟩
abbrev qfx:List (Ex×SG):=[(.exit 4,⟨[(9,.o .bool 79)],[],[],[]⟩)]
def qck (g:(((List NODE)×(List Bool)×(List Int)×Unit)×Unit)->Option (((List Bool)×Unit)×Unit)):(((List NODE)×(List Bool)×(List Int)×Unit)×Unit)->Option (((List Bool)×Unit)×Unit)
 | ((v_0,v_9,v_10,_),_)=>bif (decide ((v_10.length:Int)>0)) then (bif decide (0<=(isub .i64 (v_10.length:Int) 1))&&decide ((isub .i64 (v_10.length:Int) 1)<(v_10.length:Int)) then (v_10[(isub .i64 (v_10.length:Int) 1).toNat]?).bind fun x11=>bif decide ((0:Int)<=(isub .i64 (v_10.length:Int) 1))&&decide (((isub .i64 (v_10.length:Int) 1):Int)<=(isub .i64 (v_10.length:Int) 1))&&decide (((isub .i64 (v_10.length:Int) 1):Int)<=(v_10.length:Int)) then bif decide (0<=x11)&&decide (x11<(v_9.length:Int)) then (v_9[x11.toNat]?).bind fun _=>bif decide (0<=x11) then (v_0[x11.toNat]?).bind fun x13=>bif (!x13.1) then (bif j9 (((v_10.take (((isub .i64 (v_10.length:Int) 1)-0).toNat)).length+2)*8) 140737488355328&&!false then g ((v_0,(v_9.set x11.toNat true),((v_10.take (((isub .i64 (v_10.length:Int) 1)-0).toNat))++([x13.2.2.2.1,x13.2.2.2.2.1]:List Int)),()),()) else none) else (g ((v_0,(v_9.set x11.toNat true),(v_10.take (((isub .i64 (v_10.length:Int) 1)-0).toNat)),()),())) else none else none else none else none) else (some ((v_9,()),()))
abbrev qeB:SG:=⟨[(92,.o .bool 743),(93,.v (.int .i64)),(94,.v (.int .i64))],[],[],[]⟩
abbrev qfw:List (Ex×SG):=[(.exit 6,⟨[],[],[],[]⟩),(.ret,⟨[(2,.v (.int .i64)),(3,.v (.int .i64))],[],[],[]⟩)]
def qbw (g:(((List Bool)×Int×Int×Unit)×Unit)->Option ((Unit×Unit) ⊕ ((Int×Int×Unit)×Unit))):(((List Bool)×Int×Int×Unit)×Unit)->Option ((Unit×Unit) ⊕ ((Int×Int×Unit)×Unit))
 | ((v_92,v_93,v_94,_),_)=>bif (decide (v_94<v_93)) then (bif decide (0<=v_94)&&decide (v_94<(v_92.length:Int)) then (v_92[v_94.toNat]?).bind fun x15=>bif (!x15) then (some (.inr ((v_94,11,()),()))) else (g ((v_92,v_93,(iadd .i64 v_94 1),()),())) else none) else (some (.inl ((()),())))
def qjB (a_0:List NODE):Option (Int×Int) :=
 bif decide ((a_0.length:Int)=(a_0.length:Int))&&decide (0<=(a_0.length:Int))&&decide (((8:Nat):Int)*(a_0.length:Int)<=281474976710656)&&decide ((a_0.length:Int)<=9223372036854775807) then (lp qcj K0 ((a_0,(ja (a_0.length:Int).toNat (0:Int)),a_0,(a_0.length:Int),0,()),())).bind fun t6=>(lp qbd K0 ((t6.1.1,t6.1.2.1,(t6.1.2.1.length:Int),0,()),())).bind fun t8=>(match t8 with | .inl t9=>bif decide ((t9.1.1.length:Int)=(t9.1.1.length:Int))&&decide (0<=(t9.1.1.length:Int))&&decide (((1:Nat):Int)*(t9.1.1.length:Int)<=281474976710656)&&decide ((t9.1.1.length:Int)<=9223372036854775807) then (lp qck K0 ((t9.1.1,(ja (t9.1.1.length:Int).toNat (false:Bool)),([0]:List Int),()),())).bind fun t14=>(lp qbw K0 ((t14.1.1,(t14.1.1.length:Int),0,()),())).bind fun t16=>(match t16 with | .inl t17=>some (0,0) | .inr t18=>some (t18.1.1,t18.1.2.1)) else none | .inr t10=>some (t10.1.1,t10.1.2.1)) else none
def c68:Ctr:=⟨[((.sl qbv),.imm)],[((.int .i64),false),((.int .i64),false)],Int×Int,fun x=>qjB x.1,fun r=>((),(r.1,r.2,())),none⟩
abbrev qh2:SG:=⟨[(0,.o (.int .u64) 7),(3,.v (.int .i64))],[],[],[]⟩
abbrev qjM:List (Ex×SG):=[(.exit 0,⟨[(0,.o (.int .u64) 7),(3,.v (.int .i64))],[],[],[]⟩)]
def qe4 (g:(((List Int)×Int×Unit)×Unit)->Option (((List Int)×Int×Unit)×Unit)):(((List Int)×Int×Unit)×Unit)->Option (((List Int)×Int×Unit)×Unit)
 | ((a_0,n_3,_),_)=>bif (decide (n_3>0)) then (bif decide (0<=(isub .i64 n_3 1))&&decide ((isub .i64 n_3 1)<(a_0.length:Int)) then (a_0[(isub .i64 n_3 1).toNat]?).bind fun x1=>bif (decide (x1=0)) then (g ((a_0,(isub .i64 n_3 1),()),())) else (some ((a_0,n_3,()),())) else none) else (some ((a_0,n_3,()),()))
def qfp (a_0:List Int):Option (List Int) :=
 (lp qe4 K0 ((a_0,(a_0.length:Int),()),())).bind fun t2=>bif (decide (t2.1.2.1=0)) then (some ([])) else (bif decide ((0:Int)<=t2.1.2.1)&&decide ((t2.1.2.1:Int)<=t2.1.2.1)&&decide ((t2.1.2.1:Int)<=(t2.1.1.length:Int)) then some (t2.1.1.take ((t2.1.2.1-0).toNat)) else none)
def c73:Ctr:=⟨[((.sl (.int .u64)),.own)],[((.sl (.int .u64)),true)],(List Int),fun x=>qfp x.1,fun r=>((),(r,())),none⟩
def qmD (n_0:Int):Option (List Int) :=
 (qfp ([(iand .u64 n_0 4294967295),(shrV .u64 n_0 32)]:List Int)).bind fun r1=>some r1
def c46:Ctr:=⟨[((.int .u64),.imm)],[((.sl (.int .u64)),true)],(List Int),fun x=>qmD x.1,fun r=>((),(r,())),none⟩
def qdE :Option RAT :=
 (qmD 1).bind fun r1=>some ((false,[]),r1)
def c29:Ctr:=⟨[],[(tRAT,false)],RAT,fun x=>qdE ,fun r=>((),(r,())),none⟩
abbrev qg3:SG:=⟨[(3,.o (.int .u64) 31),(9,.v (.sl (.int .u64))),(10,.v (.int .i64)),(11,.v (.int .i64))],[],[],[]⟩
abbrev qiA:List (Ex×SG):=[(.exit 0,⟨[(3,.o (.int .u64) 31)],[],[],[]⟩)]
def qd8 (g:(((List Int)×(List Int)×Int×Int×Unit)×Unit)->Option (((List Int)×Unit)×Unit)):(((List Int)×(List Int)×Int×Int×Unit)×Unit)->Option (((List Int)×Unit)×Unit)
 | ((out_3,v_9,v_10,v_11,_),_)=>bif (decide (v_11<v_10)) then (bif decide (0<=v_11) then (v_9[v_11.toNat]?).bind fun x1=>bif decide (0<=v_11)&&decide (v_11<(out_3.length:Int)) then (out_3[v_11.toNat]?).bind fun _=>g (((out_3.set v_11.toNat (iand .u64 x1 4294967295)),v_9,v_10,(iadd .i64 v_11 1),()),()) else none else none) else (some ((out_3,()),()))
def qcu (a_0:List Int):Option (List Int) :=
 bif decide ((a_0.length:Int)=(a_0.length:Int))&&decide (0<=(a_0.length:Int))&&decide (((8:Nat):Int)*(a_0.length:Int)<=281474976710656)&&decide ((a_0.length:Int)<=9223372036854775807) then (lp qd8 K0 (((ja (a_0.length:Int).toNat (0:Int)),a_0,(a_0.length:Int),0,()),())).bind fun t3=>(qfp t3.1.1).bind fun r4=>some r4 else none
def c77:Ctr:=⟨[((.sl (.int .u64)),.imm)],[((.sl (.int .u64)),true)],(List Int),fun x=>qcu x.1,fun r=>((),(r,())),none⟩
def qtq (a_0:List Int):Option (Int×Bool) :=
 (qcu a_0).bind fun r1=>bif (decide ((r1.length:Int)=0)) then (some (0,true)) else (bif (decide ((r1.length:Int)=1)) then (bif decide ((0:Int)<(r1.length:Int)) then (r1[0]?).bind fun x2=>some (x2,true) else none) else (bif (decide ((r1.length:Int)=2)) then (bif decide ((1:Int)<(r1.length:Int)) then (r1[1]?).bind fun x3=>bif decide ((0:Int)<(r1.length:Int)) then (r1[0]?).bind fun x4=>some ((ior .u64 (shlV .u64 x3 32) x4),true) else none else none) else (some (0,false))))
def c132:Ctr:=⟨[((.sl (.int .u64)),.imm)],[((.int .u64),false),(.bool,false)],Int×Bool,fun x=>qtq x.1,fun r=>((),(r.1,r.2,())),none⟩
abbrev qf1:SG:=⟨[(5,.v (.int .u64)),(7,.v (.int .u64))],[],[],[]⟩
abbrev qhh:List (Ex×SG):=[(.exit 0,⟨[(5,.v (.int .u64))],[],[],[]⟩)]
def qd7 (g:((Int×Int×Unit)×Unit)->Option ((Int×Unit)×Unit)):((Int×Int×Unit)×Unit)->Option ((Int×Unit)×Unit)
 | ((x_5,y_7,_),_)=>bif (!decide (y_7=0)) then (bif decide (y_7=0) then none else (g ((y_7,(irem x_5 y_7),()),()))) else (some ((x_5,()),()))
def qkT (a_0:List Int) (b_1:List Int):Option (List Int) :=
 (qtq a_0).bind fun r1=>(qtq b_1).bind fun r2=>(lp qd7 K0 ((r1.1,r2.1,()),())).bind fun t3=>(qmD t3.1.1).bind fun r4=>some r4
def c110:Ctr:=⟨[((.sl (.int .u64)),.imm),((.sl (.int .u64)),.imm)],[((.sl (.int .u64)),true)],(List Int),fun x=>qkT x.1 x.2.1,fun r=>((),(r,())),none⟩
def tz64 (a0:Int):Option Int:=bif decide (0<a0)&&decide (a0<18446744073709551616) then some ((tzN 64 a0.toNat:Nat):Int) else none
def c133:Ctr:=⟨[((.int .u64),.imm)],[((.int .i64),false)],Int,fun x=>tz64 x.1,fun r=>((),(r,())),none⟩
abbrev qgX:SG:=⟨[(3,.v (.int .i64)),(6,.v (.sl (.int .u64))),(7,.v (.int .i64)),(8,.v (.int .i64))],[],[],[]⟩
abbrev qiu:List (Ex×SG):=[(.exit 0,⟨[(3,.v (.int .i64))],[],[],[]⟩),(.ret,⟨[(2,.v (.int .i64))],[],[],[]⟩)]
def qeY (g:((Int×(List Int)×Int×Int×Unit)×Unit)->Option (((Int×Unit)×Unit) ⊕ ((Int×Unit)×Unit))):((Int×(List Int)×Int×Int×Unit)×Unit)->Option (((Int×Unit)×Unit) ⊕ ((Int×Unit)×Unit))
 | ((n_3,v_6,v_7,v_8,_),_)=>bif (decide (v_8<v_7)) then (bif decide (0<=v_8) then (v_6[v_8.toNat]?).bind fun x1=>bif (!decide (x1=0)) then ((tz64 x1).bind fun r2=>some (.inr (((iadd .i64 (imul .i64 32 v_8) r2),()),()))) else (g (((iadd .i64 n_3 32),v_6,v_7,(iadd .i64 v_8 1),()),())) else none) else (some (.inl ((n_3,()),())))
def qcN (a_0:List Int):Option Int :=
 (lp qeY K0 ((0,a_0,(a_0.length:Int),0,()),())).bind fun t3=>(match t3 with | .inl t4=>some t4.1.1 | .inr t5=>some t5.1.1)
def c111:Ctr:=⟨[((.sl (.int .u64)),.imm)],[((.int .i64),false)],Int,fun x=>qcN x.1,fun r=>((),(r,())),none⟩
def qii (a_0:List Int) (i_1:Int):Option Int :=
 bif (decide (i_1<(a_0.length:Int))) then (bif decide (0<=i_1) then (a_0[i_1.toNat]?).bind fun x1=>some x1 else none) else (some 0)
def c119:Ctr:=⟨[((.sl (.int .u64)),.imm),((.int .i64),.imm)],[((.int .u64),false)],Int,fun x=>qii x.1 x.2.1,fun r=>((),(r,())),none⟩
abbrev qjr:SG:=⟨[(0,.v (.sl (.int .u64))),(5,.v (.int .i64)),(6,.v (.int .i64)),(7,.o (.int .u64) 63),(23,.v (.int .i64)),(24,.v (.int .i64))],[],[],[]⟩
abbrev qkR:List (Ex×SG):=[(.exit 0,⟨[(7,.o (.int .u64) 63)],[],[],[]⟩)]
abbrev qqT:=(((List Int)×Int×Int×(List Int)×Int×Int×Unit)×Unit)
abbrev qqS:=(((List Int)×Unit)×Unit)
def qfZ (g:qqT->Option qqS):qqT->Option qqS
 | ((a_0,words_5,s_6,out_7,v_23,v_24,_),_)=>bif (decide (v_24<v_23)) then ((qii a_0 (iadd .i64 (iadd .i64 v_24 words_5) 1)).bind fun r1=>bif decide (0<=(iadd .i64 v_24 words_5)) then (a_0[(iadd .i64 v_24 words_5).toNat]?).bind fun x2=>bif decide (s_6<0) then none else (bif decide (0<=v_24)&&decide (v_24<(out_7.length:Int)) then (out_7[v_24.toNat]?).bind fun _=>g ((a_0,words_5,s_6,(out_7.set v_24.toNat (iand .u64 (shrV .u64 (ior .u64 (shlV .u64 r1 32) x2) s_6) 4294967295)),v_23,(iadd .i64 v_24 1),()),()) else none) else none) else (some ((out_7,()),()))
def qe5 (a_0:List Int) (n_1:Int):Option (List Int) :=
 bif (decide ((iquo .i64 n_1 32)>=(a_0.length:Int))) then (some ([])) else (bif decide ((isub .i64 (a_0.length:Int) (iquo .i64 n_1 32))=(isub .i64 (a_0.length:Int) (iquo .i64 n_1 32)))&&decide (0<=(isub .i64 (a_0.length:Int) (iquo .i64 n_1 32)))&&decide (((8:Nat):Int)*(isub .i64 (a_0.length:Int) (iquo .i64 n_1 32))<=281474976710656)&&decide ((isub .i64 (a_0.length:Int) (iquo .i64 n_1 32))<=9223372036854775807) then (lp qfZ K0 ((a_0,(iquo .i64 n_1 32),(irem n_1 32),(ja (isub .i64 (a_0.length:Int) (iquo .i64 n_1 32)).toNat (0:Int)),((ja (isub .i64 (a_0.length:Int) (iquo .i64 n_1 32)).toNat (0:Int)).length:Int),0,()),())).bind fun t4=>(qfp t4.1.1).bind fun r5=>some r5 else none)
def c112:Ctr:=⟨[((.sl (.int .u64)),.imm),((.int .i64),.imm)],[((.sl (.int .u64)),true)],(List Int),fun x=>qe5 x.1 x.2.1,fun r=>((),(r,())),none⟩
abbrev qgZ:SG:=⟨[(0,.v (.sl (.int .u64))),(1,.v (.sl (.int .u64))),(5,.v (.int .i64))],[],[],[]⟩
abbrev qiw:List (Ex×SG):=[(.exit 1,⟨[],[],[],[]⟩),(.ret,⟨[(4,.v (.int .i64))],[],[],[]⟩)]
def qdC (g:(((List Int)×(List Int)×Int×Unit)×Unit)->Option ((Unit×Unit) ⊕ ((Int×Unit)×Unit))):(((List Int)×(List Int)×Int×Unit)×Unit)->Option ((Unit×Unit) ⊕ ((Int×Unit)×Unit))
 | ((a_0,b_1,i_5,_),_)=>bif (decide (i_5>=0)) then (bif decide (0<=i_5) then (a_0[i_5.toNat]?).bind fun x1=>bif decide (0<=i_5) then (b_1[i_5.toNat]?).bind fun x2=>bif (decide (x1<x2)) then (some (.inr (((-1),()),()))) else (bif decide (0<=i_5) then (a_0[i_5.toNat]?).bind fun x3=>bif decide (0<=i_5) then (b_1[i_5.toNat]?).bind fun x4=>bif (decide (x3>x4)) then (some (.inr ((1,()),()))) else (g ((a_0,b_1,(isub .i64 i_5 1),()),())) else none else none) else none else none) else (some (.inl ((()),())))
def qix (a_0:List Int) (b_1:List Int):Option Int :=
 bif (decide ((a_0.length:Int)<(b_1.length:Int))) then (some (-1)) else (bif (decide ((a_0.length:Int)>(b_1.length:Int))) then (some 1) else ((lp qdC K0 ((a_0,b_1,(isub .i64 (a_0.length:Int) 1),()),())).bind fun t5=>(match t5 with | .inl t6=>some 0 | .inr t7=>some t7.1.1)))
def c113:Ctr:=⟨[((.sl (.int .u64)),.imm),((.sl (.int .u64)),.imm)],[((.int .i64),false)],Int,fun x=>qix x.1 x.2.1,fun r=>((),(r,())),none⟩
abbrev qjs:SG:=⟨[(5,.v (.int .i64)),(6,.v (.int .i64)),(7,.o (.int .u64) 63),(20,.v (.sl (.int .u64))),(21,.v (.int .i64)),(22,.v (.int .i64))],[],[],[]⟩
abbrev qkS:List (Ex×SG):=[(.exit 0,⟨[(7,.o (.int .u64) 63)],[],[],[]⟩)]
abbrev qqV:=((Int×Int×(List Int)×(List Int)×Int×Int×Unit)×Unit)
abbrev qqU:=(((List Int)×Unit)×Unit)
def qf0 (g:qqV->Option qqU):qqV->Option qqU
 | ((words_5,s_6,out_7,v_20,v_21,v_22,_),_)=>bif (decide (v_22<v_21)) then (bif decide (0<=v_22) then (v_20[v_22.toNat]?).bind fun x1=>bif decide (s_6<0) then none else (bif decide (0<=(iadd .i64 v_22 words_5))&&decide ((iadd .i64 v_22 words_5)<(out_7.length:Int)) then (out_7[(iadd .i64 v_22 words_5).toNat]?).bind fun x2=>bif decide (0<=(iadd .i64 v_22 words_5))&&decide ((iadd .i64 v_22 words_5)<(out_7.length:Int)) then (out_7[(iadd .i64 v_22 words_5).toNat]?).bind fun _=>bif decide (0<=(iadd .i64 (iadd .i64 v_22 words_5) 1))&&decide ((iadd .i64 (iadd .i64 v_22 words_5) 1)<((out_7.set ((iadd .i64 v_22 words_5).toNat) (ior .u64 x2 (iand .u64 (shlV .u64 x1 s_6) 4294967295))).length:Int)) then ((out_7.set ((iadd .i64 v_22 words_5).toNat) (ior .u64 x2 (iand .u64 (shlV .u64 x1 s_6) 4294967295)))[(iadd .i64 (iadd .i64 v_22 words_5) 1).toNat]?).bind fun _=>g ((words_5,s_6,((out_7.set ((iadd .i64 v_22 words_5).toNat) (ior .u64 x2 (iand .u64 (shlV .u64 x1 s_6) 4294967295))).set ((iadd .i64 (iadd .i64 v_22 words_5) 1).toNat) (shrV .u64 (shlV .u64 x1 s_6) 32)),v_20,v_21,(iadd .i64 v_22 1),()),()) else none else none else none) else none) else (some ((out_7,()),()))
def qjO (a_0:List Int) (n_1:Int):Option (List Int) :=
 bif decide ((iadd .i64 (iadd .i64 (a_0.length:Int) (iquo .i64 n_1 32)) 1)=(iadd .i64 (iadd .i64 (a_0.length:Int) (iquo .i64 n_1 32)) 1))&&decide (0<=(iadd .i64 (iadd .i64 (a_0.length:Int) (iquo .i64 n_1 32)) 1))&&decide (((8:Nat):Int)*(iadd .i64 (iadd .i64 (a_0.length:Int) (iquo .i64 n_1 32)) 1)<=281474976710656)&&decide ((iadd .i64 (iadd .i64 (a_0.length:Int) (iquo .i64 n_1 32)) 1)<=9223372036854775807) then (lp qf0 K0 (((iquo .i64 n_1 32),(irem n_1 32),(ja (iadd .i64 (iadd .i64 (a_0.length:Int) (iquo .i64 n_1 32)) 1).toNat (0:Int)),a_0,(a_0.length:Int),0,()),())).bind fun t5=>(qfp t5.1.1).bind fun r6=>some r6 else none
def c114:Ctr:=⟨[((.sl (.int .u64)),.imm),((.int .i64),.imm)],[((.sl (.int .u64)),true)],(List Int),fun x=>qjO x.1 x.2.1,fun r=>((),(r,())),none⟩
abbrev qgY:SG:=⟨[(0,.v (.sl (.int .u64))),(1,.v (.int .u64)),(6,.o (.int .u64) 55),(7,.v (.int .u64)),(8,.v (.int .i64))],[],[],[]⟩
abbrev qiv:List (Ex×SG):=[(.exit 0,⟨[(6,.o (.int .u64) 55),(7,.v (.int .u64))],[],[],[]⟩)]
def qeZ (g:(((List Int)×Int×(List Int)×Int×Int×Unit)×Unit)->Option (((List Int)×Int×Unit)×Unit)):(((List Int)×Int×(List Int)×Int×Int×Unit)×Unit)->Option (((List Int)×Int×Unit)×Unit)
 | ((a_0,d_1,out_6,rest_7,i_8,_),_)=>bif (decide (i_8>=0)) then (bif decide (0<=i_8) then (a_0[i_8.toNat]?).bind fun x1=>bif decide (d_1=0) then none else (bif decide (0<=i_8)&&decide (i_8<(out_6.length:Int)) then (out_6[i_8.toNat]?).bind fun _=>bif decide (d_1=0) then none else (g ((a_0,d_1,(out_6.set i_8.toNat (iquo .u64 (ior .u64 (shlV .u64 rest_7 32) x1) d_1)),(irem (ior .u64 (shlV .u64 rest_7 32) x1) d_1),(isub .i64 i_8 1),()),())) else none) else none) else (some ((out_6,rest_7,()),()))
def qmy (a_0:List Int) (d_1:Int):Option ((List Int)×Int) :=
 bif decide ((a_0.length:Int)=(a_0.length:Int))&&decide (0<=(a_0.length:Int))&&decide (((8:Nat):Int)*(a_0.length:Int)<=281474976710656)&&decide ((a_0.length:Int)<=9223372036854775807) then (lp qeZ K0 ((a_0,d_1,(ja (a_0.length:Int).toNat (0:Int)),0,(isub .i64 (a_0.length:Int) 1),()),())).bind fun t3=>(qfp t3.1.1).bind fun r4=>some (r4,t3.1.2.1) else none
def c117:Ctr:=⟨[((.sl (.int .u64)),.imm),((.int .u64),.imm)],[((.sl (.int .u64)),true),((.int .u64),false)],(List Int)×Int,fun x=>qmy x.1 x.2.1,fun r=>((),(r.1,r.2,())),none⟩
def qzD (a0:Int):Option Int:=bif decide (0<=a0)&&decide (a0<4294967296) then some ((lenN a0.toNat:Nat):Int) else none
def c143:Ctr:=⟨[((.int .u32),.imm)],[((.int .i64),false)],Int,fun x=>qzD x.1,fun r=>((),(r,())),none⟩
def qd1 (x_0:Int):Option Int :=
 (qzD x_0).bind fun r1=>some (isub .i64 32 r1)
def c134:Ctr:=⟨[((.int .u32),.imm)],[((.int .i64),false)],Int,fun x=>qd1 x.1,fun r=>((),(r,())),none⟩
abbrev qh3:SG:=⟨[(0,.l (.int .u64) 0),(1,.v (.sl (.int .u64))),(2,.v (.int .u64)),(7,.v (.int .u64)),(8,.v (.int .u64)),(12,.v (.int .i64)),(13,.v (.int .i64))],[],[],[]⟩
abbrev qjN:List (Ex×SG):=[(.exit 0,⟨[(0,.l (.int .u64) 0),(8,.v (.int .u64))],[],[],[]⟩)]
abbrev qpi:=(((List Int)×(List Int)×Int×Int×Int×Int×Int×Unit)×Unit)
abbrev qph:=(((List Int)×Int×Unit)×Unit)
def qfK (g:qpi->Option qph):qpi->Option qph
 | ((u_0,v_1,times_2,carry_7,debt_8,v_12,v_13,_),_)=>bif (decide (v_13<v_12)) then ((qii v_1 v_13).bind fun r1=>bif decide (0<=v_13)&&decide (v_13<(u_0.length:Int)) then (u_0[v_13.toNat]?).bind fun x2=>bif decide (0<=v_13)&&decide (v_13<(u_0.length:Int)) then (u_0[v_13.toNat]?).bind fun _=>g (((u_0.set v_13.toNat (iand .u64 (isub .u64 (isub .u64 (iadd .u64 4294967296 x2) (iand .u64 (iadd .u64 carry_7 (imul .u64 times_2 r1)) 4294967295)) debt_8) 4294967295)),v_1,times_2,(shrV .u64 (iadd .u64 carry_7 (imul .u64 times_2 r1)) 32),(isub .u64 1 (shrV .u64 (isub .u64 (isub .u64 (iadd .u64 4294967296 x2) (iand .u64 (iadd .u64 carry_7 (imul .u64 times_2 r1)) 4294967295)) debt_8) 32)),v_12,(iadd .i64 v_13 1),()),()) else none else none) else (some ((u_0,debt_8,()),()))
def qpj (u_0:List Int) (v_1:List Int) (times_2:Int):Option ((List Int)×Bool) :=
 (lp qfK K0 ((u_0,v_1,times_2,0,0,(u_0.length:Int),0,()),())).bind fun t4=>(bif jb t4.1.1.length u_0.length then some (t4.1.1,()) else none).bind fun l5=>some (l5.1,(decide (t4.1.2.1=1)))
def c144:Ctr:=⟨[((.sl (.int .u64)),.lent),((.sl (.int .u64)),.imm),((.int .u64),.imm)],[(.bool,false)],(List Int)×Bool,fun x=>qpj x.1 x.2.1 x.2.2.1,fun r=>((r.1,()),(r.2,())),none⟩
abbrev qh5:SG:=⟨[(0,.l (.int .u64) 0),(1,.v (.sl (.int .u64))),(4,.v (.int .u64)),(7,.v (.int .i64)),(8,.v (.int .i64))],[],[],[]⟩
abbrev qjQ:List (Ex×SG):=[(.exit 0,⟨[(0,.l (.int .u64) 0)],[],[],[]⟩)]
def qfL (g:(((List Int)×(List Int)×Int×Int×Int×Unit)×Unit)->Option (((List Int)×Unit)×Unit)):(((List Int)×(List Int)×Int×Int×Int×Unit)×Unit)->Option (((List Int)×Unit)×Unit)
 | ((u_0,v_1,carry_4,v_7,v_8,_),_)=>bif (decide (v_8<v_7)) then (bif decide (0<=v_8)&&decide (v_8<(u_0.length:Int)) then (u_0[v_8.toNat]?).bind fun x1=>(qii v_1 v_8).bind fun r2=>bif decide (0<=v_8)&&decide (v_8<(u_0.length:Int)) then (u_0[v_8.toNat]?).bind fun _=>g (((u_0.set v_8.toNat (iand .u64 (iadd .u64 carry_4 (iadd .u64 x1 r2)) 4294967295)),v_1,(shrV .u64 (iadd .u64 carry_4 (iadd .u64 x1 r2)) 32),v_7,(iadd .i64 v_8 1),()),()) else none else none) else (some ((u_0,()),()))
def qpn (u_0:List Int) (v_1:List Int):Option (List Int) :=
 (lp qfL K0 ((u_0,v_1,0,(u_0.length:Int),0,()),())).bind fun t4=>(bif jb t4.1.1.length u_0.length then some (t4.1.1,()) else none).bind fun l5=>some l5.1
def c145:Ctr:=⟨[((.sl (.int .u64)),.lent),((.sl (.int .u64)),.imm)],[],(List Int),fun x=>qpn x.1 x.2.1,fun r=>((r,()),()),none⟩
abbrev qg1:SG:=⟨[(0,.l (.int .u64) 0),(1,.v (.sl (.int .u64))),(5,.v (.int .i64)),(7,.v (.int .u64)),(8,.v (.int .u64))],[],[],[]⟩
abbrev qiz:List (Ex×SG):=[(.exit 0,⟨[(0,.l (.int .u64) 0),(1,.v (.sl (.int .u64))),(7,.v (.int .u64))],[],[],[]⟩)]
def qb6 (g:(((List Int)×(List Int)×Int×Int×Int×Unit)×Unit)->Option (((List Int)×(List Int)×Int×Unit)×Unit)):(((List Int)×(List Int)×Int×Int×Int×Unit)×Unit)->Option (((List Int)×(List Int)×Int×Unit)×Unit)
 | ((v_0,v_1,v_5,v_7,v_8,_),_)=>bif (decide (v_7>=4294967296)) then (bif decide (0<=(isub .i64 v_5 1)) then (v_1[(isub .i64 v_5 1).toNat]?).bind fun x5=>bif (decide ((iadd .u64 v_8 x5)>=4294967296)) then (some ((v_0,v_1,(isub .u64 v_7 1),()),())) else (g ((v_0,v_1,v_5,(isub .u64 v_7 1),(iadd .u64 v_8 x5),()),())) else none) else (bif decide (0<=(isub .i64 v_5 2)) then (v_1[(isub .i64 v_5 2).toNat]?).bind fun x6=>bif decide (0<=(isub .i64 v_5 2))&&decide ((isub .i64 v_5 2)<(v_0.length:Int)) then (v_0[(isub .i64 v_5 2).toNat]?).bind fun x7=>bif (decide ((imul .u64 v_7 x6)>(ior .u64 (shlV .u64 v_8 32) x7))) then (bif decide (0<=(isub .i64 v_5 1)) then (v_1[(isub .i64 v_5 1).toNat]?).bind fun x8=>bif (decide ((iadd .u64 v_8 x8)>=4294967296)) then (some ((v_0,v_1,(isub .u64 v_7 1),()),())) else (g ((v_0,v_1,v_5,(isub .u64 v_7 1),(iadd .u64 v_8 x8),()),())) else none) else (some ((v_0,v_1,v_7,()),())) else none else none)
def qkU (a_0:List Int) (a_1:List Int):Option ((List Int)×Int) :=
 bif decide (0<=(a_1.length:Int))&&decide ((a_1.length:Int)<(a_0.length:Int)) then (a_0[(a_1.length:Int).toNat]?).bind fun x1=>bif decide (0<=(isub .i64 (a_1.length:Int) 1))&&decide ((isub .i64 (a_1.length:Int) 1)<(a_0.length:Int)) then (a_0[(isub .i64 (a_1.length:Int) 1).toNat]?).bind fun x2=>bif decide (0<=(isub .i64 (a_1.length:Int) 1)) then (a_1[(isub .i64 (a_1.length:Int) 1).toNat]?).bind fun x3=>bif decide (x3=0) then none else (bif decide (0<=(isub .i64 (a_1.length:Int) 1)) then (a_1[(isub .i64 (a_1.length:Int) 1).toNat]?).bind fun x4=>bif decide (x4=0) then none else ((lp qb6 K0 ((a_0,a_1,(a_1.length:Int),(iquo .u64 (ior .u64 (shlV .u64 x1 32) x2) x3),(irem (ior .u64 (shlV .u64 x1 32) x2) x4),()),())).bind fun t9=>(qpj t9.1.1 t9.1.2.1 t9.1.2.2.1).bind fun r10=>bif r10.2 then ((qpn (over t9.1.1 0 r10.1) t9.1.2.1).bind fun r11=>(bif jb (over (over t9.1.1 0 r10.1) 0 r11).length a_0.length then some ((over (over t9.1.1 0 r10.1) 0 r11),()) else none).bind fun l12=>some (l12.1,(isub .u64 t9.1.2.2.1 1))) else ((bif jb (over t9.1.1 0 r10.1).length a_0.length then some ((over t9.1.1 0 r10.1),()) else none).bind fun l13=>some (l13.1,t9.1.2.2.1))) else none) else none else none else none
def c135:Ctr:=⟨[((.sl (.int .u64)),.lent),((.sl (.int .u64)),.imm)],[((.int .u64),false)],(List Int)×Int,fun x=>qkU x.1 x.2.1,fun r=>((r.1,()),(r.2,())),none⟩
abbrev qh4:SG:=⟨[(6,.v (.int .i64)),(7,.v (.sl (.int .u64))),(8,.o (.int .u64) 71),(9,.v (.int .i64)),(10,.o (.int .u64) 87),(11,.v (.int .i64))],[],[],[]⟩
abbrev qjP:List (Ex×SG):=[(.exit 0,⟨[(6,.v (.int .i64)),(8,.o (.int .u64) 71),(10,.o (.int .u64) 87)],[],[],[]⟩)]
abbrev qpl:=((Int×(List Int)×(List Int)×Int×(List Int)×Int×Unit)×Unit)
abbrev qpk:=((Int×(List Int)×(List Int)×Unit)×Unit)
def qe6 (g:qpl->Option qpk):qpl->Option qpk
 | ((s_6,v_7,u_8,n_9,q_10,j_11,_),_)=>bif (decide (j_11>=0)) then (bif decide (0<=j_11)&&decide ((j_11:Int)<=(iadd .i64 (iadd .i64 j_11 n_9) 1))&&decide (((iadd .i64 (iadd .i64 j_11 n_9) 1):Int)<=(iadd .i64 (iadd .i64 j_11 n_9) 1))&&decide (((iadd .i64 (iadd .i64 j_11 n_9) 1):Int)<=(u_8.length:Int)) then (qkU ((u_8.drop j_11.toNat).take (((iadd .i64 (iadd .i64 j_11 n_9) 1)-j_11).toNat)) v_7).bind fun r5=>bif decide (0<=j_11)&&decide (j_11<(q_10.length:Int)) then (q_10[j_11.toNat]?).bind fun _=>g ((s_6,v_7,(over u_8 j_11.toNat r5.1),n_9,(q_10.set j_11.toNat r5.2),(isub .i64 j_11 1),()),()) else none else none) else (some ((s_6,u_8,q_10,()),()))
def qpm (a_0:List Int) (b_1:List Int):Option ((List Int)×(List Int)) :=
 bif decide (0<=(isub .i64 (b_1.length:Int) 1)) then (b_1[(isub .i64 (b_1.length:Int) 1).toNat]?).bind fun x1=>(qd1 (IntKind.wrap .u32 x1)).bind fun r2=>(qjO b_1 r2).bind fun r3=>(qjO a_0 r2).bind fun r4=>bif j9 ((r4.length+2)*8) 140737488355328&&!false then bif decide ((0:Int)<=(iadd .i64 (a_0.length:Int) 1))&&decide (((iadd .i64 (a_0.length:Int) 1):Int)<=(iadd .i64 (a_0.length:Int) 1))&&decide (((iadd .i64 (a_0.length:Int) 1):Int)<=((r4++([0,0]:List Int)).length:Int)) then bif decide ((isub .i64 (((iadd .i64 (a_0.length:Int) 1)-0).toNat:Int) (r3.length:Int))=(isub .i64 (((iadd .i64 (a_0.length:Int) 1)-0).toNat:Int) (r3.length:Int)))&&decide (0<=(isub .i64 (((iadd .i64 (a_0.length:Int) 1)-0).toNat:Int) (r3.length:Int)))&&decide (((8:Nat):Int)*(isub .i64 (((iadd .i64 (a_0.length:Int) 1)-0).toNat:Int) (r3.length:Int))<=281474976710656)&&decide ((isub .i64 (((iadd .i64 (a_0.length:Int) 1)-0).toNat:Int) (r3.length:Int))<=9223372036854775807) then (lp qe6 K0 ((r2,r3,((r4++([0,0]:List Int)).take (((iadd .i64 (a_0.length:Int) 1)-0).toNat)),(r3.length:Int),(ja (isub .i64 (((iadd .i64 (a_0.length:Int) 1)-0).toNat:Int) (r3.length:Int)).toNat (0:Int)),(isub .i64 ((ja (isub .i64 (((iadd .i64 (a_0.length:Int) 1)-0).toNat:Int) (r3.length:Int)).toNat (0:Int)).length:Int) 1),()),())).bind fun t7=>(qfp t7.1.2.2.1).bind fun r8=>(qfp t7.1.2.1).bind fun r9=>(qe5 r9 t7.1.1).bind fun r10=>some (r8,r10) else none else none else none else none
def c118:Ctr:=⟨[((.sl (.int .u64)),.imm),((.sl (.int .u64)),.imm)],[((.sl (.int .u64)),true),((.sl (.int .u64)),true)],(List Int)×(List Int),fun x=>qpm x.1 x.2.1,fun r=>((),(r.1,r.2,())),none⟩
def qf3 (a_0:List Int) (b_1:List Int):Option ((List Int)×(List Int)×Int) :=
 (qcu a_0).bind fun r1=>(qcu b_1).bind fun r2=>bif (decide ((r2.length:Int)=0)) then (some ([],[],2)) else ((qix r1 r2).bind fun r3=>bif (decide (r3<0)) then (some ([],r1,0)) else (bif (decide ((r2.length:Int)=1)) then (bif decide ((0:Int)<(r2.length:Int)) then (r2[0]?).bind fun x4=>(qmy r1 x4).bind fun r5=>(qmD r5.2).bind fun r6=>some (r5.1,r6,0) else none) else ((qpm r1 r2).bind fun r7=>some (r7.1,r7.2,0))))
def c85:Ctr:=⟨[((.sl (.int .u64)),.imm),((.sl (.int .u64)),.imm)],[((.sl (.int .u64)),true),((.sl (.int .u64)),false),((.int .i64),false)],(List Int)×(List Int)×Int,fun x=>qf3 x.1 x.2.1,fun r=>((),(r.1,r.2.1,r.2.2,())),none⟩
def qj9 (a_0:List Int) (b_1:List Int):Option ((List Int)×(List Int)) :=
 (qf3 a_0 b_1).bind fun r1=>some (r1.1,r1.2.1)
def c115:Ctr:=⟨[((.sl (.int .u64)),.imm),((.sl (.int .u64)),.imm)],[((.sl (.int .u64)),true),((.sl (.int .u64)),false)],(List Int)×(List Int),fun x=>qj9 x.1 x.2.1,fun r=>((),(r.1,r.2,())),none⟩
abbrev qg0:SG:=⟨[(0,.v (.sl (.int .u64))),(1,.v (.sl (.int .u64))),(5,.o (.int .u64) 47),(6,.v (.int .u64)),(13,.v (.int .i64)),(14,.v (.int .i64))],[],[],[]⟩
abbrev qiy:List (Ex×SG):=[(.exit 0,⟨[(5,.o (.int .u64) 47)],[],[],[]⟩)]
abbrev qof:=(((List Int)×(List Int)×(List Int)×Int×Int×Int×Unit)×Unit)
abbrev qoe:=(((List Int)×Unit)×Unit)
def qe0 (g:qof->Option qoe):qof->Option qoe
 | ((a_0,b_1,out_5,debt_6,v_13,v_14,_),_)=>bif (decide (v_14<v_13)) then (bif decide (0<=v_14) then (a_0[v_14.toNat]?).bind fun x1=>(qii b_1 v_14).bind fun r2=>bif decide (0<=v_14)&&decide (v_14<(out_5.length:Int)) then (out_5[v_14.toNat]?).bind fun _=>g ((a_0,b_1,(out_5.set v_14.toNat (iand .u64 (isub .u64 (isub .u64 (iadd .u64 4294967296 x1) r2) debt_6) 4294967295)),(isub .u64 1 (shrV .u64 (isub .u64 (isub .u64 (iadd .u64 4294967296 x1) r2) debt_6) 32)),v_13,(iadd .i64 v_14 1),()),()) else none else none) else (some ((out_5,()),()))
def qhg (a_0:List Int) (b_1:List Int):Option (List Int) :=
 bif decide ((a_0.length:Int)=(a_0.length:Int))&&decide (0<=(a_0.length:Int))&&decide (((8:Nat):Int)*(a_0.length:Int)<=281474976710656)&&decide ((a_0.length:Int)<=9223372036854775807) then (lp qe0 K0 ((a_0,b_1,(ja (a_0.length:Int).toNat (0:Int)),0,((ja (a_0.length:Int).toNat (0:Int)).length:Int),0,()),())).bind fun t4=>(qfp t4.1.1).bind fun r5=>some r5 else none
def c116:Ctr:=⟨[((.sl (.int .u64)),.imm),((.sl (.int .u64)),.imm)],[((.sl (.int .u64)),true)],(List Int),fun x=>qhg x.1 x.2.1,fun r=>((),(r,())),none⟩
abbrev qh6:SG:=⟨[(0,.o (.int .u64) 7),(1,.v (.sl (.int .u64))),(5,.v (.int .i64)),(6,.v (.int .i64))],[],[],[]⟩
abbrev qjR:List (Ex×SG):=[(.ret,⟨[(4,.o (.int .u64) 39)],[],[],[]⟩)]
def qct (g:(((List Int)×(List Int)×Int×Int×Unit)×Unit)->Option (((List Int)×Unit)×Unit)):(((List Int)×(List Int)×Int×Int×Unit)×Unit)->Option (((List Int)×Unit)×Unit)
 | ((v_0,v_1,v_5,v_6,_),_)=>(qix v_0 v_1).bind fun r8=>bif (decide (r8=0)) then ((qjO v_0 (mn v_5 v_6)).bind fun r9=>some ((r9,()),())) else (bif (decide (r8<0)) then (bif (decide ((v_1.length:Int)>(iadd .i64 (v_0.length:Int) 1))) then ((qj9 v_1 v_0).bind fun r10=>bif (decide ((r10.2.length:Int)=0)) then ((qjO v_0 (mn v_5 v_6)).bind fun r11=>some ((r11,()),())) else ((qcN r10.2).bind fun r12=>(qe5 r10.2 r12).bind fun r13=>g ((r13,v_0,v_5,v_6,()),()))) else ((qhg v_1 v_0).bind fun r14=>(qcN r14).bind fun r15=>(qe5 r14 r15).bind fun r16=>g ((r16,v_0,v_5,v_6,()),()))) else (bif (decide ((v_0.length:Int)>(iadd .i64 (v_1.length:Int) 1))) then ((qj9 v_0 v_1).bind fun r17=>bif (decide ((r17.2.length:Int)=0)) then ((qjO v_1 (mn v_5 v_6)).bind fun r18=>some ((r18,()),())) else ((qcN r17.2).bind fun r19=>(qe5 r17.2 r19).bind fun r20=>g ((r20,v_1,v_5,v_6,()),()))) else ((qhg v_0 v_1).bind fun r21=>(qcN r21).bind fun r22=>(qe5 r21 r22).bind fun r23=>g ((r23,v_1,v_5,v_6,()),()))))
def qsc (a_0:List Int) (a_1:List Int):Option (List Int) :=
 (qcu a_0).bind fun r1=>(qcu a_1).bind fun r2=>bif (decide ((r1.length:Int)=0)) then (some r2) else (bif (decide ((r2.length:Int)=0)) then (some r1) else (bif (decide ((r1.length:Int)<=2)) then (bif (decide ((r2.length:Int)<=2)) then ((qkT r1 r2).bind fun r3=>some r3) else ((qcN r1).bind fun r4=>(qcN r2).bind fun r5=>(qe5 r1 r4).bind fun r6=>(qe5 r2 r5).bind fun r7=>(lp qct K0 ((r6,r7,r4,r5,()),())).bind fun t24=>some t24.1.1)) else ((qcN r1).bind fun r25=>(qcN r2).bind fun r26=>(qe5 r1 r25).bind fun r27=>(qe5 r2 r26).bind fun r28=>(lp qct K0 ((r27,r28,r25,r26,()),())).bind fun t29=>some t29.1.1)))
def c84:Ctr:=⟨[((.sl (.int .u64)),.imm),((.sl (.int .u64)),.imm)],[((.sl (.int .u64)),true)],(List Int),fun x=>qsc x.1 x.2.1,fun r=>((),(r,())),none⟩
def qfk (num_0:WH) (den_1:List Int):Option RAT :=
 bif (decide ((num_0.2.length:Int)=0)) then ((qmD 1).bind fun r1=>some ((false,[]),r1)) else ((qsc num_0.2 den_1).bind fun r2=>bif (decide ((r2.length:Int)=1)) then (bif decide ((0:Int)<(r2.length:Int)) then (r2[0]?).bind fun x3=>bif (decide (x3=1)) then (some (num_0,den_1)) else ((qf3 num_0.2 r2).bind fun r4=>(qf3 den_1 r2).bind fun r5=>some ((num_0.1,r4.1),r5.1)) else none) else ((qf3 num_0.2 r2).bind fun r6=>(qf3 den_1 r2).bind fun r7=>some ((num_0.1,r6.1),r7.1)))
def c55:Ctr:=⟨[(tWH,.imm),((.sl (.int .u64)),.imm)],[(tRAT,false)],RAT,fun x=>qfk x.1 x.2.1,fun r=>((),(r,())),none⟩
def qex (neg_0:Bool) (abs_1:List Int):Option WH :=
 bif neg_0 then (some ((decide ((abs_1.length:Int)>0)),abs_1)) else (some (false,abs_1))
def c72:Ctr:=⟨[(.bool,.imm),((.sl (.int .u64)),.imm)],[(tWH,false)],WH,fun x=>qex x.1 x.2.1,fun r=>((),(r,())),none⟩
def qbX (a_0:WH):Option WH :=
 (qcu a_0.2).bind fun r1=>(qex a_0.1 r1).bind fun r2=>some r2
def c75:Ctr:=⟨[(tWH,.imm)],[(tWH,false)],WH,fun x=>qbX x.1,fun r=>((),(r,())),none⟩
def qbK (a_0:RAT):Option RAT :=
 (qcu a_0.2).bind fun r1=>bif (decide ((r1.length:Int)=0)) then ((qdE ).bind fun r2=>some r2) else ((qbX a_0.1).bind fun r3=>(qfk r3 r1).bind fun r4=>some r4)
def c49:Ctr:=⟨[(tRAT,.imm)],[(tRAT,false)],RAT,fun x=>qbK x.1,fun r=>((),(r,())),none⟩
def qjj (a_0:WH):Option Int :=
 (qbX a_0).bind fun r1=>bif r1.1 then (some (-1)) else (bif (decide ((r1.2.length:Int)=0)) then (some 0) else (some 1))
def c76:Ctr:=⟨[(tWH,.imm)],[((.int .i64),false)],Int,fun x=>qjj x.1,fun r=>((),(r,())),none⟩
def qjo (a_0:RAT):Option Int :=
 (qbK a_0).bind fun r1=>(qjj r1.1).bind fun r2=>some r2
def c100:Ctr:=⟨[(tRAT,.imm)],[((.int .i64),false)],Int,fun x=>qjo x.1,fun r=>((),(r,())),none⟩
abbrev qeF:SG:=⟨[(6,.v (.sl qbv)),(7,.v (.int .i64)),(8,.v (.int .i64))],[],[],[]⟩
abbrev qfA:List (Ex×SG):=[(.exit 0,⟨[],[],[],[]⟩),(.ret,⟨[(2,.v (.int .i64)),(3,.v (.int .i64))],[],[],[]⟩)]
def qby (g:(((List NODE)×Int×Int×Unit)×Unit)->Option ((Unit×Unit) ⊕ ((Int×Int×Unit)×Unit))):(((List NODE)×Int×Int×Unit)×Unit)->Option ((Unit×Unit) ⊕ ((Int×Int×Unit)×Unit))
 | ((v_6,v_7,v_8,_),_)=>bif (decide (v_8<v_7)) then (bif decide (0<=v_8) then (v_6[v_8.toNat]?).bind fun x1=>(qjo x1.2.2.2.2.2.2.2).bind fun r2=>bif (decide (r2<=0)) then (some (.inr ((v_8,12,()),()))) else (g ((v_6,v_7,(iadd .i64 v_8 1),()),())) else none) else (some (.inl ((()),())))
def qgQ (t_0:List NODE):Option (Int×Int) :=
 (lp qby K0 ((t_0,(t_0.length:Int),0,()),())).bind fun t3=>(match t3 with | .inl t4=>some (0,0) | .inr t5=>some (t5.1.1,t5.1.2.1))
def c69:Ctr:=⟨[((.sl qbv),.imm)],[((.int .i64),false),((.int .i64),false)],Int×Int,fun x=>qgQ x.1,fun r=>((),(r.1,r.2,())),none⟩
abbrev qjt:SG:=⟨[(1,.v (.sl (.int .u64))),(5,.o (.int .u64) 47),(6,.v (.int .i64)),(7,.v (.int .u64)),(8,.v (.int .u64)),(21,.o (.int .u64) 175),(22,.v (.int .i64)),(23,.v (.int .i64)),(28,.v (.sl (.int .u64))),(29,.v (.int .i64)),(30,.v (.int .i64))],[],[],[]⟩
abbrev qkV:List (Ex×SG):=[(.exit 2,⟨[(1,.v (.sl (.int .u64))),(5,.o (.int .u64) 47),(6,.v (.int .i64)),(8,.v (.int .u64)),(21,.o (.int .u64) 175),(22,.v (.int .i64)),(23,.v (.int .i64))],[],[],[]⟩)]
abbrev qqX:=(((List Int)×(List Int)×Int×Int×Int×(List Int)×Int×Int×(List Int)×Int×Int×Unit)×Unit)
abbrev qqW:=(((List Int)×(List Int)×Int×Int×(List Int)×Int×Int×Unit)×Unit)
def qf2 (g:qqX->Option qqW):qqX->Option qqW
 | ((v_1,v_5,v_6,v_7,v_8,v_21,v_22,v_23,v_28,v_29,v_30,_),_)=>bif (decide (v_30<v_29)) then (bif decide (0<=v_30) then (v_28[v_30.toNat]?).bind fun x4=>bif decide (0<=(iadd .i64 v_6 v_30))&&decide ((iadd .i64 v_6 v_30)<(v_5.length:Int)) then (v_5[(iadd .i64 v_6 v_30).toNat]?).bind fun x5=>bif decide (0<=(iadd .i64 v_6 v_30))&&decide ((iadd .i64 v_6 v_30)<(v_5.length:Int)) then (v_5[(iadd .i64 v_6 v_30).toNat]?).bind fun _=>g ((v_1,(v_5.set ((iadd .i64 v_6 v_30).toNat) (iand .u64 (iadd .u64 v_8 (iadd .u64 x5 (imul .u64 v_7 x4))) 4294967295)),v_6,v_7,(shrV .u64 (iadd .u64 v_8 (iadd .u64 x5 (imul .u64 v_7 x4))) 32),v_21,v_22,v_23,v_28,v_29,(iadd .i64 v_30 1),()),()) else none else none else none) else (some ((v_1,v_5,v_6,v_8,v_21,v_22,v_23,()),()))
abbrev qju:SG:=⟨[(1,.v (.sl (.int .u64))),(5,.o (.int .u64) 47),(21,.o (.int .u64) 175),(22,.v (.int .i64)),(23,.v (.int .i64))],[],[],[]⟩
abbrev qkW:List (Ex×SG):=[(.exit 0,⟨[(5,.o (.int .u64) 47)],[],[],[]⟩)]
abbrev qqZ:=(((List Int)×(List Int)×(List Int)×Int×Int×Unit)×Unit)
abbrev qqY:=(((List Int)×Unit)×Unit)
def qg2 (g:qqZ->Option qqY):qqZ->Option qqY
 | ((v_1,v_5,v_21,v_22,v_23,_),_)=>bif (decide (v_23<v_22)) then (bif decide (0<=v_23)&&decide (v_23<(v_21.length:Int)) then (v_21[v_23.toNat]?).bind fun x3=>(lp qf2 K0 ((v_1,v_5,v_23,x3,0,v_21,v_22,v_23,v_1,(v_1.length:Int),0,()),())).bind fun t7=>bif decide (0<=(iadd .i64 t7.1.2.2.1 (t7.1.1.length:Int)))&&decide ((iadd .i64 t7.1.2.2.1 (t7.1.1.length:Int))<(t7.1.2.1.length:Int)) then (t7.1.2.1[(iadd .i64 t7.1.2.2.1 (t7.1.1.length:Int)).toNat]?).bind fun _=>g ((t7.1.1,(t7.1.2.1.set ((iadd .i64 t7.1.2.2.1 (t7.1.1.length:Int)).toNat) t7.1.2.2.2.1),t7.1.2.2.2.2.1,t7.1.2.2.2.2.2.1,(iadd .i64 t7.1.2.2.2.2.2.2.1 1),()),()) else none else none) else (some ((v_5,()),()))
def qmE (a_0:List Int) (a_1:List Int):Option (List Int) :=
 (qcu a_0).bind fun r1=>(qcu a_1).bind fun r2=>bif decide ((iadd .i64 (r1.length:Int) (r2.length:Int))=(iadd .i64 (r1.length:Int) (r2.length:Int)))&&decide (0<=(iadd .i64 (r1.length:Int) (r2.length:Int)))&&decide (((8:Nat):Int)*(iadd .i64 (r1.length:Int) (r2.length:Int))<=281474976710656)&&decide ((iadd .i64 (r1.length:Int) (r2.length:Int))<=9223372036854775807) then (lp qg2 K0 ((r2,(ja (iadd .i64 (r1.length:Int) (r2.length:Int)).toNat (0:Int)),r1,(r1.length:Int),0,()),())).bind fun t9=>(qfp t9.1.1).bind fun r10=>some r10 else none
def c59:Ctr:=⟨[((.sl (.int .u64)),.imm),((.sl (.int .u64)),.imm)],[((.sl (.int .u64)),true)],(List Int),fun x=>qmE x.1 x.2.1,fun r=>((),(r,())),none⟩
def qey (a_0:WH) (b_1:WH):Option WH :=
 (qbX a_0).bind fun r1=>(qbX b_1).bind fun r2=>(qmE r1.2 r2.2).bind fun r3=>(qex (!(r1.1 == r2.1)) r3).bind fun r4=>some r4
def c57:Ctr:=⟨[(tWH,.imm),(tWH,.imm)],[(tWH,false)],WH,fun x=>qey x.1 x.2.1,fun r=>((),(r,())),none⟩
def qgn (a_0:RAT):Option WH :=
 some (false,a_0.2)
def c58:Ctr:=⟨[(tRAT,.imm)],[(tWH,false)],WH,fun x=>qgn x.1,fun r=>((),(r,())),none⟩
def qiW (a_0:List Int) (b_1:List Int):Option Int :=
 (qcu a_0).bind fun r1=>(qcu b_1).bind fun r2=>(qix r1 r2).bind fun r3=>some r3
def c87:Ctr:=⟨[((.sl (.int .u64)),.imm),((.sl (.int .u64)),.imm)],[((.int .i64),false)],Int,fun x=>qiW x.1 x.2.1,fun r=>((),(r,())),none⟩
def ql8 (a_0:WH) (b_1:WH):Option Int :=
 (qbX a_0).bind fun r1=>(qbX b_1).bind fun r2=>bif (!(r1.1 == r2.1)) then (bif r1.1 then (some (-1)) else (bif (!(r1.1 == r2.1)) then (some 1) else (bif r1.1 then ((qiW r2.2 r1.2).bind fun r3=>some r3) else ((qiW r1.2 r2.2).bind fun r4=>some r4)))) else (bif (!(r1.1 == r2.1)) then (some 1) else (bif r1.1 then ((qiW r2.2 r1.2).bind fun r5=>some r5) else ((qiW r1.2 r2.2).bind fun r6=>some r6)))
def c74:Ctr:=⟨[(tWH,.imm),(tWH,.imm)],[((.int .i64),false)],Int,fun x=>ql8 x.1 x.2.1,fun r=>((),(r,())),none⟩
def qkE (a_0:RAT) (b_1:RAT):Option Int :=
 (qbK a_0).bind fun r1=>(qbK b_1).bind fun r2=>(qgn r2).bind fun r3=>(qey r1.1 r3).bind fun r4=>(qgn r1).bind fun r5=>(qey r2.1 r5).bind fun r6=>(ql8 r4 r6).bind fun r7=>some r7
def c47:Ctr:=⟨[(tRAT,.imm),(tRAT,.imm)],[((.int .i64),false)],Int,fun x=>qkE x.1 x.2.1,fun r=>((),(r,())),none⟩
def qjp (a_0:RAT) (b_1:RAT):Option Bool :=
 (qkE a_0 b_1).bind fun r1=>some (decide (r1=0))
def c19:Ctr:=⟨[(tRAT,.imm),(tRAT,.imm)],[(.bool,false)],Bool,fun x=>qjp x.1 x.2.1,fun r=>((),(r,())),none⟩
abbrev qjv:SG:=⟨[(0,.v (.sl (.int .u64))),(1,.v (.sl (.int .u64))),(5,.o (.int .u64) 47),(6,.v (.int .u64)),(20,.v (.int .i64)),(21,.v (.int .i64))],[],[],[]⟩
abbrev qkX:List (Ex×SG):=[(.exit 0,⟨[(5,.o (.int .u64) 47)],[],[],[]⟩)]
abbrev qq1:=(((List Int)×(List Int)×(List Int)×Int×Int×Int×Unit)×Unit)
abbrev qq0:=(((List Int)×Unit)×Unit)
def qg4 (g:qq1->Option qq0):qq1->Option qq0
 | ((a_0,b_1,out_5,carry_6,v_20,v_21,_),_)=>bif (decide (v_21<v_20)) then ((qii a_0 v_21).bind fun r3=>(qii b_1 v_21).bind fun r4=>bif decide (0<=v_21)&&decide (v_21<(out_5.length:Int)) then (out_5[v_21.toNat]?).bind fun _=>g ((a_0,b_1,(out_5.set v_21.toNat (iand .u64 (iadd .u64 carry_6 (iadd .u64 r3 r4)) 4294967295)),(shrV .u64 (iadd .u64 carry_6 (iadd .u64 r3 r4)) 32),v_20,(iadd .i64 v_21 1),()),()) else none) else (some ((out_5,()),()))
def qp9 (a_0:List Int) (b_1:List Int):Option (List Int) :=
 (qcu a_0).bind fun r1=>(qcu b_1).bind fun r2=>bif decide ((iadd .i64 (mx (r1.length:Int) (r2.length:Int)) 1)=(iadd .i64 (mx (r1.length:Int) (r2.length:Int)) 1))&&decide (0<=(iadd .i64 (mx (r1.length:Int) (r2.length:Int)) 1))&&decide (((8:Nat):Int)*(iadd .i64 (mx (r1.length:Int) (r2.length:Int)) 1)<=281474976710656)&&decide ((iadd .i64 (mx (r1.length:Int) (r2.length:Int)) 1)<=9223372036854775807) then (lp qg4 K0 ((r1,r2,(ja (iadd .i64 (mx (r1.length:Int) (r2.length:Int)) 1).toNat (0:Int)),0,((ja (iadd .i64 (mx (r1.length:Int) (r2.length:Int)) 1).toNat (0:Int)).length:Int),0,()),())).bind fun t6=>(qfp t6.1.1).bind fun r7=>some r7 else none
def c86:Ctr:=⟨[((.sl (.int .u64)),.imm),((.sl (.int .u64)),.imm)],[((.sl (.int .u64)),true)],(List Int),fun x=>qp9 x.1 x.2.1,fun r=>((),(r,())),none⟩
def qmC (a_0:List Int) (b_1:List Int):Option ((List Int)×Int) :=
 (qcu a_0).bind fun r1=>(qcu b_1).bind fun r2=>(qix r1 r2).bind fun r3=>bif (decide (r3<0)) then (some ([],3)) else ((qhg r1 r2).bind fun r4=>some (r4,0))
def c88:Ctr:=⟨[((.sl (.int .u64)),.imm),((.sl (.int .u64)),.imm)],[((.sl (.int .u64)),true),((.int .i64),false)],(List Int)×Int,fun x=>qmC x.1 x.2.1,fun r=>((),(r.1,r.2,())),none⟩
def ql9 (a_0:WH) (b_1:WH):Option WH :=
 (qbX a_0).bind fun r1=>(qbX b_1).bind fun r2=>bif (r1.1 == r2.1) then ((qp9 r1.2 r2.2).bind fun r3=>(qex r1.1 r3).bind fun r4=>some r4) else ((qiW r1.2 r2.2).bind fun r5=>bif (decide (r5<0)) then ((qmC r2.2 r1.2).bind fun r6=>(qex r2.1 r6.1).bind fun r7=>some r7) else ((qmC r1.2 r2.2).bind fun r8=>(qex r1.1 r8.1).bind fun r9=>some r9))
def c56:Ctr:=⟨[(tWH,.imm),(tWH,.imm)],[(tWH,false)],WH,fun x=>ql9 x.1 x.2.1,fun r=>((),(r,())),none⟩
def qaU (a_0:RAT) (b_1:RAT):Option RAT :=
 (qbK a_0).bind fun r1=>(qbK b_1).bind fun r2=>(qgn r2).bind fun r3=>(qey r1.1 r3).bind fun r4=>(qgn r1).bind fun r5=>(qey r2.1 r5).bind fun r6=>(ql9 r4 r6).bind fun r7=>(qmE r1.2 r2.2).bind fun r8=>(qfk r7 r8).bind fun r9=>some r9
def c34:Ctr:=⟨[(tRAT,.imm),(tRAT,.imm)],[(tRAT,false)],RAT,fun x=>qaU x.1 x.2.1,fun r=>((),(r,())),none⟩
abbrev qfX:SG:=⟨[(0,.v (.sl qbv)),(6,.v (.sl qbv)),(7,.v (.int .i64)),(8,.v (.int .i64))],[],[],[]⟩
abbrev qg8:List (Ex×SG):=[(.exit 0,⟨[],[],[],[]⟩),(.ret,⟨[(2,.v (.int .i64)),(3,.v (.int .i64))],[],[],[]⟩)]
def qbV (g:(((List NODE)×(List NODE)×Int×Int×Unit)×Unit)->Option ((Unit×Unit) ⊕ ((Int×Int×Unit)×Unit))):(((List NODE)×(List NODE)×Int×Int×Unit)×Unit)->Option ((Unit×Unit) ⊕ ((Int×Int×Unit)×Unit))
 | ((t_0,v_6,v_7,v_8,_),_)=>bif (decide (v_8<v_7)) then (bif decide (0<=v_8) then (v_6[v_8.toNat]?).bind fun x1=>bif (!x1.1) then (bif decide (0<=x1.2.2.2.1) then (t_0[x1.2.2.2.1.toNat]?).bind fun x2=>bif decide (0<=x1.2.2.2.2.1) then (t_0[x1.2.2.2.2.1.toNat]?).bind fun x3=>(qaU x2.2.2.2.2.2.2.2 x3.2.2.2.2.2.2.2).bind fun r4=>(qjp x1.2.2.2.2.2.2.2 r4).bind fun r5=>bif (!r5) then (some (.inr ((v_8,13,()),()))) else (g ((t_0,v_6,v_7,(iadd .i64 v_8 1),()),())) else none else none) else (g ((t_0,v_6,v_7,(iadd .i64 v_8 1),()),())) else none) else (some (.inl ((()),())))
def qjk (t_0:List NODE):Option (Int×Int) :=
 (lp qbV K0 ((t_0,t_0,(t_0.length:Int),0,()),())).bind fun t6=>(match t6 with | .inl t7=>some (0,0) | .inr t8=>some (t8.1.1,t8.1.2.1))
def c70:Ctr:=⟨[((.sl qbv),.imm)],[((.int .i64),false),((.int .i64),false)],Int×Int,fun x=>qjk x.1,fun r=>((),(r.1,r.2,())),none⟩
def qgF (e_0:Int) (tree_1:Int) (node_2:Int):Option (Int×Int×Int×Int) :=
 some (e_0,(0,(tree_1,node_2)))
def c71:Ctr:=⟨[((.int .i64),.imm),((.int .i64),.imm),((.int .i64),.imm)],[((.pair (.int .i64) (.pair (.int .i64) (.pair (.int .i64) (.int .i64)))),false)],(Int×Int×Int×Int),fun x=>qgF x.1 x.2.1 x.2.2.1,fun r=>((),(r,())),none⟩
abbrev qfh:SG:=⟨[(1,.p 8 0 0),(2,.p 16 0 0),(3,.v (.int .i64)),(12,.v (.int .i64)),(16,.v (.sl (.sl qbv))),(17,.v (.int .i64)),(18,.v (.int .i64))],[(8,[.v (.int .i64),.v (.sl (.sl qbv))]),(16,[.v (.int .i64),.v (.int .i64),.v (.int .i64),.v (.int .i64)])],[],[]⟩
abbrev qgk:List (Ex×SG):=[(.exit 2,⟨[(1,.p 8 0 0),(2,.p 16 0 0),(12,.v (.int .i64))],[(8,[.v (.int .i64),.v (.sl (.sl qbv))]),(16,[.v (.int .i64),.v (.int .i64),.v (.int .i64),.v (.int .i64)])],[],[]⟩),(.ret,⟨[(2,.p 16 0 0)],[(16,[.v (.int .i64),.v (.int .i64),.v (.int .i64),.v (.int .i64)])],[],[]⟩)]
abbrev qlS:=((Int×Int×(List (List NODE))×Int×Int×Unit)×((Int×(List (List NODE))×Unit)×(Int×Int×Int×Int×Unit)×Unit))
abbrev qlR:=(((Int×Unit)×((Int×(List (List NODE))×Unit)×(Int×Int×Int×Int×Unit)×Unit)) ⊕ (Unit×((Int×Int×Int×Int×Unit)×Unit)))
def qaJ (g:qlS->Option qlR):qlS->Option qlR
 | ((rule_3,v_12,v_16,v_17,v_18,_),((b8_0,b8_1,_),(b16_0,b16_1,b16_2,b16_3,_),_))=>bif (decide (v_18<v_17)) then (bif decide (0<=v_18) then (v_16[v_18.toNat]?).bind fun x2=>bif (decide (rule_3=0)) then ((qgP x2 b8_0).bind fun r3=>bif (!decide (r3.2=0)) then ((qgF r3.2 v_18 r3.1).bind fun r4=>some (.inr ((()),((r4.1,r4.2.1,r4.2.2.1,r4.2.2.2,()),())))) else (g ((rule_3,v_12,v_16,v_17,(iadd .i64 v_18 1),()),((b8_0,b8_1,()),(b16_0,b16_1,b16_2,b16_3,()),())))) else (bif (decide (rule_3=1)) then ((qjB x2).bind fun r5=>bif (!decide (r5.2=0)) then ((qgF r5.2 v_18 r5.1).bind fun r6=>some (.inr ((()),((r6.1,r6.2.1,r6.2.2.1,r6.2.2.2,()),())))) else (g ((rule_3,v_12,v_16,v_17,(iadd .i64 v_18 1),()),((b8_0,b8_1,()),(b16_0,b16_1,b16_2,b16_3,()),())))) else (bif (decide (rule_3=2)) then ((qgQ x2).bind fun r7=>bif (!decide (r7.2=0)) then ((qgF r7.2 v_18 r7.1).bind fun r8=>some (.inr ((()),((r8.1,r8.2.1,r8.2.2.1,r8.2.2.2,()),())))) else (g ((rule_3,v_12,v_16,v_17,(iadd .i64 v_18 1),()),((b8_0,b8_1,()),(b16_0,b16_1,b16_2,b16_3,()),())))) else (bif (decide (rule_3=3)) then ((qjk x2).bind fun r9=>bif (!decide (r9.2=0)) then ((qgF r9.2 v_18 r9.1).bind fun r10=>some (.inr ((()),((r10.1,r10.2.1,r10.2.2.1,r10.2.2.2,()),())))) else (g ((rule_3,v_12,v_16,v_17,(iadd .i64 v_18 1),()),((b8_0,b8_1,()),(b16_0,b16_1,b16_2,b16_3,()),())))) else (bif (!decide ((0:Int)=0)) then ((qgF 0 v_18 0).bind fun r11=>some (.inr ((()),((r11.1,r11.2.1,r11.2.2.1,r11.2.2.2,()),())))) else (g ((rule_3,v_12,v_16,v_17,(iadd .i64 v_18 1),()),((b8_0,b8_1,()),(b16_0,b16_1,b16_2,b16_3,()),()))))))) else none) else (some (.inl ((v_12,()),((b8_0,b8_1,()),(b16_0,b16_1,b16_2,b16_3,()),()))))
abbrev qfi:SG:=⟨[(1,.p 8 0 0),(2,.p 16 0 0),(12,.v (.int .i64))],[(8,[.v (.int .i64),.v (.sl (.sl qbv))]),(16,[.v (.int .i64),.v (.int .i64),.v (.int .i64),.v (.int .i64)])],[],[]⟩
abbrev qgl:List (Ex×SG):=[(.exit 0,⟨[(2,.p 16 0 0)],[(16,[.v (.int .i64),.v (.int .i64),.v (.int .i64),.v (.int .i64)])],[],[]⟩),(.ret,⟨[(2,.p 16 0 0)],[(16,[.v (.int .i64),.v (.int .i64),.v (.int .i64),.v (.int .i64)])],[],[]⟩)]
abbrev qlU:=((Int×Unit)×((Int×(List (List NODE))×Unit)×(Int×Int×Int×Int×Unit)×Unit))
abbrev qlT:=((Unit×((Int×Int×Int×Int×Unit)×Unit)) ⊕ (Unit×((Int×Int×Int×Int×Unit)×Unit)))
def qbT (g:qlU->Option qlT):qlU->Option qlT
 | ((v_12,_),((b8_0,b8_1,_),(b16_0,b16_1,b16_2,b16_3,_),_))=>bif (decide (v_12<4)) then ((lp qaJ K0 ((v_12,v_12,b8_1,(b8_1.length:Int),0,()),((b8_0,b8_1,()),(b16_0,b16_1,b16_2,b16_3,()),()))).bind fun t12=>(match t12 with | .inl t13=>g (((iadd .i64 t13.1.1 1),()),((t13.2.1.1,t13.2.1.2.1,()),(t13.2.2.1.1,t13.2.2.1.2.1,t13.2.2.1.2.2.1,t13.2.2.1.2.2.2.1,()),())) | .inr t14=>some (.inr ((()),((t14.2.1.1,t14.2.1.2.1,t14.2.1.2.2.1,t14.2.1.2.2.2.1,()),()))))) else (some (.inl ((()),((b16_0,b16_1,b16_2,b16_3,()),()))))
def qhV (m_0:qas):Option (Int×Int×Int×Int) :=
 (qkY m_0).bind fun r1=>bif (!r1) then (some (1,(0,(0,0)))) else ((lp qbT K0 ((0,()),((m_0.1,m_0.2,()),(0,0,0,0,()),()))).bind fun t15=>(match t15 with | .inl t16=>some (0,(0,(0,0))) | .inr t17=>some (t17.2.1.1,(t17.2.1.2.1,(t17.2.1.2.2.1,t17.2.1.2.2.2.1)))))
def c44:Ctr:=⟨[(qfB,.imm)],[((.pair (.int .i64) (.pair (.int .i64) (.pair (.int .i64) (.int .i64)))),false)],(Int×Int×Int×Int),fun x=>qhV x.1,fun r=>((),(r,())),none⟩
def qfn (m_0:qas):Option Bool :=
 (qhV m_0).bind fun r1=>some (decide (r1.1=0)&&(decide (r1.2.1=0)&&(decide (r1.2.2.1=0)&&(decide (r1.2.2.2=0)&&true))))
def c15:Ctr:=⟨[(qfB,.imm)],[(.bool,false)],Bool,fun x=>qfn x.1,fun r=>((),(r,())),none⟩
def qgE (m_0:qas) (row_1:List CELL):Option Int :=
 (qfn m_0).bind fun r1=>bif (!r1) then (some 1) else (bif (!decide ((row_1.length:Int)=m_0.1)) then (some 14) else (some 0))
def c5:Ctr:=⟨[(qfB,.imm),((.sl qay),.imm)],[((.int .i64),false)],Int,fun x=>qgE x.1 x.2.1,fun r=>((),(r,())),none⟩
def qig (n_0:Int):Option WH :=
 bif (decide (n_0<0)) then ((qmD (ineg .u64 (IntKind.wrap .u64 n_0))).bind fun r1=>(qex true r1).bind fun r2=>some r2) else ((qmD (IntKind.wrap .u64 n_0)).bind fun r3=>(qex false r3).bind fun r4=>some r4)
def c45:Ctr:=⟨[((.int .i64),.imm)],[(tWH,false)],WH,fun x=>qig x.1,fun r=>((),(r,())),none⟩
def qj7 (n_0:Int):Option RAT :=
 (qig n_0).bind fun r1=>(qmD 1).bind fun r2=>some (r1,r2)
def c17:Ctr:=⟨[((.int .i64),.imm)],[(tRAT,false)],RAT,fun x=>qj7 x.1,fun r=>((),(r,())),none⟩
def qhc :Option RAT :=
 (qj7 1).bind fun r1=>some r1
def c16:Ctr:=⟨[],[(tRAT,false)],RAT,fun x=>qhc ,fun r=>((),(r,())),none⟩
def qko (a_0:WH):Option WH :=
 (qbX a_0).bind fun r1=>(qex (!r1.1) r1.2).bind fun r2=>some r2
def c60:Ctr:=⟨[(tWH,.imm)],[(tWH,false)],WH,fun x=>qko x.1,fun r=>((),(r,())),none⟩
def qjG (a_0:RAT):Option RAT :=
 (qbK a_0).bind fun r1=>(qko r1.1).bind fun r2=>some (r2,r1.2)
def c39:Ctr:=⟨[(tRAT,.imm)],[(tRAT,false)],RAT,fun x=>qjG x.1,fun r=>((),(r,())),none⟩
def qcZ (a_0:RAT) (b_1:RAT):Option RAT :=
 (qjG b_1).bind fun r1=>(qaU a_0 r1).bind fun r2=>some r2
def c11:Ctr:=⟨[(tRAT,.imm),(tRAT,.imm)],[(tRAT,false)],RAT,fun x=>qcZ x.1 x.2.1,fun r=>((),(r,())),none⟩
def qhY (num_0:WH) (den_1:WH):Option (RAT×Int) :=
 (qbX num_0).bind fun r1=>(qbX den_1).bind fun r2=>(qjj r2).bind fun r3=>bif (decide (r3=0)) then (some (((false,[]),[]),2)) else (bif r2.1 then ((qko r1).bind fun r4=>(qfk r4 r2.2).bind fun r5=>some (r5,0)) else ((qfk r1 r2.2).bind fun r6=>some (r6,0)))
def c48:Ctr:=⟨[(tWH,.imm),(tWH,.imm)],[(tRAT,false),((.int .i64),false)],RAT×Int,fun x=>qhY x.1 x.2.1,fun r=>((),(r.1,r.2,())),none⟩
def qdc (n_0:Int) (d_1:Int):Option RAT :=
 (qig n_0).bind fun r1=>(qig d_1).bind fun r2=>(qhY r1 r2).bind fun r3=>(qbK r3.1).bind fun r4=>some r4
def c20:Ctr:=⟨[((.int .i64),.imm),((.int .i64),.imm)],[(tRAT,false)],RAT,fun x=>qdc x.1 x.2.1,fun r=>((),(r,())),none⟩
def qaj (a_0:RAT) (b_1:RAT):Option RAT :=
 (qbK a_0).bind fun r1=>(qbK b_1).bind fun r2=>(qey r1.1 r2.1).bind fun r3=>(qmE r1.2 r2.2).bind fun r4=>(qfk r3 r4).bind fun r5=>some r5
def c35:Ctr:=⟨[(tRAT,.imm),(tRAT,.imm)],[(tRAT,false)],RAT,fun x=>qaj x.1 x.2.1,fun r=>((),(r,())),none⟩
def qfj (m_0:qas) (row_1:List CELL):Option Int :=
 (qfn m_0).bind fun r1=>bif (!r1) then (some 1) else (bif (!decide ((row_1.length:Int)=m_0.1)) then (some 14) else (some 0))
def c52:Ctr:=⟨[(qfB,.imm),((.sl qay),.imm)],[((.int .i64),false)],Int,fun x=>qfj x.1 x.2.1,fun r=>((),(r,())),none⟩
def qcC (m_0:qas) (row_1:List CELL):Option Int :=
 (qfj m_0 row_1).bind fun r1=>some r1
def c26:Ctr:=⟨[(qfB,.imm),((.sl qay),.imm)],[((.int .i64),false)],Int,fun x=>qcC x.1 x.2.1,fun r=>((),(r,())),none⟩
abbrev qdF:SG:=⟨[(3,.o tRAT 31),(4,.v (.int .i64)),(5,.v (.int .i64))],[],[],[]⟩
abbrev qeI:List (Ex×SG):=[(.exit 0,⟨[(3,.o tRAT 31)],[],[],[]⟩)]
def qbB (g:(((List RAT)×Int×Int×Unit)×Unit)->Option (((List RAT)×Unit)×Unit)):(((List RAT)×Int×Int×Unit)×Unit)->Option (((List RAT)×Unit)×Unit)
 | ((out_3,v_4,v_5,_),_)=>bif (decide (v_5<v_4)) then ((qdE ).bind fun r1=>bif j9 ((out_3.length+1)*56) 140737488355328&&!false then g (((out_3++([r1]:List RAT)),v_4,(iadd .i64 v_5 1),()),()) else none) else (some ((out_3,()),()))
def qgo (n_0:Int):Option (List RAT) :=
 (lp qbB K0 (([],n_0,0,()),())).bind fun t2=>some t2.1.1
def c78:Ctr:=⟨[((.int .i64),.imm)],[((.sl tRAT),true)],(List RAT),fun x=>qgo x.1,fun r=>((),(r,())),none⟩
def qit :Option (List (Int×RAT×CELL)) :=
 (qhc ).bind fun r1=>(qhc ).bind fun r2=>some ([((-1),(r1,(true,r2)))]:List (Int×RAT×CELL))
abbrev w101:Wir:=⟨[],[],0,some 1,[],[],0⟩
def c101:Ctr:=⟨[],[((.sl (.pair (.int .i64) (.pair tRAT qay))),true)],(List (Int×RAT×CELL)),fun x=>qit ,fun r=>((),(r,())),some w101⟩
abbrev qb4:SG:=⟨[(0,.p 232 0 0),(1,.v (.int .i64)),(13,.v (.int .i64)),(14,.v (.int .i64))],[(232,[.o (.pair (.int .i64) (.pair tRAT qay)) 1232])],[(12,(232,0))],[]⟩
abbrev qc0:List (Ex×SG):=[(.exit 0,⟨[(0,.p 232 0 0)],[(232,[.o (.pair (.int .i64) (.pair tRAT qay)) 1232])],[],[]⟩),(.ret,⟨[(0,.p 232 0 0),(4,.v (.int .i64))],[(232,[.o (.pair (.int .i64) (.pair tRAT qay)) 1232])],[],[]⟩)]
abbrev qhe:=((Int×Int×Int×Unit)×(((List (Int×RAT×CELL))×Unit)×Unit))
abbrev qhd:=((Unit×(((List (Int×RAT×CELL))×Unit)×Unit)) ⊕ ((Int×Unit)×(((List (Int×RAT×CELL))×Unit)×Unit)))
def qam (g:qhe->Option qhd):qhe->Option qhd
 | ((feature_1,v_13,v_14,_),((b232_0,_),_))=>bif (decide (v_14<v_13)) then (bif decide (0<=v_14)&&decide (v_14<(b232_0.length:Int)) then (b232_0[v_14.toNat]?).bind fun x1=>bif (decide (v_14>0)) then (bif (decide (x1.1=feature_1)) then (some (.inr ((v_14,()),((b232_0,()),())))) else (g ((feature_1,v_13,(iadd .i64 v_14 1),()),((b232_0,()),())))) else (g ((feature_1,v_13,(iadd .i64 v_14 1),()),((b232_0,()),()))) else none) else (some (.inl ((()),((b232_0,()),()))))
def qbO (feature_0:Int) (b_1:List (Int×RAT×CELL)):Option (Int×(List (Int×RAT×CELL))) :=
 (lp qam K0 ((feature_0,(b_1.length:Int),0,()),((b_1,()),()))).bind fun t2=>(match t2 with | .inl t3=>some (0,t3.2.1.1) | .inr t4=>some (t4.1.1,t4.2.1.1))
abbrev w123:Wir:=⟨[.b,.x],[[.x]],1,none,[],[],0⟩
def c123:Ctr:=⟨[((.int .i64),.imm),((.sl (.pair (.int .i64) (.pair tRAT qay))),.own)],[((.int .i64),false),((.sl (.pair (.int .i64) (.pair tRAT qay))),true)],Int×(List (Int×RAT×CELL)),fun x=>qbO x.1 x.2.1,fun r=>((),(r.1,r.2,())),some w123⟩
abbrev qbS:SG:=⟨[(0,.p 256 0 0),(3,.o qmc 31),(12,.v (.int .i64)),(13,.v (.int .i64))],[(256,[.o (.pair (.int .i64) (.pair tRAT qay)) 1256])],[(11,(256,0))],[]⟩
abbrev qcM:List (Ex×SG):=[(.exit 0,⟨[(0,.p 256 0 0),(3,.o qmc 31)],[(256,[.o (.pair (.int .i64) (.pair tRAT qay)) 1256])],[],[]⟩)]
abbrev qgV:=(((List PART)×Int×Int×Unit)×(((List (Int×RAT×CELL))×Unit)×Unit))
abbrev qgU:=(((List PART)×Unit)×(((List (Int×RAT×CELL))×Unit)×Unit))
def qaH (g:qgV->Option qgU):qgV->Option qgU
 | ((out_3,v_12,v_13,_),((b256_0,_),_))=>bif (decide (v_13<v_12)) then (bif decide (0<=v_13)&&decide (v_13<(b256_0.length:Int)) then (b256_0[v_13.toNat]?).bind fun x1=>bif (decide (v_13>0)) then (bif j9 ((out_3.length+1)*72) 140737488355328&&!false then g (((out_3++([(x1.1,(x1.2.1,x1.2.2.1))]:List PART)),v_12,(iadd .i64 v_13 1),()),((b256_0,()),())) else none) else (g ((out_3,v_12,(iadd .i64 v_13 1),()),((b256_0,()),()))) else none) else (some ((out_3,()),((b256_0,()),())))
def qcO (b_0:List (Int×RAT×CELL)):Option ((List PART)×(List (Int×RAT×CELL))) :=
 (lp qaH K0 (([],(b_0.length:Int),0,()),((b_0,()),()))).bind fun t2=>some (t2.1.1,t2.2.1.1)
abbrev w124:Wir:=⟨[.b],[[.x]],1,none,[],[],0⟩
def c124:Ctr:=⟨[((.sl (.pair (.int .i64) (.pair tRAT qay))),.own)],[((.sl qmc),true),((.sl (.pair (.int .i64) (.pair tRAT qay))),true)],(List PART)×(List (Int×RAT×CELL)),fun x=>qcO x.1,fun r=>((),(r.1,r.2,())),some w124⟩
def qkD (a_0:RAT):Option (RAT×Int) :=
 (qbK a_0).bind fun r1=>(qgn r1).bind fun r2=>(qhY r2 r1.1).bind fun r3=>some (r3.1,r3.2)
def c138:Ctr:=⟨[(tRAT,.imm)],[(tRAT,false),((.int .i64),false)],RAT×Int,fun x=>qkD x.1,fun r=>((),(r.1,r.2,())),none⟩
abbrev qbr:SG:=⟨[(0,.p 832 0 0),(5,.v (.int .i64)),(6,.p 48 0 0),(7,.o tRAT 63),(8,.p 64 0 0),(10,.p 80 0 0),(11,.v (.int .i64))],[(48,[.v (.int .i64),.v .bool,.v (.sl (.int .u64)),.v (.sl (.int .u64)),.v .bool,.v .bool,.v (.sl (.int .u64)),.v (.sl (.int .u64))]),(64,[.v .bool,.v (.sl (.int .u64)),.v (.sl (.int .u64))]),(80,[.v .bool,.v (.sl (.int .u64)),.v (.sl (.int .u64))]),(832,[.o (.pair (.int .i64) (.pair tRAT qay)) 1832])],[],[]⟩
abbrev qb2:List (Ex×SG):=[(.exit 0,⟨[(0,.p 832 0 0),(7,.o tRAT 63)],[(832,[.o (.pair (.int .i64) (.pair tRAT qay)) 1832])],[],[]⟩)]
abbrev qga:=((Int×(List RAT)×Int×Unit)×((Int×Bool×(List Int)×(List Int)×Bool×Bool×(List Int)×(List Int)×Unit)×(Bool×(List Int)×(List Int)×Unit)×(Bool×(List Int)×(List Int)×Unit)×((List (Int×RAT×CELL))×Unit)×Unit))
abbrev qf9:=(((List RAT)×Unit)×(((List (Int×RAT×CELL))×Unit)×Unit))
def qaq (g:qga->Option qf9):qga->Option qf9
 | ((v_5,v_7,v_11,_),((b48_0,b48_1,b48_2,b48_3,b48_4,b48_5,b48_6,b48_7,_),(b64_0,b64_1,b64_2,_),(b80_0,b80_1,b80_2,_),(b832_0,_),_))=>bif (decide (v_11>=0)) then (bif (!b48_4) then (bif decide (0<=v_11)&&decide (v_11<(b832_0.length:Int)) then (b832_0[v_11.toNat]?).bind fun x4=>(qdc (iadd .i64 v_5 1) (isub .i64 v_5 v_11)).bind fun r5=>(qaj x4.2.2.2 r5).bind fun r6=>(qaj r6 ((b64_0,b64_1),b64_2)).bind fun r7=>bif decide (0<=v_11)&&decide (v_11<(v_7.length:Int)) then (v_7[v_11.toNat]?).bind fun _=>g ((v_5,(v_7.set v_11.toNat r7),(isub .i64 v_11 1),()),((b48_0,b48_1,b48_2,b48_3,b48_4,b48_5,b48_6,b48_7,()),(b64_0,b64_1,b64_2,()),(b80_0,b80_1,b80_2,()),(b832_0,()),())) else none else none) else ((qdc (iadd .i64 v_5 1) (iadd .i64 v_11 1)).bind fun r9=>(qaj ((b80_0,b80_1),b80_2) r9).bind fun r10=>bif decide (0<=v_11)&&decide (v_11<(v_7.length:Int)) then (v_7[v_11.toNat]?).bind fun _=>bif decide (0<=v_11)&&decide (v_11<(b832_0.length:Int)) then (b832_0[v_11.toNat]?).bind fun x12=>bif decide (0<=v_11)&&decide (v_11<((v_7.set v_11.toNat r10).length:Int)) then ((v_7.set v_11.toNat r10)[v_11.toNat]?).bind fun x13=>(qaj x13 ((b48_1,b48_2),b48_3)).bind fun r14=>(qdc (isub .i64 v_5 v_11) (iadd .i64 v_5 1)).bind fun r15=>(qaj r14 r15).bind fun r16=>(qcZ x12.2.2.2 r16).bind fun r17=>g ((v_5,(v_7.set v_11.toNat r10),(isub .i64 v_11 1),()),((b48_0,b48_1,b48_2,b48_3,b48_4,b48_5,b48_6,b48_7,()),(b64_0,b64_1,b64_2,()),(r17.1.1,r17.1.2,r17.2,()),(b832_0,()),())) else none else none else none)) else (some ((v_7,()),((b832_0,()),())))
def qb3 (a_0:Int) (b_1:List (Int×RAT×CELL)):Option ((List RAT)×(List (Int×RAT×CELL))) :=
 bif decide (0<=a_0)&&decide (a_0<(b_1.length:Int)) then (b_1[a_0.toNat]?).bind fun x1=>bif decide ((isub .i64 (b_1.length:Int) 1)=(isub .i64 (b_1.length:Int) 1))&&decide (0<=(isub .i64 (b_1.length:Int) 1))&&decide (((56:Nat):Int)*(isub .i64 (b_1.length:Int) 1)<=281474976710656)&&decide ((isub .i64 (b_1.length:Int) 1)<=9223372036854775807) then (qkD x1.2.1).bind fun r2=>bif decide (0<=(isub .i64 (b_1.length:Int) 1))&&decide ((isub .i64 (b_1.length:Int) 1)<(b_1.length:Int)) then (b_1[(isub .i64 (b_1.length:Int) 1).toNat]?).bind fun x3=>(lp qaq K0 (((isub .i64 (b_1.length:Int) 1),(ja (isub .i64 (b_1.length:Int) 1).toNat (((false,[]),[]):RAT)),(isub .i64 (isub .i64 (b_1.length:Int) 1) 1),()),((x1.1,x1.2.1.1.1,x1.2.1.1.2,x1.2.1.2,x1.2.2.1,x1.2.2.2.1.1,x1.2.2.2.1.2,x1.2.2.2.2,()),(r2.1.1.1,r2.1.1.2,r2.1.2,()),(x3.2.2.2.1.1,x3.2.2.2.1.2,x3.2.2.2.2,()),(b_1,()),()))).bind fun t18=>some (t18.1.1,t18.2.1.1) else none else none else none
abbrev w137:Wir:=⟨[.b,.x],[[.x]],1,none,[],[],0⟩
def c137:Ctr:=⟨[((.int .i64),.imm),((.sl (.pair (.int .i64) (.pair tRAT qay))),.own)],[((.sl tRAT),true),((.sl (.pair (.int .i64) (.pair tRAT qay))),true)],(List RAT)×(List (Int×RAT×CELL)),fun x=>qb3 x.1 x.2.1,fun r=>((),(r.1,r.2,())),some w137⟩
abbrev qbF:SG:=⟨[(0,.p 528 0 0),(5,.o tRAT 47),(6,.o (.pair (.int .i64) (.pair tRAT qay)) 55),(49,.v (.int .i64)),(50,.v (.int .i64))],[(528,[.o (.pair (.int .i64) (.pair tRAT qay)) 1528])],[],[]⟩
abbrev qcr:List (Ex×SG):=[(.exit 0,⟨[(0,.p 528 0 0),(6,.o (.pair (.int .i64) (.pair tRAT qay)) 55)],[(528,[.o (.pair (.int .i64) (.pair tRAT qay)) 1528])],[],[]⟩)]
abbrev qgw:=(((List RAT)×(List (Int×RAT×CELL))×Int×Int×Unit)×(((List (Int×RAT×CELL))×Unit)×Unit))
abbrev qgv:=(((List (Int×RAT×CELL))×Unit)×(((List (Int×RAT×CELL))×Unit)×Unit))
def qaz (g:qgw->Option qgv):qgw->Option qgv
 | ((v_5,v_6,v_49,v_50,_),((b528_0,_),_))=>bif (decide (v_50<v_49)) then (bif decide (0<=v_50)&&decide (v_50<(v_5.length:Int)) then (v_5[v_50.toNat]?).bind fun x2=>bif decide (0<=v_50)&&decide (v_50<(v_6.length:Int)) then (v_6[v_50.toNat]?).bind fun x3=>g ((v_5,(v_6.set v_50.toNat (x3.1,(x3.2.1,(x3.2.2.1,x2)))),v_49,(iadd .i64 v_50 1),()),((b528_0,()),())) else none else none) else (some ((v_6,()),((b528_0,()),())))
def qcE (a_0:Int) (b_1:List (Int×RAT×CELL)):Option (Int×(List (Int×RAT×CELL))) :=
 bif (decide ((b_1.length:Int)=0)) then (some (18,b_1)) else (bif (decide (a_0<1)) then (some (8,b_1)) else (bif (decide (a_0>=(b_1.length:Int))) then (some (8,b_1)) else ((qb3 a_0 b_1).bind fun r1=>bif decide ((0:Int)<=a_0)&&decide ((a_0:Int)<=a_0)&&decide ((a_0:Int)<=(r1.2.length:Int)) then bif j9 ((([]:List (Int×RAT×CELL)).length+(r1.2.take ((a_0-0).toNat)).length)*128) 140737488355328&&!false then bif decide (0<=(iadd .i64 a_0 1))&&decide (((iadd .i64 a_0 1):Int)<=(r1.2.length:Int)) then bif j9 (((([]:List (Int×RAT×CELL))++(r1.2.take ((a_0-0).toNat))).length+(r1.2.drop ((iadd .i64 a_0 1).toNat)).length)*128) 140737488355328&&!false then (lp qaz K0 ((r1.1,((([]:List (Int×RAT×CELL))++(r1.2.take ((a_0-0).toNat)))++(r1.2.drop ((iadd .i64 a_0 1).toNat))),(((([]:List (Int×RAT×CELL))++(r1.2.take ((a_0-0).toNat)))++(r1.2.drop ((iadd .i64 a_0 1).toNat))).length:Int),0,()),((r1.2,()),()))).bind fun t4=>some (0,t4.1.1) else none else none else none else none)))
abbrev w125:Wir:=⟨[.b,.x],[[.x]],1,none,[],[],0⟩
def c125:Ctr:=⟨[((.int .i64),.imm),((.sl (.pair (.int .i64) (.pair tRAT qay))),.own)],[((.int .i64),false),((.sl (.pair (.int .i64) (.pair tRAT qay))),true)],Int×(List (Int×RAT×CELL)),fun x=>qcE x.1 x.2.1,fun r=>((),(r.1,r.2,())),some w125⟩
abbrev qbs:SG:=⟨[(0,.p 904 0 0),(3,.v .bool),(6,.p 48 0 0),(9,.v (.int .i64)),(10,.v (.int .i64))],[(48,[.v .bool,.v (.sl (.int .u64)),.v (.sl (.int .u64))]),(904,[.o (.pair (.int .i64) (.pair tRAT qay)) 1904])],[],[]⟩
abbrev qb5:List (Ex×SG):=[(.exit 1,⟨[(0,.p 904 0 0)],[(904,[.o (.pair (.int .i64) (.pair tRAT qay)) 1904])],[],[]⟩)]
abbrev qgc:=((Bool×Int×Int×Unit)×((Bool×(List Int)×(List Int)×Unit)×((List (Int×RAT×CELL))×Unit)×Unit))
abbrev qgb:=(Unit×(((List (Int×RAT×CELL))×Unit)×Unit))
def qar (g:qgc->Option qgb):qgc->Option qgb
 | ((v_3,v_9,v_10,_),((b48_0,b48_1,b48_2,_),(b904_0,_),_))=>bif (decide (v_10>=0)) then (bif decide (0<=v_10)&&decide (v_10<(b904_0.length:Int)) then (b904_0[v_10.toNat]?).bind fun x5=>bif v_3 then (bif decide (0<=(iadd .i64 v_10 1))&&decide ((iadd .i64 v_10 1)<(b904_0.length:Int)) then (b904_0[(iadd .i64 v_10 1).toNat]?).bind fun x6=>(qdc (iadd .i64 v_10 1) (iadd .i64 v_9 1)).bind fun r7=>(qaj x5.2.2.2 r7).bind fun r8=>(qaU x6.2.2.2 r8).bind fun r9=>bif decide (0<=(iadd .i64 v_10 1))&&decide ((iadd .i64 v_10 1)<(b904_0.length:Int)) then (b904_0[(iadd .i64 v_10 1).toNat]?).bind fun x10=>(qaj ((b48_0,b48_1),b48_2) x5.2.2.2).bind fun r11=>(qdc (isub .i64 v_9 v_10) (iadd .i64 v_9 1)).bind fun r12=>(qaj r11 r12).bind fun r13=>bif decide (0<=v_10)&&decide (v_10<((b904_0.set ((iadd .i64 v_10 1).toNat) (x10.1,(x10.2.1,(x10.2.2.1,r9)))).length:Int)) then ((b904_0.set ((iadd .i64 v_10 1).toNat) (x10.1,(x10.2.1,(x10.2.2.1,r9))))[v_10.toNat]?).bind fun x14=>g ((v_3,v_9,(isub .i64 v_10 1),()),((b48_0,b48_1,b48_2,()),(((b904_0.set ((iadd .i64 v_10 1).toNat) (x10.1,(x10.2.1,(x10.2.2.1,r9)))).set v_10.toNat (x14.1,(x14.2.1,(x14.2.2.1,r13)))),()),())) else none else none else none) else ((qaj ((b48_0,b48_1),b48_2) x5.2.2.2).bind fun r15=>(qdc (isub .i64 v_9 v_10) (iadd .i64 v_9 1)).bind fun r16=>(qaj r15 r16).bind fun r17=>bif decide (0<=v_10)&&decide (v_10<(b904_0.length:Int)) then (b904_0[v_10.toNat]?).bind fun x18=>g ((v_3,v_9,(isub .i64 v_10 1),()),((b48_0,b48_1,b48_2,()),((b904_0.set v_10.toNat (x18.1,(x18.2.1,(x18.2.2.1,r17)))),()),())) else none) else none) else (some ((()),((b904_0,()),())))
def qaW (a_0:Int) (a_1:RAT) (a_2:Bool) (b_3:List (Int×RAT×CELL)):Option (Int×(List (Int×RAT×CELL))) :=
 bif (decide ((b_3.length:Int)=0)) then (some (18,b_3)) else (bif (decide (a_0<0)) then (some (1,b_3)) else ((qbO a_0 b_3).bind fun r1=>bif (decide (r1.1>0)) then (some (1,r1.2)) else ((qjo a_1).bind fun r2=>bif (decide (r2<=0)) then (some (8,r1.2)) else ((qbK a_1).bind fun r3=>(qdE ).bind fun r4=>bif j9 ((r1.2.length+1)*128) 140737488355328&&!false then (lp qar K0 ((a_2,(r1.2.length:Int),(isub .i64 (r1.2.length:Int) 1),()),((a_1.1.1,a_1.1.2,a_1.2,()),((r1.2++([(a_0,(r3,(a_2,r4)))]:List (Int×RAT×CELL))),()),()))).bind fun t19=>some (0,t19.2.1.1) else none))))
abbrev w126:Wir:=⟨[.b,.x,.x,.x],[[.x]],1,none,[],[],0⟩
def c126:Ctr:=⟨[((.int .i64),.imm),(tRAT,.imm),(.bool,.imm),((.sl (.pair (.int .i64) (.pair tRAT qay))),.own)],[((.int .i64),false),((.sl (.pair (.int .i64) (.pair tRAT qay))),true)],Int×(List (Int×RAT×CELL)),fun x=>qaW x.1 x.2.1 x.2.2.1 x.2.2.2.1,fun r=>((),(r.1,r.2,())),some w126⟩
def qa7 (b_0:Int) (b_1:Bool) (b_2:List Int) (b_3:List Int) (b_4:Int) (b_5:Bool) (b_6:List Int) (b_7:List Int) (b_8:Bool) (b_9:List (Int×RAT×CELL)):Option (Int×Bool×(List Int)×(List Int)×Int×Bool×(List Int)×(List Int)×Bool×(List (Int×RAT×CELL))) :=
 bif (decide (b_4<0)) then (some (b_0,b_1,b_2,b_3,b_4,b_5,b_6,b_7,b_8,b_9)) else ((qbO b_4 b_9).bind fun r1=>bif (decide (r1.1>0)) then ((qcO r1.2).bind fun r2=>bif decide (0<=(isub .i64 r1.1 1))&&decide ((isub .i64 r1.1 1)<(r2.1.length:Int)) then (r2.1[(isub .i64 r1.1 1).toNat]?).bind fun x3=>(qaj ((b_5,b_6),b_7) x3.2.1).bind fun r4=>bif b_8 then ((qcE r1.1 r2.2).bind fun r5=>(qaW b_4 r4 x3.2.2 r5.2).bind fun r6=>some (b_0,b_1,b_2,b_3,b_4,b_5,b_6,b_7,b_8,r6.2)) else ((qcE r1.1 r2.2).bind fun r7=>(qaW b_4 r4 false r7.2).bind fun r8=>some (b_0,b_1,b_2,b_3,b_4,b_5,b_6,b_7,b_8,r8.2)) else none) else ((qaW b_4 ((b_5,b_6),b_7) b_8 r1.2).bind fun r9=>some (b_0,b_1,b_2,b_3,b_4,b_5,b_6,b_7,b_8,r9.2)))
abbrev w102:Wir:=⟨[.b],[[.x,.b,.x,.x,.x,.x,.x,.x,.x,.x],[.x]],0,none,[],[],0⟩
def c102:Ctr:=⟨[((.int .i64),.imm),(.bool,.imm),((.sl (.int .u64)),.imm),((.sl (.int .u64)),.imm),((.int .i64),.imm),(.bool,.imm),((.sl (.int .u64)),.imm),((.sl (.int .u64)),.imm),(.bool,.imm),((.sl (.pair (.int .i64) (.pair tRAT qay))),.own)],[((.int .i64),false),(.bool,false),((.sl (.int .u64)),false),((.sl (.int .u64)),false),((.int .i64),false),(.bool,false),((.sl (.int .u64)),false),((.sl (.int .u64)),false),(.bool,false),((.sl (.pair (.int .i64) (.pair tRAT qay))),true)],Int×Bool×(List Int)×(List Int)×Int×Bool×(List Int)×(List Int)×Bool×(List (Int×RAT×CELL)),fun x=>qa7 x.1 x.2.1 x.2.2.1 x.2.2.2.1 x.2.2.2.2.1 x.2.2.2.2.2.1 x.2.2.2.2.2.2.1 x.2.2.2.2.2.2.2.1 x.2.2.2.2.2.2.2.2.1 x.2.2.2.2.2.2.2.2.2.1,fun r=>((),(r.1,r.2.1,r.2.2.1,r.2.2.2.1,r.2.2.2.2.1,r.2.2.2.2.2.1,r.2.2.2.2.2.2.1,r.2.2.2.2.2.2.2.1,r.2.2.2.2.2.2.2.2.1,r.2.2.2.2.2.2.2.2.2,())),some w102⟩
abbrev qgR:SG:=⟨[(2,.p 16 0 0),(3,.p 24 0 0),(7,.v (.sl tRAT)),(8,.v (.int .i64)),(9,.v (.int .i64))],[(16,[.v .bool,.o (.int .u64) 18,.o (.int .u64) 19]),(24,[.v .bool,.v (.sl (.int .u64)),.v (.sl (.int .u64))])],[],[]⟩
abbrev qiq:List (Ex×SG):=[(.exit 0,⟨[(2,.p 16 0 0),(3,.p 24 0 0)],[(16,[.v .bool,.o (.int .u64) 18,.o (.int .u64) 19]),(24,[.v .bool,.v (.sl (.int .u64)),.v (.sl (.int .u64))])],[],[]⟩)]
abbrev qoa:=(((List RAT)×Int×Int×Unit)×((Bool×(List Int)×(List Int)×Unit)×(Bool×(List Int)×(List Int)×Unit)×Unit))
abbrev qn9:=(Unit×((Bool×(List Int)×(List Int)×Unit)×(Bool×(List Int)×(List Int)×Unit)×Unit))
def qd5 (g:qoa->Option qn9):qoa->Option qn9
 | ((v_7,v_8,v_9,_),((b16_0,b16_1,b16_2,_),(b24_0,b24_1,b24_2,_),_))=>bif (decide (v_9<v_8)) then (bif decide (0<=v_9) then (v_7[v_9.toNat]?).bind fun x2=>(qaU ((b24_0,b24_1),b24_2) x2).bind fun r3=>g ((v_7,v_8,(iadd .i64 v_9 1),()),((b16_0,b16_1,b16_2,()),(r3.1.1,r3.1.2,r3.2,()),())) else none) else (some ((()),((b16_0,b16_1,b16_2,()),(b24_0,b24_1,b24_2,()),())))
def qkC (l_0:List RAT):Option RAT :=
 (qdE ).bind fun r1=>(lp qd5 K0 ((l_0,(l_0.length:Int),0,()),((false,[],[],()),(r1.1.1,r1.1.2,r1.2,()),()))).bind fun t4=>some ((t4.2.2.1.1,t4.2.2.1.2.1),t4.2.2.1.2.2.1)
def c25:Ctr:=⟨[((.sl tRAT),.imm)],[(tRAT,false)],RAT,fun x=>qkC x.1,fun r=>((),(r,())),none⟩
def qeL (at_0:Int) (b_1:List (Int×RAT×CELL)):Option (RAT×Int×(List (Int×RAT×CELL))) :=
 bif (decide ((b_1.length:Int)=0)) then (some (((false,[]),[]),18,b_1)) else (bif (decide (at_0<1)) then (some (((false,[]),[]),8,b_1)) else (bif (decide (at_0>=(b_1.length:Int))) then (some (((false,[]),[]),8,b_1)) else ((qb3 at_0 b_1).bind fun r1=>(qkC r1.1).bind fun r2=>some (r2,0,r1.2))))
abbrev w127:Wir:=⟨[.b,.x],[[.x]],2,none,[],[],0⟩
def c127:Ctr:=⟨[((.int .i64),.imm),((.sl (.pair (.int .i64) (.pair tRAT qay))),.own)],[(tRAT,false),((.int .i64),false),((.sl (.pair (.int .i64) (.pair tRAT qay))),true)],RAT×Int×(List (Int×RAT×CELL)),fun x=>qeL x.1 x.2.1,fun r=>((),(r.1,r.2.1,r.2.2,())),some w127⟩
abbrev qbE:SG:=⟨[(0,.p 552 0 0),(3,.p 24 0 0),(4,.p 32 0 0),(13,.p 552 0 0),(24,.o qmc 199),(25,.v (.int .i64)),(26,.v (.int .i64))],[(24,[.v (.int .i64),.p 553 0 0,.v .bool,.v (.sl (.int .u64)),.v (.sl (.int .u64)),.v (.int .i64),.v .bool,.v (.sl (.int .u64)),.v (.sl (.int .u64)),.v .bool]),(32,[.v .bool,.v (.sl (.int .u64)),.v (.sl (.int .u64))]),(552,[.v (.sl qbv),.v (.sl qay),.v (.int .i64),.v .bool,.f tRAT 104,.h]),(553,[.o (.pair (.int .i64) (.pair tRAT qay)) 1572])],[],[]⟩
abbrev qcp:List (Ex×SG):=[(.exit 0,⟨[(0,.p 552 0 0),(13,.p 552 0 0)],[(552,[.v (.sl qbv),.v (.sl qay),.v (.int .i64),.v .bool,.f tRAT 104,.h]),(553,[.o (.pair (.int .i64) (.pair tRAT qay)) 1572])],[],[]⟩)]
abbrev qgu:=(((List PART)×Int×Int×Unit)×((Int×Bool×(List Int)×(List Int)×Int×Bool×(List Int)×(List Int)×Bool×Unit)×(Bool×(List Int)×(List Int)×Unit)×((List NODE)×(List CELL)×Int×Bool×(List RAT)×Unit)×((List (Int×RAT×CELL))×Unit)×Unit))
abbrev qgt:=(Unit×(((List NODE)×(List CELL)×Int×Bool×(List RAT)×Unit)×((List (Int×RAT×CELL))×Unit)×Unit))
def qau (g:qgu->Option qgt):qgu->Option qgt
 | ((v_24,v_25,v_26,_),((b24_0,b24_2,b24_3,b24_4,b24_5,b24_6,b24_7,b24_8,b24_9,_),(b32_0,b32_1,b32_2,_),(b552_0,b552_1,b552_2,b552_3,b552_4,_),(b553_0,_),_))=>bif (decide (v_26<v_25)) then (bif decide (0<=v_26)&&decide (v_26<(v_24.length:Int)) then (v_24[v_26.toNat]?).bind fun x4=>(qeL (iadd .i64 v_26 1) b553_0).bind fun r5=>(qjG x4.2.1).bind fun r6=>bif x4.2.2 then ((qhc ).bind fun r7=>(qaU r7 r6).bind fun r8=>bif decide (0<=x4.1)&&decide (x4.1<(b552_4.length:Int)) then (b552_4[x4.1.toNat]?).bind fun x9=>(qaj r5.1 r8).bind fun r10=>(qaj r10 ((b32_0,b32_1),b32_2)).bind fun r11=>(qaU x9 r11).bind fun r12=>bif decide (0<=x4.1)&&decide (x4.1<(b552_4.length:Int)) then (b552_4[x4.1.toNat]?).bind fun _=>g ((v_24,v_25,(iadd .i64 v_26 1),()),((b24_0,b24_2,b24_3,b24_4,b24_5,b24_6,b24_7,b24_8,b24_9,()),(b32_0,b32_1,b32_2,()),(b552_0,b552_1,b552_2,b552_3,(b552_4.set x4.1.toNat r12),()),(r5.2.2,()),())) else none else none) else (bif decide (0<=x4.1)&&decide (x4.1<(b552_4.length:Int)) then (b552_4[x4.1.toNat]?).bind fun x14=>(qaj r5.1 r6).bind fun r15=>(qaj r15 ((b32_0,b32_1),b32_2)).bind fun r16=>(qaU x14 r16).bind fun r17=>bif decide (0<=x4.1)&&decide (x4.1<(b552_4.length:Int)) then (b552_4[x4.1.toNat]?).bind fun _=>g ((v_24,v_25,(iadd .i64 v_26 1),()),((b24_0,b24_2,b24_3,b24_4,b24_5,b24_6,b24_7,b24_8,b24_9,()),(b32_0,b32_1,b32_2,()),(b552_0,b552_1,b552_2,b552_3,(b552_4.set x4.1.toNat r17),()),(r5.2.2,()),())) else none else none) else none) else (some ((()),((b552_0,b552_1,b552_2,b552_3,b552_4,()),(b553_0,()),())))
def qbL (a_0:Int) (a_1:Bool) (a_2:List Int) (a_3:List Int) (a_4:Int) (a_5:Bool) (a_6:List Int) (a_7:List Int) (a_8:Bool) (b_9:List NODE) (b_10:List CELL) (b_11:Int) (b_12:Bool) (b_13:List RAT) (b_14:List (Int×RAT×CELL)):Option ((List RAT)×(List NODE)×(List CELL)×Int×Bool×(List (Int×RAT×CELL))) :=
 bif decide (0<=a_0) then (b_9[a_0.toNat]?).bind fun x1=>(qaj ((a_1,a_2),a_3) x1.2.2.2.2.2.2.1).bind fun r2=>(qcO b_14).bind fun r3=>(lp qau K0 ((r3.1,(r3.1.length:Int),0,()),((a_0,a_1,a_2,a_3,a_4,a_5,a_6,a_7,a_8,()),(r2.1.1,r2.1.2,r2.2,()),(b_9,b_10,b_11,b_12,b_13,()),(r3.2,()),()))).bind fun t19=>(bif jb t19.2.1.2.2.2.2.1.length b_13.length then some (t19.2.1.2.2.2.2.1,()) else none).bind fun l20=>some (l20.1,t19.2.1.1,t19.2.1.2.1,t19.2.1.2.2.1,t19.2.1.2.2.2.1,t19.2.2.1.1) else none
abbrev w103:Wir:=⟨[.b,.x,.b,.x,.x,.x,.x,.x,.x,.x,.x],[[.x,.x,.x,.x,.l,.h],[.x]],0,none,[.x,.g 10],[],0⟩
def c103:Ctr:=⟨[((.int .i64),.imm),(.bool,.imm),((.sl (.int .u64)),.imm),((.sl (.int .u64)),.imm),((.int .i64),.imm),(.bool,.imm),((.sl (.int .u64)),.imm),((.sl (.int .u64)),.imm),(.bool,.imm),((.sl qbv),.imm),((.sl qay),.imm),((.int .i64),.imm),(.bool,.imm),((.sl tRAT),.lent),((.sl (.pair (.int .i64) (.pair tRAT qay))),.own)],[((.sl qbv),false),((.sl qay),false),((.int .i64),false),(.bool,false),((.sl (.pair (.int .i64) (.pair tRAT qay))),true)],(List RAT)×(List NODE)×(List CELL)×Int×Bool×(List (Int×RAT×CELL)),fun x=>qbL x.1 x.2.1 x.2.2.1 x.2.2.2.1 x.2.2.2.2.1 x.2.2.2.2.2.1 x.2.2.2.2.2.2.1 x.2.2.2.2.2.2.2.1 x.2.2.2.2.2.2.2.2.1 x.2.2.2.2.2.2.2.2.2.1 x.2.2.2.2.2.2.2.2.2.2.1 x.2.2.2.2.2.2.2.2.2.2.2.1 x.2.2.2.2.2.2.2.2.2.2.2.2.1 x.2.2.2.2.2.2.2.2.2.2.2.2.2.1 x.2.2.2.2.2.2.2.2.2.2.2.2.2.2.1,fun r=>((r.1,()),(r.2.1,r.2.2.1,r.2.2.2.1,r.2.2.2.2.1,r.2.2.2.2.2,())),some w103⟩
def qkz (n_0:NODE) (c_1:CELL):Option Bool :=
 bif c_1.1 then (some n_0.2.2.2.2.2.1) else ((qkE c_1.2 n_0.2.2.1).bind fun r1=>some (decide (r1<0)))
def c106:Ctr:=⟨[(qbv,.imm),(qay,.imm)],[(.bool,false)],Bool,fun x=>qkz x.1 x.2.1,fun r=>((),(r,())),none⟩
def qjn (n_0:NODE) (c_1:CELL):Option Bool :=
 bif (!n_0.1) then ((qkz n_0 c_1).bind fun r1=>some r1) else (some false)
def c82:Ctr:=⟨[(qbv,.imm),(qay,.imm)],[(.bool,false)],Bool,fun x=>qjn x.1 x.2.1,fun r=>((),(r,())),none⟩
def qjH (a_0:RAT) (b_1:RAT):Option (RAT×Int) :=
 (qkD b_1).bind fun r1=>bif (!decide (r1.2=0)) then (some (((false,[]),[]),r1.2)) else ((qaj a_0 r1.1).bind fun r2=>some (r2,0))
def c128:Ctr:=⟨[(tRAT,.imm),(tRAT,.imm)],[(tRAT,false),((.int .i64),false)],RAT×Int,fun x=>qjH x.1 x.2.1,fun r=>((),(r.1,r.2,())),none⟩
def qd6 (b_0:List (Int×RAT×CELL)):Option ((List (Int×RAT×CELL))×(List (Int×RAT×CELL))) :=
 bif j9 ((([]:List (Int×RAT×CELL)).length+b_0.length)*128) 140737488355328&&!false then some (b_0,(([]:List (Int×RAT×CELL))++b_0)) else none
abbrev w129:Wir:=⟨[.b],[[.x]],0,some 1,[],[],0⟩
def c129:Ctr:=⟨[((.sl (.pair (.int .i64) (.pair tRAT qay))),.own)],[((.sl (.pair (.int .i64) (.pair tRAT qay))),true),((.sl (.pair (.int .i64) (.pair tRAT qay))),true)],(List (Int×RAT×CELL))×(List (Int×RAT×CELL)),fun x=>qd6 x.1,fun r=>((),(r.1,r.2,())),some w129⟩
def qb1 (a_0:Int) (a_1:Bool) (a_2:List Int) (a_3:List Int) (a_4:Int) (a_5:Bool) (a_6:List Int) (a_7:List Int) (a_8:Bool) (a_9:Int) (a_10:Bool) (b_11:List NODE) (b_12:List CELL) (b_13:Int) (b_14:Bool) (b_15:List RAT) (b_16:List (Int×RAT×CELL)):Option ((List RAT)×Int×Bool×(List Int)×(List Int)×Int×Bool×(List Int)×(List Int)×Bool×Bool×(List NODE)×(List CELL)×Int×Bool×(List (Int×RAT×CELL))×(List (Int×RAT×CELL))) :=
 bif decide (0<=a_0) then (b_11[a_0.toNat]?).bind fun x1=>bif decide (0<=a_9) then (b_11[a_9.toNat]?).bind fun x2=>(qjH x2.2.2.2.2.2.2.2 x1.2.2.2.2.2.2.2).bind fun r3=>bif decide (0<=x1.2.1) then (b_12[x1.2.1.toNat]?).bind fun x4=>(qjn x1 x4).bind fun r5=>(qd6 b_16).bind fun r6=>bif (!decide (x1.2.1=b_13)) then ((bif jb b_15.length b_15.length then some (b_15,()) else none).bind fun l7=>some (l7.1,a_9,a_1,a_2,a_3,x1.2.1,r3.1.1.1,r3.1.1.2,r3.1.2,(r5 == a_10),true,b_11,b_12,b_13,b_14,r6.1,r6.2)) else (bif b_14 then ((bif jb b_15.length b_15.length then some (b_15,()) else none).bind fun l8=>some (l8.1,a_9,a_1,a_2,a_3,(-1),r3.1.1.1,r3.1.1.2,r3.1.2,(r5 == a_10),(r5 == a_10),b_11,b_12,b_13,b_14,r6.1,r6.2)) else ((qaj ((a_1,a_2),a_3) r3.1).bind fun r9=>(bif jb b_15.length b_15.length then some (b_15,()) else none).bind fun l10=>some (l10.1,a_9,r9.1.1,r9.1.2,r9.2,(-1),r3.1.1.1,r3.1.1.2,r3.1.2,(r5 == a_10),true,b_11,b_12,b_13,b_14,r6.1,r6.2))) else none else none else none
abbrev w104:Wir:=⟨[.b,.x,.b,.x,.x,.x,.x,.x,.x,.x,.x,.x,.x],[[.x,.x,.x,.x,.l,.h],[.x]],10,some 1,[.x,.g 10,.x,.x],[.g 10,.x],1⟩
def c104:Ctr:=⟨[((.int .i64),.imm),(.bool,.imm),((.sl (.int .u64)),.imm),((.sl (.int .u64)),.imm),((.int .i64),.imm),(.bool,.imm),((.sl (.int .u64)),.imm),((.sl (.int .u64)),.imm),(.bool,.imm),((.int .i64),.imm),(.bool,.imm),((.sl qbv),.imm),((.sl qay),.imm),((.int .i64),.imm),(.bool,.imm),((.sl tRAT),.lent),((.sl (.pair (.int .i64) (.pair tRAT qay))),.own)],[((.int .i64),false),(.bool,false),((.sl (.int .u64)),false),((.sl (.int .u64)),false),((.int .i64),false),(.bool,false),((.sl (.int .u64)),false),((.sl (.int .u64)),false),(.bool,false),(.bool,false),((.sl qbv),false),((.sl qay),false),((.int .i64),false),(.bool,false),((.sl (.pair (.int .i64) (.pair tRAT qay))),true),((.sl (.pair (.int .i64) (.pair tRAT qay))),true)],(List RAT)×Int×Bool×(List Int)×(List Int)×Int×Bool×(List Int)×(List Int)×Bool×Bool×(List NODE)×(List CELL)×Int×Bool×(List (Int×RAT×CELL))×(List (Int×RAT×CELL)),fun x=>qb1 x.1 x.2.1 x.2.2.1 x.2.2.2.1 x.2.2.2.2.1 x.2.2.2.2.2.1 x.2.2.2.2.2.2.1 x.2.2.2.2.2.2.2.1 x.2.2.2.2.2.2.2.2.1 x.2.2.2.2.2.2.2.2.2.1 x.2.2.2.2.2.2.2.2.2.2.1 x.2.2.2.2.2.2.2.2.2.2.2.1 x.2.2.2.2.2.2.2.2.2.2.2.2.1 x.2.2.2.2.2.2.2.2.2.2.2.2.2.1 x.2.2.2.2.2.2.2.2.2.2.2.2.2.2.1 x.2.2.2.2.2.2.2.2.2.2.2.2.2.2.2.1 x.2.2.2.2.2.2.2.2.2.2.2.2.2.2.2.2.1,fun r=>((r.1,()),(r.2.1,r.2.2.1,r.2.2.2.1,r.2.2.2.2.1,r.2.2.2.2.2.1,r.2.2.2.2.2.2.1,r.2.2.2.2.2.2.2.1,r.2.2.2.2.2.2.2.2.1,r.2.2.2.2.2.2.2.2.2.1,r.2.2.2.2.2.2.2.2.2.2.1,r.2.2.2.2.2.2.2.2.2.2.2.1,r.2.2.2.2.2.2.2.2.2.2.2.2.1,r.2.2.2.2.2.2.2.2.2.2.2.2.2.1,r.2.2.2.2.2.2.2.2.2.2.2.2.2.2.1,r.2.2.2.2.2.2.2.2.2.2.2.2.2.2.2.1,r.2.2.2.2.2.2.2.2.2.2.2.2.2.2.2.2,())),some w104⟩
abbrev qbC:SG:=⟨[(0,.p 728 0 0),(2,.p 16 0 0),(3,.p 24 0 0),(62,.v (.pair .bool (.pair .bool .unit))),(63,.v (.int .i64))],[(16,[.v (.int .i64),.p 268 0 0,.v .bool,.v (.sl (.int .u64)),.v (.sl (.int .u64)),.v (.int .i64),.v .bool,.v (.sl (.int .u64)),.v (.sl (.int .u64)),.v .bool]),(24,[.v .bool,.v (.int .i64),.v .bool,.v (.sl (.int .u64)),.v (.sl (.int .u64)),.v (.int .i64),.v (.int .i64),.v .bool,.v .bool,.v (.sl (.int .u64)),.v (.sl (.int .u64)),.v .bool,.v (.sl (.int .u64)),.v (.sl (.int .u64))]),(268,[.o (.pair (.int .i64) (.pair tRAT qay)) 269]),(728,[.v (.sl qbv),.v (.sl qay),.v (.int .i64),.v .bool,.f tRAT 32,.o (.pair (.int .i64) (.pair (.op (.pair (.os (.pair (.int .i64) (.pair tRAT qay))) .unit)) (.pair tRAT qmc))) 1733])],[],[]⟩
abbrev qcn:List (Ex×SG):=[(.exit 2,⟨[(0,.p 728 0 0)],[(728,[.v (.sl qbv),.v (.sl qay),.v (.int .i64),.v .bool,.f tRAT 32,.o (.pair (.int .i64) (.pair (.op (.pair (.os (.pair (.int .i64) (.pair tRAT qay))) .unit)) (.pair tRAT qmc))) 1733])],[],[]⟩)]
abbrev qgq:=(((Bool×Bool×Unit)×Int×Unit)×((Int×Bool×(List Int)×(List Int)×Int×Bool×(List Int)×(List Int)×Bool×Unit)×(Bool×Int×Bool×(List Int)×(List Int)×Int×Int×Bool×Bool×(List Int)×(List Int)×Bool×(List Int)×(List Int)×Unit)×((List (Int×RAT×CELL))×Unit)×((List NODE)×(List CELL)×Int×Bool×(List RAT)×(List (Int×(Option ((Option (List (Int×RAT×CELL)))×Unit))×RAT×PART))×Unit)×Unit))
abbrev qgp:=(Unit×(((List NODE)×(List CELL)×Int×Bool×(List RAT)×(List (Int×(Option ((Option (List (Int×RAT×CELL)))×Unit))×RAT×PART))×Unit)×Unit))
def qan (g:qgq->Option qgp):qgq->Option qgp
 | ((v_62,v_63,_),((b16_0,b16_2,b16_3,b16_4,b16_5,b16_6,b16_7,b16_8,b16_9,_),(b24_0,b24_1,b24_2,b24_3,b24_4,b24_5,b24_6,b24_7,b24_8,b24_9,b24_10,b24_11,b24_12,b24_13,_),(b268_0,_),(b728_0,b728_1,b728_2,b728_3,b728_4,b728_5,_),_))=>bif (decide (v_63<2)) then (bif decide (0<=v_63) then (([v_62.1,v_62.2.1]:List Bool)[v_63.toNat]?).bind fun x9=>bif x9 then ((qb1 b16_0 b16_2 b16_3 b16_4 b16_5 b16_6 b16_7 b16_8 b16_9 b24_5 x9 b728_0 b728_1 b728_2 b728_3 b728_4 b268_0).bind fun r10=>bif r10.2.2.2.2.2.2.2.2.2.2.1 then (bif j9 ((b728_5.length+([(r10.2.1,((some ((some r10.2.2.2.2.2.2.2.2.2.2.2.2.2.2.2.2),())),(((r10.2.2.1,r10.2.2.2.1),r10.2.2.2.2.1),(r10.2.2.2.2.2.1,(((r10.2.2.2.2.2.2.1,r10.2.2.2.2.2.2.2.1),r10.2.2.2.2.2.2.2.2.1),r10.2.2.2.2.2.2.2.2.2.1)))))]).length)*144) 140737488355328&&!false then g (((v_62.1,(v_62.2.1,())),(iadd .i64 v_63 1),()),((b16_0,b16_2,b16_3,b16_4,b16_5,b16_6,b16_7,b16_8,b16_9,()),(b24_0,b24_1,b24_2,b24_3,b24_4,b24_5,b24_6,b24_7,b24_8,b24_9,b24_10,b24_11,b24_12,b24_13,()),(r10.2.2.2.2.2.2.2.2.2.2.2.2.2.2.2.1,()),(r10.2.2.2.2.2.2.2.2.2.2.2.1,r10.2.2.2.2.2.2.2.2.2.2.2.2.1,r10.2.2.2.2.2.2.2.2.2.2.2.2.2.1,r10.2.2.2.2.2.2.2.2.2.2.2.2.2.2.1,(over b728_4 0 r10.1),(b728_5++[(r10.2.1,((some ((some r10.2.2.2.2.2.2.2.2.2.2.2.2.2.2.2.2),())),(((r10.2.2.1,r10.2.2.2.1),r10.2.2.2.2.1),(r10.2.2.2.2.2.1,(((r10.2.2.2.2.2.2.1,r10.2.2.2.2.2.2.2.1),r10.2.2.2.2.2.2.2.2.1),r10.2.2.2.2.2.2.2.2.2.1)))))]),()),())) else none) else (g (((v_62.1,(v_62.2.1,())),(iadd .i64 v_63 1),()),((b16_0,b16_2,b16_3,b16_4,b16_5,b16_6,b16_7,b16_8,b16_9,()),(b24_0,b24_1,b24_2,b24_3,b24_4,b24_5,b24_6,b24_7,b24_8,b24_9,b24_10,b24_11,b24_12,b24_13,()),(r10.2.2.2.2.2.2.2.2.2.2.2.2.2.2.2.1,()),(r10.2.2.2.2.2.2.2.2.2.2.2.1,r10.2.2.2.2.2.2.2.2.2.2.2.2.1,r10.2.2.2.2.2.2.2.2.2.2.2.2.2.1,r10.2.2.2.2.2.2.2.2.2.2.2.2.2.2.1,(over b728_4 0 r10.1),b728_5,()),())))) else ((qb1 b16_0 b16_2 b16_3 b16_4 b16_5 b16_6 b16_7 b16_8 b16_9 b24_6 x9 b728_0 b728_1 b728_2 b728_3 b728_4 b268_0).bind fun r11=>bif r11.2.2.2.2.2.2.2.2.2.2.1 then (bif j9 ((b728_5.length+([(r11.2.1,((some ((some r11.2.2.2.2.2.2.2.2.2.2.2.2.2.2.2.2),())),(((r11.2.2.1,r11.2.2.2.1),r11.2.2.2.2.1),(r11.2.2.2.2.2.1,(((r11.2.2.2.2.2.2.1,r11.2.2.2.2.2.2.2.1),r11.2.2.2.2.2.2.2.2.1),r11.2.2.2.2.2.2.2.2.2.1)))))]).length)*144) 140737488355328&&!false then g (((v_62.1,(v_62.2.1,())),(iadd .i64 v_63 1),()),((b16_0,b16_2,b16_3,b16_4,b16_5,b16_6,b16_7,b16_8,b16_9,()),(b24_0,b24_1,b24_2,b24_3,b24_4,b24_5,b24_6,b24_7,b24_8,b24_9,b24_10,b24_11,b24_12,b24_13,()),(r11.2.2.2.2.2.2.2.2.2.2.2.2.2.2.2.1,()),(r11.2.2.2.2.2.2.2.2.2.2.2.1,r11.2.2.2.2.2.2.2.2.2.2.2.2.1,r11.2.2.2.2.2.2.2.2.2.2.2.2.2.1,r11.2.2.2.2.2.2.2.2.2.2.2.2.2.2.1,(over b728_4 0 r11.1),(b728_5++[(r11.2.1,((some ((some r11.2.2.2.2.2.2.2.2.2.2.2.2.2.2.2.2),())),(((r11.2.2.1,r11.2.2.2.1),r11.2.2.2.2.1),(r11.2.2.2.2.2.1,(((r11.2.2.2.2.2.2.1,r11.2.2.2.2.2.2.2.1),r11.2.2.2.2.2.2.2.2.1),r11.2.2.2.2.2.2.2.2.2.1)))))]),()),())) else none) else (g (((v_62.1,(v_62.2.1,())),(iadd .i64 v_63 1),()),((b16_0,b16_2,b16_3,b16_4,b16_5,b16_6,b16_7,b16_8,b16_9,()),(b24_0,b24_1,b24_2,b24_3,b24_4,b24_5,b24_6,b24_7,b24_8,b24_9,b24_10,b24_11,b24_12,b24_13,()),(r11.2.2.2.2.2.2.2.2.2.2.2.2.2.2.2.1,()),(r11.2.2.2.2.2.2.2.2.2.2.2.1,r11.2.2.2.2.2.2.2.2.2.2.2.2.1,r11.2.2.2.2.2.2.2.2.2.2.2.2.2.1,r11.2.2.2.2.2.2.2.2.2.2.2.2.2.2.1,(over b728_4 0 r11.1),b728_5,()),())))) else none) else (some ((()),((b728_0,b728_1,b728_2,b728_3,b728_4,b728_5,()),())))
abbrev qbD:SG:=⟨[(0,.p 728 0 0)],[(728,[.v (.sl qbv),.v (.sl qay),.v (.int .i64),.v .bool,.f tRAT 32,.o (.pair (.int .i64) (.pair (.op (.pair (.os (.pair (.int .i64) (.pair tRAT qay))) .unit)) (.pair tRAT qmc))) 1733])],[],[]⟩
abbrev qco:List (Ex×SG):=[(.exit 0,⟨[(0,.p 728 0 0)],[(728,[.v (.sl qbv),.v (.sl qay),.v (.int .i64),.v .bool,.f tRAT 32,.o (.pair (.int .i64) (.pair (.op (.pair (.os (.pair (.int .i64) (.pair tRAT qay))) .unit)) (.pair tRAT qmc))) 1733])],[],[]⟩)]
abbrev qgs:=(Unit×(((List NODE)×(List CELL)×Int×Bool×(List RAT)×(List (Int×(Option ((Option (List (Int×RAT×CELL)))×Unit))×RAT×PART))×Unit)×Unit))
abbrev qgr:=(Unit×(((List NODE)×(List CELL)×Int×Bool×(List RAT)×(List (Int×(Option ((Option (List (Int×RAT×CELL)))×Unit))×RAT×PART))×Unit)×Unit))
def qat (g:qgs->Option qgr):qgs->Option qgr
 | (_,((b728_0,b728_1,b728_2,b728_3,b728_4,b728_5,_),_))=>bif (decide ((b728_5.length:Int)>0)) then (bif decide (0<=(isub .i64 (b728_5.length:Int) 1))&&decide ((isub .i64 (b728_5.length:Int) 1)<(b728_5.length:Int)) then (b728_5[(isub .i64 (b728_5.length:Int) 1).toNat]?).bind fun x3=>(x3.2.1).bind fun x4=>(x4.1).bind fun x5=>bif decide ((0:Int)<=(isub .i64 ((b728_5.set ((isub .i64 (b728_5.length:Int) 1).toNat) (x3.1,(none,x3.2.2))).length:Int) 1))&&decide (((isub .i64 ((b728_5.set ((isub .i64 (b728_5.length:Int) 1).toNat) (x3.1,(none,x3.2.2))).length:Int) 1):Int)<=(isub .i64 ((b728_5.set ((isub .i64 (b728_5.length:Int) 1).toNat) (x3.1,(none,x3.2.2))).length:Int) 1))&&decide (((isub .i64 ((b728_5.set ((isub .i64 (b728_5.length:Int) 1).toNat) (x3.1,(none,x3.2.2))).length:Int) 1):Int)<=((b728_5.set ((isub .i64 (b728_5.length:Int) 1).toNat) (x3.1,(none,x3.2.2))).length:Int)) then (qa7 x3.1 x3.2.2.1.1.1 x3.2.2.1.1.2 x3.2.2.1.2 x3.2.2.2.1 x3.2.2.2.2.1.1.1 x3.2.2.2.2.1.1.2 x3.2.2.2.2.1.2 x3.2.2.2.2.2 x5).bind fun r6=>bif decide (0<=r6.1) then (b728_0[r6.1.toNat]?).bind fun x7=>bif x7.1 then ((qbL r6.1 r6.2.1 r6.2.2.1 r6.2.2.2.1 r6.2.2.2.2.1 r6.2.2.2.2.2.1 r6.2.2.2.2.2.2.1 r6.2.2.2.2.2.2.2.1 r6.2.2.2.2.2.2.2.2.1 b728_0 b728_1 b728_2 b728_3 b728_4 r6.2.2.2.2.2.2.2.2.2).bind fun r8=>g ((()),((r8.2.1,r8.2.2.1,r8.2.2.2.1,r8.2.2.2.2.1,(over b728_4 0 r8.1),((b728_5.set ((isub .i64 (b728_5.length:Int) 1).toNat) (x3.1,(none,x3.2.2))).take (((isub .i64 ((b728_5.set ((isub .i64 (b728_5.length:Int) 1).toNat) (x3.1,(none,x3.2.2))).length:Int) 1)-0).toNat)),()),()))) else ((lp qan K0 (((false,(true,())),0,()),((r6.1,r6.2.1,r6.2.2.1,r6.2.2.2.1,r6.2.2.2.2.1,r6.2.2.2.2.2.1,r6.2.2.2.2.2.2.1,r6.2.2.2.2.2.2.2.1,r6.2.2.2.2.2.2.2.2.1,()),(x7.1,x7.2.1,x7.2.2.1.1.1,x7.2.2.1.1.2,x7.2.2.1.2,x7.2.2.2.1,x7.2.2.2.2.1,x7.2.2.2.2.2.1,x7.2.2.2.2.2.2.1.1.1,x7.2.2.2.2.2.2.1.1.2,x7.2.2.2.2.2.2.1.2,x7.2.2.2.2.2.2.2.1.1,x7.2.2.2.2.2.2.2.1.2,x7.2.2.2.2.2.2.2.2,()),(r6.2.2.2.2.2.2.2.2.2,()),(b728_0,b728_1,b728_2,b728_3,b728_4,((b728_5.set ((isub .i64 (b728_5.length:Int) 1).toNat) (x3.1,(none,x3.2.2))).take (((isub .i64 ((b728_5.set ((isub .i64 (b728_5.length:Int) 1).toNat) (x3.1,(none,x3.2.2))).length:Int) 1)-0).toNat)),()),()))).bind fun t12=>g ((()),((t12.2.1.1,t12.2.1.2.1,t12.2.1.2.2.1,t12.2.1.2.2.2.1,t12.2.1.2.2.2.2.1,t12.2.1.2.2.2.2.2.1,()),()))) else none else none else none) else (some ((()),((b728_0,b728_1,b728_2,b728_3,b728_4,b728_5,()),())))
def qcD (b_0:List NODE) (b_1:List CELL) (b_2:Int) (b_3:Bool) (b_4:List RAT) (b_5:List (Int×(Option ((Option (List (Int×RAT×CELL)))×Unit))×RAT×PART)):Option ((List RAT)×(List NODE)×(List CELL)×Int×Bool×(List (Int×(Option ((Option (List (Int×RAT×CELL)))×Unit))×RAT×PART))) :=
 (qit ).bind fun r1=>(qhc ).bind fun r2=>(lp qat K0 ((()),((b_0,b_1,b_2,b_3,b_4,[(0,((some ((some r1),())),(r2,((-1),(((false,[]),[]),false)))))],()),()))).bind fun t13=>(bif jb t13.2.1.2.2.2.2.1.length b_4.length then some (t13.2.1.2.2.2.2.1,()) else none).bind fun l14=>some (l14.1,t13.2.1.1,t13.2.1.2.1,t13.2.1.2.2.1,t13.2.1.2.2.2.1,t13.2.1.2.2.2.2.2.1)
abbrev w79:Wir:=⟨[.b],[[.x,.x,.x,.x,.l,.x]],0,none,[],[],0⟩
def c79:Ctr:=⟨[((.sl qbv),.imm),((.sl qay),.imm),((.int .i64),.imm),(.bool,.imm),((.sl tRAT),.lent),((.sl (.pair (.int .i64) (.pair (.op (.pair (.os (.pair (.int .i64) (.pair tRAT qay))) .unit)) (.pair tRAT qmc)))),.imm)],[((.sl qbv),false),((.sl qay),false),((.int .i64),false),(.bool,false),((.sl (.pair (.int .i64) (.pair (.op (.pair (.os (.pair (.int .i64) (.pair tRAT qay))) .unit)) (.pair tRAT qmc)))),false)],(List RAT)×(List NODE)×(List CELL)×Int×Bool×(List (Int×(Option ((Option (List (Int×RAT×CELL)))×Unit))×RAT×PART)),fun x=>qcD x.1 x.2.1 x.2.2.1 x.2.2.2.1 x.2.2.2.2.1 x.2.2.2.2.2.1,fun r=>((r.1,()),(r.2.1,r.2.2.1,r.2.2.2.1,r.2.2.2.2.1,r.2.2.2.2.2,())),some w79⟩
abbrev qeJ:SG:=⟨[(1,.v (.sl qay)),(2,.v (.int .i64)),(3,.v .bool),(9,.o tRAT 79),(17,.v (.sl (.sl qbv))),(18,.v (.int .i64)),(19,.v (.int .i64))],[],[],[]⟩
abbrev qfF:List (Ex×SG):=[(.exit 0,⟨[(9,.o tRAT 79)],[],[],[]⟩)]
abbrev qkH:=(((List CELL)×Int×Bool×(List RAT)×(List (List NODE))×Int×Int×Unit)×Unit)
abbrev qkG:=(((List RAT)×Unit)×Unit)
def qcq (g:qkH->Option qkG):qkH->Option qkG
 | ((row_1,fixed_2,on_3,out_9,v_17,v_18,v_19,_),_)=>bif (decide (v_19<v_18)) then (bif decide (0<=v_19) then (v_17[v_19.toNat]?).bind fun x2=>(qcD x2 row_1 fixed_2 on_3 out_9 ([])).bind fun r3=>g ((row_1,fixed_2,on_3,(over out_9 0 r3.1),v_17,v_18,(iadd .i64 v_19 1),()),()) else none) else (some ((out_9,()),()))
def qgT (m_0:qas) (row_1:List CELL) (fixed_2:Int) (on_3:Bool):Option (List RAT) :=
 (qgo m_0.1).bind fun r1=>(lp qcq K0 ((row_1,fixed_2,on_3,r1,m_0.2,(m_0.2.length:Int),0,()),())).bind fun t4=>some t4.1.1
def c50:Ctr:=⟨[(qfB,.imm),((.sl qay),.imm),((.int .i64),.imm),(.bool,.imm)],[((.sl tRAT),true)],(List RAT),fun x=>qgT x.1 x.2.1 x.2.2.1 x.2.2.2.1,fun r=>((),(r,())),none⟩
def qfl (m_0:qas) (row_1:List CELL) (fixed_2:Int) (on_3:Bool):Option ((List RAT)×Int) :=
 (qcC m_0 row_1).bind fun r1=>bif (!decide (r1=0)) then (some ([],r1)) else (bif (decide (fixed_2<0)) then (some ([],8)) else (bif (decide (fixed_2>=m_0.1)) then (some ([],8)) else ((qgT m_0 row_1 fixed_2 on_3).bind fun r2=>some (r2,0))))
def c51:Ctr:=⟨[(qfB,.imm),((.sl qay),.imm),((.int .i64),.imm),(.bool,.imm)],[((.sl tRAT),true),((.int .i64),false)],(List RAT)×Int,fun x=>qfl x.1 x.2.1 x.2.2.1 x.2.2.2.1,fun r=>((),(r.1,r.2,())),none⟩
abbrev qdd:SG:=⟨[(7,.o tRAT 63),(9,.o tRAT 79),(11,.o tRAT 95),(28,.v (.int .i64)),(29,.v (.int .i64))],[],[],[]⟩
abbrev qd9:List (Ex×SG):=[(.exit 0,⟨[(11,.o tRAT 95)],[],[],[]⟩)]
abbrev qi1:=(((List RAT)×(List RAT)×(List RAT)×Int×Int×Unit)×Unit)
abbrev qi0:=(((List RAT)×Unit)×Unit)
def qbj (g:qi1->Option qi0):qi1->Option qi0
 | ((on_7,off_9,out_11,v_28,v_29,_),_)=>bif (decide (v_29<v_28)) then (bif decide (0<=v_29)&&decide (v_29<(on_7.length:Int)) then (on_7[v_29.toNat]?).bind fun x3=>bif decide (0<=v_29)&&decide (v_29<(off_9.length:Int)) then (off_9[v_29.toNat]?).bind fun x4=>(qcZ x3 x4).bind fun r5=>(qdc 1 2).bind fun r6=>(qaj r5 r6).bind fun r7=>bif j9 ((out_11.length+1)*56) 140737488355328&&!false then g ((on_7,off_9,(out_11++([r7]:List RAT)),v_28,(iadd .i64 v_29 1),()),()) else none else none else none) else (some ((out_11,()),()))
def qeP (m_0:qas) (row_1:List CELL) (k_2:Int):Option (List RAT) :=
 (qfl m_0 row_1 k_2 true).bind fun r1=>(qfl m_0 row_1 k_2 false).bind fun r2=>(lp qbj K0 ((r1.1,r2.1,[],(r1.1.length:Int),0,()),())).bind fun t8=>some t8.1.1
def c24:Ctr:=⟨[(qfB,.imm),((.sl qay),.imm),((.int .i64),.imm)],[((.sl tRAT),true)],(List RAT),fun x=>qeP x.1 x.2.1 x.2.2.1,fun r=>((),(r,())),none⟩
def qlG (m_0:qas) (row_1:List CELL) (i_2:Int) (k_3:Int):Option (RAT×Int) :=
 (qcC m_0 row_1).bind fun r1=>bif (!decide (r1=0)) then (some (((false,[]),[]),r1)) else (bif (decide (i_2<0)) then (some (((false,[]),[]),8)) else (bif (decide (i_2>=m_0.1)) then (some (((false,[]),[]),8)) else (bif (decide (k_3<0)) then (some (((false,[]),[]),8)) else (bif (decide (k_3>=m_0.1)) then (some (((false,[]),[]),8)) else (bif (decide (i_2=k_3)) then (some (((false,[]),[]),1)) else ((qeP m_0 row_1 k_3).bind fun r2=>bif decide (0<=i_2)&&decide (i_2<(r2.length:Int)) then (r2[i_2.toNat]?).bind fun x3=>some (x3,0) else none))))))
def c18:Ctr:=⟨[(qfB,.imm),((.sl qay),.imm),((.int .i64),.imm),((.int .i64),.imm)],[(tRAT,false),((.int .i64),false)],RAT×Int,fun x=>qlG x.1 x.2.1 x.2.2.1 x.2.2.2.1,fun r=>((),(r.1,r.2,())),none⟩
def qa3 :Option Bool :=
 (qhc ).bind fun r1=>(qj7 4).bind fun r2=>(qj7 2).bind fun r3=>(qj7 2).bind fun r4=>(qlG (2,([([(false,(0,(((false,[]),[]),(1,(2,(false,(((false,[]),[]),r2))))))),(true,(0,(((false,[]),[]),(0,(0,(false,(((false,[]),[]),r3))))))),(false,(1,(((false,[]),[]),(3,(4,(false,(((false,[]),[]),r4))))))),(true,(0,(((false,[]),[]),(0,(0,(false,(((false,[]),[]),r1))))))),(true,(0,(((false,[]),[]),(0,(0,(false,(r1,r1)))))))]:List NODE)]:List (List NODE))) ([(false,r1),(false,r1)]:List CELL) 0 1).bind fun r5=>bif (decide (r5.2=0)) then ((qdc 1 8).bind fun r6=>(qjp r5.1 r6).bind fun r7=>some r7) else (some false)
def c6:Ctr:=⟨[],[(.bool,false)],Bool,fun x=>qa3 ,fun r=>((),(r,())),none⟩
def qdO (m_0:qas) (row_1:List CELL):Option ((List RAT)×Int) :=
 (qcC m_0 row_1).bind fun r1=>bif (!decide (r1=0)) then (some ([],r1)) else ((qgT m_0 row_1 (-1) false).bind fun r2=>some (r2,0))
def c21:Ctr:=⟨[(qfB,.imm),((.sl qay),.imm)],[((.sl tRAT),true),((.int .i64),false)],(List RAT)×Int,fun x=>qdO x.1 x.2.1,fun r=>((),(r.1,r.2,())),none⟩
abbrev qdI:SG:=⟨[(0,.v (.int .i64)),(3,.o (.os tRAT) 31),(4,.o tRAT 39),(5,.v (.int .i64)),(6,.v (.int .i64)),(8,.v (.int .i64)),(9,.v (.int .i64))],[],[],[]⟩
abbrev qeN:List (Ex×SG):=[(.exit 2,⟨[(0,.v (.int .i64)),(3,.o (.os tRAT) 31),(4,.o tRAT 39),(5,.v (.int .i64)),(6,.v (.int .i64))],[],[],[]⟩)]
abbrev qjW:=((Int×(List (Option (List RAT)))×(List RAT)×Int×Int×Int×Int×Unit)×Unit)
abbrev qjV:=((Int×(List (Option (List RAT)))×(List RAT)×Int×Int×Unit)×Unit)
def qbH (g:qjW->Option qjV):qjW->Option qjV
 | ((n_0,out_3,l_4,v_5,v_6,v_8,v_9,_),_)=>bif (decide (v_9<v_8)) then ((qdE ).bind fun r1=>bif j9 ((l_4.length+1)*56) 140737488355328&&!false then g ((n_0,out_3,(l_4++([r1]:List RAT)),v_5,v_6,v_8,(iadd .i64 v_9 1),()),()) else none) else (some ((n_0,out_3,l_4,v_5,v_6,()),()))
abbrev qdJ:SG:=⟨[(0,.v (.int .i64)),(3,.o (.os tRAT) 31),(5,.v (.int .i64)),(6,.v (.int .i64))],[],[],[]⟩
abbrev qeO:List (Ex×SG):=[(.exit 0,⟨[(3,.o (.os tRAT) 31)],[],[],[]⟩)]
abbrev qjY:=((Int×(List (Option (List RAT)))×Int×Int×Unit)×Unit)
abbrev qjX:=(((List (Option (List RAT)))×Unit)×Unit)
def qbI (g:qjY->Option qjX):qjY->Option qjX
 | ((n_0,out_3,v_5,v_6,_),_)=>bif (decide (v_6<v_5)) then ((lp qbH K0 ((n_0,out_3,[],v_5,v_6,n_0,0,()),())).bind fun t2=>bif j9 ((t2.1.2.1.length+([(some t2.1.2.2.1)]).length)*24) 140737488355328&&!false then g ((t2.1.1,(t2.1.2.1++[(some t2.1.2.2.1)]),t2.1.2.2.2.1,(iadd .i64 t2.1.2.2.2.2.1 1),()),()) else none) else (some ((out_3,()),()))
def qgy (n_0:Int):Option (List (Option (List RAT))) :=
 (lp qbI K0 ((n_0,[],n_0,0,()),())).bind fun t3=>some t3.1.1
def c22:Ctr:=⟨[((.int .i64),.imm)],[((.sl (.os tRAT)),true)],(List (Option (List RAT))),fun x=>qgy x.1,fun r=>((),(r,())),none⟩
def qjl (a0:qas):Option (List Bool):=(qfn a0).bind fun ok=>bif !ok then some [] else bif (decide (0<=a0.1)&&(decide (a0.1<=64)&&(decide (a0.2.length<=64)&&a0.2.all fun t=>decide (t.length<=255)&&t.all fun n=>n.1 || (decide (0<=n.2.1)&&decide (n.2.1<a0.1))))) then some ((List.range a0.1.toNat).map fun(j:Nat)=>a0.2.any fun t=>t.any fun n=>!n.1&&decide (n.2.1=(j:Int))) else none
def c23:Ctr:=⟨[(qfB,.imm)],[((.sl .bool),false)],(List Bool),fun x=>qjl x.1,fun r=>((),(r,())),none⟩
abbrev qeH:SG:=⟨[(0,.l tRAT 0),(2,.p 16 0 0),(3,.p 24 0 0),(8,.v (.int .i64)),(9,.v (.int .i64))],[(16,[.v .bool,.o (.int .u64) 18,.o (.int .u64) 19]),(24,[.v .bool,.v (.sl (.int .u64)),.v (.sl (.int .u64))])],[(7,(0,0))],[]⟩
abbrev qfD:List (Ex×SG):=[(.exit 0,⟨[(0,.l tRAT 0),(2,.p 16 0 0),(3,.p 24 0 0)],[(16,[.v .bool,.o (.int .u64) 18,.o (.int .u64) 19]),(24,[.v .bool,.v (.sl (.int .u64)),.v (.sl (.int .u64))])],[],[]⟩)]
abbrev qkB:=(((List RAT)×Int×Int×Unit)×((Bool×(List Int)×(List Int)×Unit)×(Bool×(List Int)×(List Int)×Unit)×Unit))
abbrev qkA:=(((List RAT)×Unit)×((Bool×(List Int)×(List Int)×Unit)×(Bool×(List Int)×(List Int)×Unit)×Unit))
def qcm (g:qkB->Option qkA):qkB->Option qkA
 | ((l_0,v_8,v_9,_),((b16_0,b16_1,b16_2,_),(b24_0,b24_1,b24_2,_),_))=>bif (decide (v_9<v_8)) then (bif decide (0<=v_9)&&decide (v_9<(l_0.length:Int)) then (l_0[v_9.toNat]?).bind fun x2=>(qaU ((b24_0,b24_1),b24_2) x2).bind fun r3=>g ((l_0,v_8,(iadd .i64 v_9 1),()),((b16_0,b16_1,b16_2,()),(r3.1.1,r3.1.2,r3.2,()),())) else none) else (some ((l_0,()),((b16_0,b16_1,b16_2,()),(b24_0,b24_1,b24_2,()),())))
def qip (l_0:List RAT):Option ((List RAT)×RAT) :=
 (qdE ).bind fun r1=>(lp qcm K0 ((l_0,(l_0.length:Int),0,()),((false,[],[],()),(r1.1.1,r1.1.2,r1.2,()),()))).bind fun t4=>(bif jb t4.1.1.length l_0.length then some (t4.1.1,()) else none).bind fun l5=>some (l5.1,((t4.2.2.1.1,t4.2.2.1.2.1),t4.2.2.1.2.2.1))
def qBZ:Ctr:=⟨[((.sl tRAT),.lent)],[(tRAT,false)],(List RAT)×RAT,fun x=>qip x.1,fun r=>((r.1,()),(r.2,())),none⟩
abbrev qcR:SG:=⟨[(1,.v (.sl qay)),(2,.p 16 0 0),(6,.o tRAT 55),(8,.o (.os tRAT) 71),(9,.v (.sl .bool)),(10,.v (.int .i64)),(29,.v (.int .i64)),(30,.v (.int .i64)),(41,.o tRAT 335),(42,.v (.int .i64)),(43,.v (.int .i64))],[(16,[.v (.int .i64),.v (.sl (.sl qbv))])],[],[]⟩
abbrev qdQ:List (Ex×SG):=[(.exit 2,⟨[(1,.v (.sl qay)),(2,.p 16 0 0),(6,.o tRAT 55),(8,.o (.os tRAT) 71),(9,.v (.sl .bool)),(29,.v (.int .i64)),(30,.v (.int .i64))],[(16,[.v (.int .i64),.v (.sl (.sl qbv))])],[],[]⟩)]
abbrev qiF:=(((List CELL)×(List RAT)×(List (Option (List RAT)))×(List Bool)×Int×Int×Int×(List RAT)×Int×Int×Unit)×((Int×(List (List NODE))×Unit)×Unit))
abbrev qiE:=(((List CELL)×(List RAT)×(List (Option (List RAT)))×(List Bool)×Int×Int×Unit)×((Int×(List (List NODE))×Unit)×Unit))
def qa9 (g:qiF->Option qiE):qiF->Option qiE
 | ((v_1,v_6,v_8,v_9,v_10,v_29,v_30,v_41,v_42,v_43,_),((b16_0,b16_1,_),_))=>bif (decide (v_43<v_42)) then (bif decide (0<=v_43)&&decide (v_43<(v_41.length:Int)) then (v_41[v_43.toNat]?).bind fun x6=>bif (!decide (v_43=v_10)) then (bif decide (0<=v_43)&&decide (v_43<(v_8.length:Int)) then (v_8[v_43.toNat]?).bind fun _=>(v_8[v_43.toNat]?).bind fun x7=>x7.bind fun x8=>bif decide (0<=v_10)&&decide ((v_10:Int)<(x8.length:Int)) then (v_8[v_43.toNat]?).bind fun x9=>x9.bind fun x10=>(x10[v_10.toNat]?).bind fun _=>g ((v_1,v_6,(v_8.set v_43.toNat (some (x10.set v_10.toNat x6))),v_9,v_10,v_29,v_30,v_41,v_42,(iadd .i64 v_43 1),()),((b16_0,b16_1,()),())) else none else none) else (g ((v_1,v_6,v_8,v_9,v_10,v_29,v_30,v_41,v_42,(iadd .i64 v_43 1),()),((b16_0,b16_1,()),()))) else none) else (some ((v_1,v_6,v_8,v_9,v_29,v_30,()),((b16_0,b16_1,()),())))
abbrev qde:SG:=⟨[(1,.v (.sl qay)),(2,.p 16 0 0),(6,.o tRAT 55),(8,.o (.os tRAT) 71),(9,.v (.sl .bool)),(29,.v (.int .i64)),(30,.v (.int .i64))],[(16,[.v (.int .i64),.v (.sl (.sl qbv))])],[],[]⟩
abbrev qea:List (Ex×SG):=[(.exit 0,⟨[(6,.o tRAT 55),(8,.o (.os tRAT) 71)],[],[],[]⟩)]
abbrev qi3:=(((List CELL)×(List RAT)×(List (Option (List RAT)))×(List Bool)×Int×Int×Unit)×((Int×(List (List NODE))×Unit)×Unit))
abbrev qi2:=(((List RAT)×(List (Option (List RAT)))×Unit)×Unit)
def qbk (g:qi3->Option qi2):qi3->Option qi2
 | ((v_1,v_6,v_8,v_9,v_29,v_30,_),((b16_0,b16_1,_),_))=>bif (decide (v_30<v_29)) then (bif decide (0<=v_30) then (v_9[v_30.toNat]?).bind fun x4=>bif (!x4) then (g ((v_1,v_6,v_8,v_9,v_29,(iadd .i64 v_30 1),()),((b16_0,b16_1,()),()))) else ((qeP (b16_0,b16_1) v_1 v_30).bind fun r5=>(lp qa9 K0 ((v_1,v_6,v_8,v_9,v_30,v_29,v_30,r5,(r5.length:Int),0,()),((b16_0,b16_1,()),()))).bind fun t12=>g ((t12.1.1,t12.1.2.1,t12.1.2.2.1,t12.1.2.2.2.1,t12.1.2.2.2.2.1,(iadd .i64 t12.1.2.2.2.2.2.1 1),()),((t12.2.1.1,t12.2.1.2.1,()),()))) else none) else (some ((v_6,v_8,()),()))
abbrev qcQ:SG:=⟨[(6,.o tRAT 55),(8,.o (.os tRAT) 71),(61,.v (.int .i64)),(62,.v (.int .i64))],[],[],[]⟩
abbrev qdP:List (Ex×SG):=[(.exit 4,⟨[(8,.o (.os tRAT) 71)],[],[],[]⟩)]
abbrev qiD:=(((List RAT)×(List (Option (List RAT)))×Int×Int×Unit)×Unit)
abbrev qiC:=(((List (Option (List RAT)))×Unit)×Unit)
def qa8 (g:qiD->Option qiC):qiD->Option qiC
 | ((v_6,v_8,v_61,v_62,_),_)=>bif (decide (v_62<v_61)) then (bif decide (0<=v_62)&&decide (v_62<(v_8.length:Int)) then (v_8[v_62.toNat]?).bind fun _=>bif decide (0<=v_62)&&decide (v_62<(v_6.length:Int)) then (v_6[v_62.toNat]?).bind fun x14=>bif decide (0<=v_62)&&decide (v_62<(v_8.length:Int)) then (v_8[v_62.toNat]?).bind fun _=>(v_8[v_62.toNat]?).bind fun x15=>x15.bind fun x16=>(qip x16).bind fun r17=>bif qBz tRAT (over x16 0 r17.1) x16 then bif decide (0<=v_62)&&decide (v_62<(v_8.length:Int)) then (v_8[v_62.toNat]?).bind fun _=>(v_8[v_62.toNat]?).bind fun x18=>x18.bind fun x19=>bif decide (0<=v_62)&&decide ((v_62:Int)<(x19.length:Int)) then (v_8[v_62.toNat]?).bind fun x20=>x20.bind fun x21=>(x21[v_62.toNat]?).bind fun x22=>(qcZ r17.2 x22).bind fun r23=>(qcZ x14 r23).bind fun r24=>(v_8[v_62.toNat]?).bind fun x25=>x25.bind fun x26=>bif decide (0<=v_62)&&decide ((v_62:Int)<(x26.length:Int)) then (v_8[v_62.toNat]?).bind fun x27=>x27.bind fun x28=>(x28[v_62.toNat]?).bind fun _=>g ((v_6,(v_8.set v_62.toNat (some (x28.set v_62.toNat r24))),v_61,(iadd .i64 v_62 1),()),()) else none else none else none else none else none else none else none) else (some ((v_8,()),()))
def qc2 (a_0:qas) (a_1:List CELL):Option ((List (Option (List RAT)))×Int) :=
 (qdO a_0 a_1).bind fun r1=>bif (!decide (r1.2=0)) then (some ([],r1.2)) else ((qgy a_0.1).bind fun r2=>(qjl a_0).bind fun r3=>(lp qbk K0 ((a_1,r1.1,r2,r3,a_0.1,0,()),((a_0.1,a_0.2,()),()))).bind fun t13=>(lp qa8 K0 ((t13.1.1,t13.1.2.1,(t13.1.2.1.length:Int),0,()),())).bind fun t30=>some (t30.1.1,0))
def c7:Ctr:=⟨[(qfB,.imm),((.sl qay),.imm)],[((.sl (.os tRAT)),true),((.int .i64),false)],(List (Option (List RAT)))×Int,fun x=>qc2 x.1 x.2.1,fun r=>((),(r.1,r.2,())),none⟩
def qiH (set_0:Int) (feature_1:Int):Option Bool :=
 bif decide (feature_1<0) then none else (some (decide ((iand .u64 (shrV .u64 set_0 feature_1) 1)=1)))
def c80:Ctr:=⟨[((.int .u64),.imm),((.int .i64),.imm)],[(.bool,false)],Bool,fun x=>qiH x.1 x.2.1,fun r=>((),(r,())),none⟩
def qjZ (a_0:RAT) (b_1:RAT):Option RAT :=
 (qjH a_0 b_1).bind fun r1=>some r1.1
def c105:Ctr:=⟨[(tRAT,.imm),(tRAT,.imm)],[(tRAT,false)],RAT,fun x=>qjZ x.1 x.2.1,fun r=>((),(r,())),none⟩
def qj0 (t_0:List NODE) (n_1:NODE) (a_2:RAT) (b_3:RAT):Option RAT :=
 bif decide (0<=n_1.2.2.2.1) then (t_0[n_1.2.2.2.1.toNat]?).bind fun x1=>(qaj x1.2.2.2.2.2.2.2 a_2).bind fun r2=>bif decide (0<=n_1.2.2.2.2.1) then (t_0[n_1.2.2.2.2.1.toNat]?).bind fun x3=>(qaj x3.2.2.2.2.2.2.2 b_3).bind fun r4=>(qaU r2 r4).bind fun r5=>(qjZ r5 n_1.2.2.2.2.2.2.2).bind fun r6=>some r6 else none else none
def c81:Ctr:=⟨[((.sl qbv),.imm),(qbv,.imm),(tRAT,.imm),(tRAT,.imm)],[(tRAT,false)],RAT,fun x=>qj0 x.1 x.2.1 x.2.2.1 x.2.2.2.1,fun r=>((),(r,())),none⟩
def qij (rec:(List NODE)->Int->(List CELL)->Int->Option RAT) (t_0:List NODE) (at_1:Int) (row_2:List CELL) (set_3:Int):Option RAT :=
 bif decide (0<=at_1) then (t_0[at_1.toNat]?).bind fun x1=>bif x1.1 then ((qbK x1.2.2.2.2.2.2.1).bind fun r2=>some r2) else ((qiH set_3 x1.2.1).bind fun r3=>bif (!r3) then ((rec t_0 x1.2.2.2.1 row_2 set_3).bind fun r4=>(rec t_0 x1.2.2.2.2.1 row_2 set_3).bind fun r5=>(qj0 t_0 x1 r4 r5).bind fun r6=>some r6) else (bif decide (0<=x1.2.1) then (row_2[x1.2.1.toNat]?).bind fun x7=>(qjn x1 x7).bind fun r8=>bif r8 then ((rec t_0 x1.2.2.2.1 row_2 set_3).bind fun r9=>some r9) else ((rec t_0 x1.2.2.2.2.1 row_2 set_3).bind fun r10=>some r10) else none)) else none
def qec:Nat->(List NODE)->Int->(List CELL)->Int->Option RAT
 | 0=>fun _ _ _ _=>none
 | n+1=>qij (qec n)
def c53 (n:Nat):Ctr:=⟨[((.sl qbv),.imm),((.int .i64),.imm),((.sl qay),.imm),((.int .u64),.imm)],[(tRAT,false)],RAT,fun x=>qec n x.1 x.2.1 x.2.2.1 x.2.2.2.1,fun r=>((),(r,())),none⟩
abbrev qeQ:SG:=⟨[(1,.v (.sl qay)),(2,.v (.int .u64)),(6,.p 48 0 0),(9,.p 72 0 0),(21,.v (.sl (.sl qbv))),(22,.v (.int .i64)),(23,.v (.int .i64))],[(48,[.v .bool,.o (.int .u64) 50,.o (.int .u64) 51]),(72,[.v .bool,.v (.sl (.int .u64)),.v (.sl (.int .u64))])],[],[]⟩
abbrev qfO:List (Ex×SG):=[(.exit 0,⟨[(6,.p 48 0 0),(9,.p 72 0 0)],[(48,[.v .bool,.o (.int .u64) 50,.o (.int .u64) 51]),(72,[.v .bool,.v (.sl (.int .u64)),.v (.sl (.int .u64))])],[],[]⟩)]
abbrev qk1:=(((List CELL)×Int×(List (List NODE))×Int×Int×Unit)×((Bool×(List Int)×(List Int)×Unit)×(Bool×(List Int)×(List Int)×Unit)×Unit))
abbrev qk0:=(Unit×((Bool×(List Int)×(List Int)×Unit)×(Bool×(List Int)×(List Int)×Unit)×Unit))
def qcw (g:qk1->Option qk0):qk1->Option qk0
 | ((row_1,set_2,v_21,v_22,v_23,_),((b48_0,b48_1,b48_2,_),(b72_0,b72_1,b72_2,_),_))=>bif (decide (v_23<v_22)) then (bif decide (0<=v_23) then (v_21[v_23.toNat]?).bind fun x3=>(qec R0 x3 0 row_1 set_2).bind fun r4=>(qaU ((b72_0,b72_1),b72_2) r4).bind fun r5=>g ((row_1,set_2,v_21,v_22,(iadd .i64 v_23 1),()),((b48_0,b48_1,b48_2,()),(r5.1.1,r5.1.2,r5.2,()),())) else none) else (some ((()),((b48_0,b48_1,b48_2,()),(b72_0,b72_1,b72_2,()),())))
def qg6 (m_0:qas) (row_1:List CELL) (set_2:Int):Option (RAT×Int) :=
 (qcC m_0 row_1).bind fun r1=>bif (!decide (r1=0)) then (some (((false,[]),[]),r1)) else ((qdE ).bind fun r2=>(lp qcw K0 ((row_1,set_2,m_0.2,(m_0.2.length:Int),0,()),((false,[],[],()),(r2.1.1,r2.1.2,r2.2,()),()))).bind fun t6=>some (((t6.2.2.1.1,t6.2.2.1.2.1),t6.2.2.1.2.2.1),0))
def c27:Ctr:=⟨[(qfB,.imm),((.sl qay),.imm),((.int .u64),.imm)],[(tRAT,false),((.int .i64),false)],RAT×Int,fun x=>qg6 x.1 x.2.1 x.2.2.1,fun r=>((),(r.1,r.2,())),none⟩
abbrev qeR:SG:=⟨[(1,.v (.sl qay)),(2,.p 16 0 0),(7,.o tRAT 63),(22,.v (.int .u64)),(23,.v (.int .u64))],[(16,[.v (.int .i64),.v (.sl (.sl qbv))])],[],[]⟩
abbrev qfP:List (Ex×SG):=[(.exit 0,⟨[(7,.o tRAT 63)],[],[],[]⟩)]
abbrev qk3:=(((List CELL)×(List RAT)×Int×Int×Unit)×((Int×(List (List NODE))×Unit)×Unit))
abbrev qk2:=(((List RAT)×Unit)×Unit)
def qcx (g:qk3->Option qk2):qk3->Option qk2
 | ((row_1,out_7,v_22,v_23,_),((b16_0,b16_1,_),_))=>bif (decide (v_23<v_22)) then ((qg6 (b16_0,b16_1) row_1 v_23).bind fun r2=>bif j9 ((out_7.length+1)*56) 140737488355328&&!false then g ((row_1,(out_7++([r2.1]:List RAT)),v_22,(iadd .u64 v_23 1),()),((b16_0,b16_1,()),())) else none) else (some ((out_7,()),()))
def qfQ (m_0:qas) (row_1:List CELL):Option ((List RAT)×Int) :=
 (qcC m_0 row_1).bind fun r1=>bif (!decide (r1=0)) then (some ([],r1)) else (bif (decide (m_0.1>12)) then (some ([],16)) else (bif decide (m_0.1<0) then none else ((lp qcx K0 ((row_1,[],(shlV .u64 1 m_0.1),0,()),((m_0.1,m_0.2,()),()))).bind fun t3=>some (t3.1.1,0))))
def c8:Ctr:=⟨[(qfB,.imm),((.sl qay),.imm)],[((.sl tRAT),true),((.int .i64),false)],(List RAT)×Int,fun x=>qfQ x.1 x.2.1,fun r=>((),(r.1,r.2,())),none⟩
def qmb :Option (Int×Int×Int×(List WH)) :=
 some (0,0,0,[])
abbrev w28:Wir:=⟨[],[],0,some 4,[],[],0⟩
def c28:Ctr:=⟨[],[((.int .u32),false),((.int .i32),false),((.int .u32),false),((.sl tWH),false)],Int×Int×Int×(List WH),fun x=>qmb ,fun r=>((),(r.1,r.2.1,r.2.2.1,r.2.2.2,())),some w28⟩
abbrev qcU:SG:=⟨[(0,.v (.int .i64)),(3,.v (.int .i64)),(4,.v (.int .i64))],[],[],[]⟩
abbrev qdV:List (Ex×SG):=[(.exit 0,⟨[(3,.v (.int .i64))],[],[],[]⟩)]
def qbb (g:((Int×Int×Int×Unit)×Unit)->Option ((Int×Unit)×Unit)):((Int×Int×Int×Unit)×Unit)->Option ((Int×Unit)×Unit)
 | ((n_0,out_3,i_4,_),_)=>bif (decide (i_4<n_0)) then (g ((n_0,(imul .i64 2 out_3),(iadd .i64 i_4 1),()),())) else (some ((out_3,()),()))
def qbe (n_0:Int):Option Int :=
 (lp qbb K0 ((n_0,1,0,()),())).bind fun t1=>some t1.1.1
def c30:Ctr:=⟨[((.int .i64),.imm)],[((.int .i64),false)],Int,fun x=>qbe x.1,fun r=>((),(r,())),none⟩
abbrev qdi:SG:=⟨[(0,.v (.int .i64)),(1,.v (.int .i64)),(5,.v (.int .i64))],[],[],[]⟩
abbrev qep:List (Ex×SG):=[(.exit 0,⟨[(0,.v (.int .i64))],[],[],[]⟩)]
def qbm (g:((Int×Int×Int×Unit)×Unit)->Option ((Int×Unit)×Unit)):((Int×Int×Int×Unit)×Unit)->Option ((Int×Unit)×Unit)
 | ((set_0,feature_1,i_5,_),_)=>bif (decide (i_5<feature_1)) then (g (((iquo .i64 set_0 2),feature_1,(iadd .i64 i_5 1),()),())) else (some ((set_0,()),()))
def qdW (set_0:Int) (feature_1:Int):Option Bool :=
 (lp qbm K0 ((set_0,feature_1,0,()),())).bind fun t1=>some (decide ((irem t1.1.1 2)=1))
def c31:Ctr:=⟨[((.int .i64),.imm),((.int .i64),.imm)],[(.bool,false)],Bool,fun x=>qdW x.1 x.2.1,fun r=>((),(r,())),none⟩
abbrev qcL:SG:=⟨[(0,.v (.int .i64)),(1,.v (.int .i64)),(5,.v (.int .i64)),(6,.v (.int .i64))],[],[],[]⟩
abbrev qdv:List (Ex×SG):=[(.exit 0,⟨[(5,.v (.int .i64))],[],[],[]⟩)]
def qaZ (g:((Int×Int×Int×Int×Unit)×Unit)->Option ((Int×Unit)×Unit)):((Int×Int×Int×Int×Unit)×Unit)->Option ((Int×Unit)×Unit)
 | ((set_0,n_1,out_5,i_6,_),_)=>bif (decide (i_6<n_1)) then ((qdW set_0 i_6).bind fun r1=>bif r1 then (g ((set_0,n_1,(iadd .i64 out_5 1),(iadd .i64 i_6 1),()),())) else (g ((set_0,n_1,out_5,(iadd .i64 i_6 1),()),()))) else (some ((out_5,()),()))
def qdM (set_0:Int) (n_1:Int):Option Int :=
 (lp qaZ K0 ((set_0,n_1,0,0,()),())).bind fun t2=>some t2.1.1
def c32:Ctr:=⟨[((.int .i64),.imm),((.int .i64),.imm)],[((.int .i64),false)],Int,fun x=>qdM x.1 x.2.1,fun r=>((),(r,())),none⟩
abbrev qdD:SG:=⟨[(1,.p 8 0 0),(2,.o tWH 23),(7,.v (.int .i64))],[(8,[.v .bool,.v (.sl (.int .u64))])],[],[]⟩
abbrev qeA:List (Ex×SG):=[(.exit 0,⟨[(2,.o tWH 23)],[],[],[]⟩)]
abbrev qjz:=(((List WH)×Int×Unit)×((Bool×(List Int)×Unit)×Unit))
abbrev qjy:=(((List WH)×Unit)×Unit)
def qez (g:qjz->Option qjy):qjz->Option qjy
 | ((out_2,v_7,_),((b8_0,b8_1,_),_))=>bif (decide (v_7<64)) then ((qig (iadd .i64 v_7 1)).bind fun r2=>(qey (b8_0,b8_1) r2).bind fun r3=>bif j9 ((out_2.length+1)*32) 140737488355328&&!false then g (((out_2++([r3]:List WH)),(iadd .i64 v_7 1),()),((r3.1,r3.2,()),())) else none) else (some ((out_2,()),()))
def qfe :Option (List WH) :=
 (qig 1).bind fun r1=>(lp qez K0 ((([r1]:List WH),0,()),((r1.1,r1.2,()),()))).bind fun t4=>some t4.1.1
def c109:Ctr:=⟨[],[((.sl tWH),true)],(List WH),fun x=>qfe ,fun r=>((),(r,())),none⟩
def qfW (b_0:Int) (b_1:Int) (b_2:Int) (b_3:List WH):Option (Int×Int×Int×(List WH)) :=
 (qfe ).bind fun r1=>some (b_0,b_1,b_2,r1)
abbrev w108:Wir:=⟨[.b],[[.b],[.x,.x,.x,.x]],0,none,[],[],0⟩
def c108:Ctr:=⟨[((.int .u32),.imm),((.int .i32),.imm),((.int .u32),.imm),((.sl tWH),.imm)],[((.int .u32),false),((.int .i32),false),((.int .u32),false),((.sl tWH),false)],Int×Int×Int×(List WH),fun x=>qfW x.1 x.2.1 x.2.2.1 x.2.2.2.1,fun r=>((),(r.1,r.2.1,r.2.2.1,r.2.2.2,())),some w108⟩
def qi7 (a0:Int) (a1:Int) (a2:Int) (a3:Int) (a4:List WH):Option (WH×Int×Int×Int×(List WH)):=bif decide (0<=a0) then (bif decide (a1=0) then (bif decide (a2=0) then (qfe).bind fun p=>(p[a0.toNat]?).bind fun x=>some (x,1,0,a3,p) else none) else (a4[a0.toNat]?).bind fun x=>some (x,a1,a2,a3,a4)) else none
abbrev w83:Wir:=⟨[.b,.x],[[.x,.x,.x,.x]],1,none,[],[],0⟩
def c83:Ctr:=⟨[((.int .i64),.imm),((.int .u32),.imm),((.int .i32),.imm),((.int .u32),.imm),((.sl tWH),.imm)],[(tWH,false),((.int .u32),false),((.int .i32),false),((.int .u32),false),((.sl tWH),false)],WH×Int×Int×Int×(List WH),fun x=>qi7 x.1 x.2.1 x.2.2.1 x.2.2.2.1 x.2.2.2.2.1,fun r=>((),(r.1,r.2.1,r.2.2.1,r.2.2.2.1,r.2.2.2.2,())),some w83⟩
def qcA (a_0:Int) (b_1:Int) (c_2:Int) (b_3:Int) (b_4:Int) (b_5:Int) (b_6:List WH):Option (RAT×Int×Int×Int×(List WH)) :=
 (qi7 a_0 b_3 b_4 b_5 b_6).bind fun r1=>(qi7 b_1 r1.2.1 r1.2.2.1 r1.2.2.2.1 r1.2.2.2.2).bind fun r2=>(qey r1.1 r2.1).bind fun r3=>(qi7 c_2 r2.2.1 r2.2.2.1 r2.2.2.2.1 r2.2.2.2.2).bind fun r4=>(qhY r3 r4.1).bind fun r5=>some (r5.1,r4.2.1,r4.2.2.1,r4.2.2.2.1,r4.2.2.2.2)
abbrev w54:Wir:=⟨[.b,.x,.x,.x],[[.x,.x,.x,.x]],1,none,[],[],0⟩
def c54:Ctr:=⟨[((.int .i64),.imm),((.int .i64),.imm),((.int .i64),.imm),((.int .u32),.imm),((.int .i32),.imm),((.int .u32),.imm),((.sl tWH),.imm)],[(tRAT,false),((.int .u32),false),((.int .i32),false),((.int .u32),false),((.sl tWH),false)],RAT×Int×Int×Int×(List WH),fun x=>qcA x.1 x.2.1 x.2.2.1 x.2.2.2.1 x.2.2.2.2.1 x.2.2.2.2.2.1 x.2.2.2.2.2.2.1,fun r=>((),(r.1,r.2.1,r.2.2.1,r.2.2.2.1,r.2.2.2.2,())),some w54⟩
def qa2 (s_0:Int) (n_1:Int) (b_2:Int) (b_3:Int) (b_4:Int) (b_5:List WH):Option (RAT×Int×Int×Int×Int×(List WH)) :=
 bif (decide (n_1<1)) then (some (((false,[]),[]),8,b_2,b_3,b_4,b_5)) else (bif (decide (n_1>64)) then (some (((false,[]),[]),8,b_2,b_3,b_4,b_5)) else (bif (decide (s_0<0)) then (some (((false,[]),[]),8,b_2,b_3,b_4,b_5)) else (bif (decide (s_0>=n_1)) then (some (((false,[]),[]),8,b_2,b_3,b_4,b_5)) else ((qcA s_0 (isub .i64 (isub .i64 n_1 s_0) 1) n_1 b_2 b_3 b_4 b_5).bind fun r1=>some (r1.1,0,r1.2.1,r1.2.2.1,r1.2.2.2.1,r1.2.2.2.2)))))
abbrev w33:Wir:=⟨[.b,.x,.x],[[.x,.x,.x,.x]],2,none,[],[],0⟩
def c33:Ctr:=⟨[((.int .i64),.imm),((.int .i64),.imm),((.int .u32),.imm),((.int .i32),.imm),((.int .u32),.imm),((.sl tWH),.imm)],[(tRAT,false),((.int .i64),false),((.int .u32),false),((.int .i32),false),((.int .u32),false),((.sl tWH),false)],RAT×Int×Int×Int×Int×(List WH),fun x=>qa2 x.1 x.2.1 x.2.2.1 x.2.2.2.1 x.2.2.2.2.1 x.2.2.2.2.2.1,fun r=>((),(r.1,r.2.1,r.2.2.1,r.2.2.2.1,r.2.2.2.2.1,r.2.2.2.2.2,())),some w33⟩
abbrev qbu:SG:=⟨[(0,.v (.sl tRAT)),(1,.v (.int .i64)),(2,.v (.int .i64)),(3,.v .bool),(9,.p 151 0 0),(10,.v (.int .i64)),(11,.o tRAT 95),(12,.v (.int .i64)),(13,.p 104 0 0),(14,.v (.int .i64))],[(104,[.v .bool,.v (.sl (.int .u64)),.v (.sl (.int .u64))]),(151,[.v (.int .u32),.v (.int .i32),.v (.int .u32),.v (.sl tWH)])],[],[]⟩
abbrev qch:List (Ex×SG):=[(.exit 2,⟨[(0,.v (.sl tRAT)),(1,.v (.int .i64)),(2,.v (.int .i64)),(3,.v .bool),(9,.p 151 0 0),(10,.v (.int .i64)),(11,.o tRAT 95),(12,.v (.int .i64)),(13,.p 104 0 0)],[(104,[.v .bool,.v (.sl (.int .u64)),.v (.sl (.int .u64))]),(151,[.v (.int .u32),.v (.int .i32),.v (.int .u32),.v (.sl tWH)])],[],[]⟩)]
abbrev qge:=(((List RAT)×Int×Int×Bool×Int×(List RAT)×Int×Int×Unit)×((Bool×(List Int)×(List Int)×Unit)×(Int×Int×Int×(List WH)×Unit)×Unit))
abbrev qgd:=(((List RAT)×Int×Int×Bool×Int×(List RAT)×Int×Unit)×((Bool×(List Int)×(List Int)×Unit)×(Int×Int×Int×(List WH)×Unit)×Unit))
def qav (g:qge->Option qgd):qge->Option qgd
 | ((v_0,v_1,v_2,v_3,v_10,v_11,v_12,v_14,_),((b104_0,b104_1,b104_2,_),(b151_0,b151_1,b151_2,b151_3,_),_))=>(qbe v_1).bind fun r3=>bif (decide (v_14<r3)) then (bif (!decide (v_12=v_2)) then ((qdW v_14 v_12).bind fun r4=>bif r4 then (g ((v_0,v_1,v_2,v_3,v_10,v_11,v_12,(iadd .i64 v_14 1),()),((b104_0,b104_1,b104_2,()),(b151_0,b151_1,b151_2,b151_3,()),()))) else (bif (decide (v_2>=0)) then ((qdW v_14 v_2).bind fun r5=>bif (!(r5 == v_3)) then (g ((v_0,v_1,v_2,v_3,v_10,v_11,v_12,(iadd .i64 v_14 1),()),((b104_0,b104_1,b104_2,()),(b151_0,b151_1,b151_2,b151_3,()),()))) else ((qdM v_14 v_1).bind fun r6=>bif (decide (v_2>=0)) then (bif v_3 then ((qa2 (isub .i64 r6 1) v_10 b151_0 b151_1 b151_2 b151_3).bind fun r7=>(qbe v_12).bind fun r8=>bif decide (0<=(iadd .i64 v_14 r8)) then (v_0[(iadd .i64 v_14 r8).toNat]?).bind fun x9=>bif decide (0<=v_14) then (v_0[v_14.toNat]?).bind fun x10=>(qcZ x9 x10).bind fun r11=>(qaj r7.1 r11).bind fun r12=>(qaU ((b104_0,b104_1),b104_2) r12).bind fun r13=>g ((v_0,v_1,v_2,v_3,v_10,v_11,v_12,(iadd .i64 v_14 1),()),((r13.1.1,r13.1.2,r13.2,()),(r7.2.2.1,r7.2.2.2.1,r7.2.2.2.2.1,r7.2.2.2.2.2,()),())) else none else none) else ((qa2 r6 v_10 b151_0 b151_1 b151_2 b151_3).bind fun r14=>(qbe v_12).bind fun r15=>bif decide (0<=(iadd .i64 v_14 r15)) then (v_0[(iadd .i64 v_14 r15).toNat]?).bind fun x16=>bif decide (0<=v_14) then (v_0[v_14.toNat]?).bind fun x17=>(qcZ x16 x17).bind fun r18=>(qaj r14.1 r18).bind fun r19=>(qaU ((b104_0,b104_1),b104_2) r19).bind fun r20=>g ((v_0,v_1,v_2,v_3,v_10,v_11,v_12,(iadd .i64 v_14 1),()),((r20.1.1,r20.1.2,r20.2,()),(r14.2.2.1,r14.2.2.2.1,r14.2.2.2.2.1,r14.2.2.2.2.2,()),())) else none else none)) else ((qa2 r6 v_10 b151_0 b151_1 b151_2 b151_3).bind fun r21=>(qbe v_12).bind fun r22=>bif decide (0<=(iadd .i64 v_14 r22)) then (v_0[(iadd .i64 v_14 r22).toNat]?).bind fun x23=>bif decide (0<=v_14) then (v_0[v_14.toNat]?).bind fun x24=>(qcZ x23 x24).bind fun r25=>(qaj r21.1 r25).bind fun r26=>(qaU ((b104_0,b104_1),b104_2) r26).bind fun r27=>g ((v_0,v_1,v_2,v_3,v_10,v_11,v_12,(iadd .i64 v_14 1),()),((r27.1.1,r27.1.2,r27.2,()),(r21.2.2.1,r21.2.2.2.1,r21.2.2.2.2.1,r21.2.2.2.2.2,()),())) else none else none))) else ((qdM v_14 v_1).bind fun r28=>bif (decide (v_2>=0)) then (bif v_3 then ((qa2 (isub .i64 r28 1) v_10 b151_0 b151_1 b151_2 b151_3).bind fun r29=>(qbe v_12).bind fun r30=>bif decide (0<=(iadd .i64 v_14 r30)) then (v_0[(iadd .i64 v_14 r30).toNat]?).bind fun x31=>bif decide (0<=v_14) then (v_0[v_14.toNat]?).bind fun x32=>(qcZ x31 x32).bind fun r33=>(qaj r29.1 r33).bind fun r34=>(qaU ((b104_0,b104_1),b104_2) r34).bind fun r35=>g ((v_0,v_1,v_2,v_3,v_10,v_11,v_12,(iadd .i64 v_14 1),()),((r35.1.1,r35.1.2,r35.2,()),(r29.2.2.1,r29.2.2.2.1,r29.2.2.2.2.1,r29.2.2.2.2.2,()),())) else none else none) else ((qa2 r28 v_10 b151_0 b151_1 b151_2 b151_3).bind fun r36=>(qbe v_12).bind fun r37=>bif decide (0<=(iadd .i64 v_14 r37)) then (v_0[(iadd .i64 v_14 r37).toNat]?).bind fun x38=>bif decide (0<=v_14) then (v_0[v_14.toNat]?).bind fun x39=>(qcZ x38 x39).bind fun r40=>(qaj r36.1 r40).bind fun r41=>(qaU ((b104_0,b104_1),b104_2) r41).bind fun r42=>g ((v_0,v_1,v_2,v_3,v_10,v_11,v_12,(iadd .i64 v_14 1),()),((r42.1.1,r42.1.2,r42.2,()),(r36.2.2.1,r36.2.2.2.1,r36.2.2.2.2.1,r36.2.2.2.2.2,()),())) else none else none)) else ((qa2 r28 v_10 b151_0 b151_1 b151_2 b151_3).bind fun r43=>(qbe v_12).bind fun r44=>bif decide (0<=(iadd .i64 v_14 r44)) then (v_0[(iadd .i64 v_14 r44).toNat]?).bind fun x45=>bif decide (0<=v_14) then (v_0[v_14.toNat]?).bind fun x46=>(qcZ x45 x46).bind fun r47=>(qaj r43.1 r47).bind fun r48=>(qaU ((b104_0,b104_1),b104_2) r48).bind fun r49=>g ((v_0,v_1,v_2,v_3,v_10,v_11,v_12,(iadd .i64 v_14 1),()),((r49.1.1,r49.1.2,r49.2,()),(r43.2.2.1,r43.2.2.2.1,r43.2.2.2.2.1,r43.2.2.2.2.2,()),())) else none else none)))) else (some ((v_0,v_1,v_2,v_3,v_10,v_11,v_12,()),((b104_0,b104_1,b104_2,()),(b151_0,b151_1,b151_2,b151_3,()),())))) else (some ((v_0,v_1,v_2,v_3,v_10,v_11,v_12,()),((b104_0,b104_1,b104_2,()),(b151_0,b151_1,b151_2,b151_3,()),())))
abbrev qbJ:SG:=⟨[(0,.v (.sl tRAT)),(1,.v (.int .i64)),(2,.v (.int .i64)),(3,.v .bool),(9,.p 151 0 0),(10,.v (.int .i64)),(11,.o tRAT 95),(12,.v (.int .i64))],[(151,[.v (.int .u32),.v (.int .i32),.v (.int .u32),.v (.sl tWH)])],[],[]⟩
abbrev qcz:List (Ex×SG):=[(.exit 0,⟨[(11,.o tRAT 95)],[],[],[]⟩)]
abbrev qgA:=(((List RAT)×Int×Int×Bool×Int×(List RAT)×Int×Unit)×((Int×Int×Int×(List WH)×Unit)×Unit))
abbrev qgz:=(((List RAT)×Unit)×Unit)
def qaA (g:qgA->Option qgz):qgA->Option qgz
 | ((v_0,v_1,v_2,v_3,v_10,v_11,v_12,_),((b151_0,b151_1,b151_2,b151_3,_),_))=>bif (decide (v_12<v_1)) then ((qdE ).bind fun r2=>(lp qav K0 ((v_0,v_1,v_2,v_3,v_10,v_11,v_12,0,()),((r2.1.1,r2.1.2,r2.2,()),(b151_0,b151_1,b151_2,b151_3,()),()))).bind fun t50=>bif j9 ((t50.1.2.2.2.2.2.1.length+1)*56) 140737488355328&&!false then g ((t50.1.1,t50.1.2.1,t50.1.2.2.1,t50.1.2.2.2.1,t50.1.2.2.2.2.1,(t50.1.2.2.2.2.2.1++([((t50.2.1.1,t50.2.1.2.1),t50.2.1.2.2.1)]:List RAT)),(iadd .i64 t50.1.2.2.2.2.2.2.1 1),()),((t50.2.2.1.1,t50.2.2.1.2.1,t50.2.2.1.2.2.1,t50.2.2.1.2.2.2.1,()),())) else none) else (some ((v_11,()),()))
def qbM (a_0:List RAT) (a_1:Int) (a_2:Int) (a_3:Bool):Option (List RAT) :=
 (qmb ).bind fun r1=>bif (decide (a_2>=0)) then ((lp qaA K0 ((a_0,a_1,a_2,a_3,(isub .i64 a_1 1),[],0,()),((r1.1,r1.2.1,r1.2.2.1,r1.2.2.2,()),()))).bind fun t51=>some t51.1.1) else ((lp qaA K0 ((a_0,a_1,a_2,a_3,a_1,[],0,()),((r1.1,r1.2.1,r1.2.2.1,r1.2.2.2,()),()))).bind fun t52=>some t52.1.1)
def c9:Ctr:=⟨[((.sl tRAT),.imm),((.int .i64),.imm),((.int .i64),.imm),(.bool,.imm)],[((.sl tRAT),true)],(List RAT),fun x=>qbM x.1 x.2.1 x.2.2.1 x.2.2.2.1,fun r=>((),(r,())),none⟩
abbrev qcT:SG:=⟨[(0,.v (.int .i64)),(3,.v (.int .i64)),(4,.v (.int .i64))],[],[],[]⟩
abbrev qdT:List (Ex×SG):=[(.exit 0,⟨[(3,.v (.int .i64))],[],[],[]⟩)]
def qba (g:((Int×Int×Int×Unit)×Unit)->Option ((Int×Unit)×Unit)):((Int×Int×Int×Unit)×Unit)->Option ((Int×Unit)×Unit)
 | ((n_0,out_3,i_4,_),_)=>bif (decide (i_4<n_0)) then (g ((n_0,(imul .i64 2 out_3),(iadd .i64 i_4 1),()),())) else (some ((out_3,()),()))
def qbW (n_0:Int):Option Int :=
 (lp qba K0 ((n_0,1,0,()),())).bind fun t1=>some t1.1.1
def c36:Ctr:=⟨[((.int .i64),.imm)],[((.int .i64),false)],Int,fun x=>qbW x.1,fun r=>((),(r,())),none⟩
abbrev qdh:SG:=⟨[(0,.v (.int .i64)),(1,.v (.int .i64)),(5,.v (.int .i64))],[],[],[]⟩
abbrev qek:List (Ex×SG):=[(.exit 0,⟨[(0,.v (.int .i64))],[],[],[]⟩)]
def qbl (g:((Int×Int×Int×Unit)×Unit)->Option ((Int×Unit)×Unit)):((Int×Int×Int×Unit)×Unit)->Option ((Int×Unit)×Unit)
 | ((set_0,feature_1,i_5,_),_)=>bif (decide (i_5<feature_1)) then (g (((iquo .i64 set_0 2),feature_1,(iadd .i64 i_5 1),()),())) else (some ((set_0,()),()))
def qdU (set_0:Int) (feature_1:Int):Option Bool :=
 (lp qbl K0 ((set_0,feature_1,0,()),())).bind fun t1=>some (decide ((irem t1.1.1 2)=1))
def c37:Ctr:=⟨[((.int .i64),.imm),((.int .i64),.imm)],[(.bool,false)],Bool,fun x=>qdU x.1 x.2.1,fun r=>((),(r,())),none⟩
def qfa (s_0:Int) (n_1:Int) (b_2:Int) (b_3:Int) (b_4:Int) (b_5:List WH):Option (RAT×Int×Int×Int×Int×(List WH)) :=
 bif (decide (n_1<2)) then (some (((false,[]),[]),8,b_2,b_3,b_4,b_5)) else (bif (decide (n_1>64)) then (some (((false,[]),[]),8,b_2,b_3,b_4,b_5)) else (bif (decide (s_0<0)) then (some (((false,[]),[]),8,b_2,b_3,b_4,b_5)) else (bif (decide (s_0>(isub .i64 n_1 2))) then (some (((false,[]),[]),8,b_2,b_3,b_4,b_5)) else ((qcA s_0 (isub .i64 (isub .i64 n_1 s_0) 2) (isub .i64 n_1 1) b_2 b_3 b_4 b_5).bind fun r1=>(qdc 1 2).bind fun r2=>(qaj r1.1 r2).bind fun r3=>some (r3,0,r1.2.1,r1.2.2.1,r1.2.2.2.1,r1.2.2.2.2)))))
abbrev w38:Wir:=⟨[.b,.x,.x],[[.x,.x,.x,.x]],2,none,[],[],0⟩
def c38:Ctr:=⟨[((.int .i64),.imm),((.int .i64),.imm),((.int .u32),.imm),((.int .i32),.imm),((.int .u32),.imm),((.sl tWH),.imm)],[(tRAT,false),((.int .i64),false),((.int .u32),false),((.int .i32),false),((.int .u32),false),((.sl tWH),false)],RAT×Int×Int×Int×Int×(List WH),fun x=>qfa x.1 x.2.1 x.2.2.1 x.2.2.2.1 x.2.2.2.2.1 x.2.2.2.2.2.1,fun r=>((),(r.1,r.2.1,r.2.2.1,r.2.2.2.1,r.2.2.2.2.1,r.2.2.2.2.2,())),some w38⟩
abbrev qcJ:SG:=⟨[(0,.v (.sl tRAT)),(1,.v (.int .i64)),(2,.v (.int .i64)),(3,.v (.int .i64)),(8,.p 64 0 0),(9,.p 151 0 0),(10,.p 80 0 0),(11,.v (.int .i64)),(12,.v (.int .i64)),(13,.v (.int .i64))],[(64,[.v .bool,.o (.int .u64) 66,.o (.int .u64) 67]),(80,[.v .bool,.v (.sl (.int .u64)),.v (.sl (.int .u64))]),(151,[.v (.int .u32),.v (.int .i32),.v (.int .u32),.v (.sl tWH)])],[],[]⟩
abbrev qdt:List (Ex×SG):=[(.exit 2,⟨[(0,.v (.sl tRAT)),(1,.v (.int .i64)),(2,.v (.int .i64)),(3,.v (.int .i64)),(8,.p 64 0 0),(9,.p 151 0 0),(10,.p 80 0 0),(11,.v (.int .i64)),(12,.v (.int .i64))],[(64,[.v .bool,.o (.int .u64) 66,.o (.int .u64) 67]),(80,[.v .bool,.v (.sl (.int .u64)),.v (.sl (.int .u64))]),(151,[.v (.int .u32),.v (.int .i32),.v (.int .u32),.v (.sl tWH)])],[],[]⟩)]
abbrev qhN:=(((List RAT)×Int×Int×Int×Int×Int×Int×Unit)×((Bool×(List Int)×(List Int)×Unit)×(Bool×(List Int)×(List Int)×Unit)×(Int×Int×Int×(List WH)×Unit)×Unit))
abbrev qhM:=(((List RAT)×Int×Int×Int×Int×Int×Unit)×((Bool×(List Int)×(List Int)×Unit)×(Bool×(List Int)×(List Int)×Unit)×(Int×Int×Int×(List WH)×Unit)×Unit))
def qaY (g:qhN->Option qhM):qhN->Option qhM
 | ((v_0,v_1,v_2,v_3,v_11,v_12,v_13,_),((b64_0,b64_1,b64_2,_),(b80_0,b80_1,b80_2,_),(b151_0,b151_1,b151_2,b151_3,_),_))=>bif (decide (v_13<v_1)) then ((qdU v_11 v_13).bind fun r6=>bif r6 then (g ((v_0,v_1,v_2,v_3,v_11,(iadd .i64 v_12 1),(iadd .i64 v_13 1),()),((b64_0,b64_1,b64_2,()),(b80_0,b80_1,b80_2,()),(b151_0,b151_1,b151_2,b151_3,()),()))) else (g ((v_0,v_1,v_2,v_3,v_11,v_12,(iadd .i64 v_13 1),()),((b64_0,b64_1,b64_2,()),(b80_0,b80_1,b80_2,()),(b151_0,b151_1,b151_2,b151_3,()),())))) else (some ((v_0,v_1,v_2,v_3,v_11,v_12,()),((b64_0,b64_1,b64_2,()),(b80_0,b80_1,b80_2,()),(b151_0,b151_1,b151_2,b151_3,()),())))
abbrev qcK:SG:=⟨[(0,.v (.sl tRAT)),(1,.v (.int .i64)),(2,.v (.int .i64)),(3,.v (.int .i64)),(8,.p 64 0 0),(9,.p 151 0 0),(10,.p 80 0 0),(11,.v (.int .i64))],[(64,[.v .bool,.o (.int .u64) 66,.o (.int .u64) 67]),(80,[.v .bool,.v (.sl (.int .u64)),.v (.sl (.int .u64))]),(151,[.v (.int .u32),.v (.int .i32),.v (.int .u32),.v (.sl tWH)])],[],[]⟩
abbrev qdu:List (Ex×SG):=[(.exit 0,⟨[(8,.p 64 0 0),(10,.p 80 0 0)],[(64,[.v .bool,.o (.int .u64) 66,.o (.int .u64) 67]),(80,[.v .bool,.v (.sl (.int .u64)),.v (.sl (.int .u64))])],[],[]⟩)]
abbrev qhP:=(((List RAT)×Int×Int×Int×Int×Unit)×((Bool×(List Int)×(List Int)×Unit)×(Bool×(List Int)×(List Int)×Unit)×(Int×Int×Int×(List WH)×Unit)×Unit))
abbrev qhO:=(Unit×((Bool×(List Int)×(List Int)×Unit)×(Bool×(List Int)×(List Int)×Unit)×Unit))
def qaL (g:qhP->Option qhO):qhP->Option qhO
 | ((v_0,v_1,v_2,v_3,v_11,_),((b64_0,b64_1,b64_2,_),(b80_0,b80_1,b80_2,_),(b151_0,b151_1,b151_2,b151_3,_),_))=>(qbW v_1).bind fun r3=>bif (decide (v_11<r3)) then ((qdU v_11 v_2).bind fun r4=>bif r4 then (g ((v_0,v_1,v_2,v_3,(iadd .i64 v_11 1),()),((b64_0,b64_1,b64_2,()),(b80_0,b80_1,b80_2,()),(b151_0,b151_1,b151_2,b151_3,()),()))) else ((qdU v_11 v_3).bind fun r5=>bif r5 then (g ((v_0,v_1,v_2,v_3,(iadd .i64 v_11 1),()),((b64_0,b64_1,b64_2,()),(b80_0,b80_1,b80_2,()),(b151_0,b151_1,b151_2,b151_3,()),()))) else ((lp qaY K0 ((v_0,v_1,v_2,v_3,v_11,0,0,()),((b64_0,b64_1,b64_2,()),(b80_0,b80_1,b80_2,()),(b151_0,b151_1,b151_2,b151_3,()),()))).bind fun t7=>(qfa t7.1.2.2.2.2.2.1 t7.1.2.1 t7.2.2.2.1.1 t7.2.2.2.1.2.1 t7.2.2.2.1.2.2.1 t7.2.2.2.1.2.2.2.1).bind fun r8=>(qbW t7.1.2.2.1).bind fun r9=>(qbW t7.1.2.2.2.1).bind fun r10=>bif decide (0<=(iadd .i64 (iadd .i64 t7.1.2.2.2.2.1 r9) r10)) then (t7.1.1[(iadd .i64 (iadd .i64 t7.1.2.2.2.2.1 r9) r10).toNat]?).bind fun x11=>bif decide (0<=t7.1.2.2.2.2.1) then (t7.1.1[t7.1.2.2.2.2.1.toNat]?).bind fun x12=>(qaU x11 x12).bind fun r13=>(qbW t7.1.2.2.1).bind fun r14=>bif decide (0<=(iadd .i64 t7.1.2.2.2.2.1 r14)) then (t7.1.1[(iadd .i64 t7.1.2.2.2.2.1 r14).toNat]?).bind fun x15=>(qbW t7.1.2.2.2.1).bind fun r16=>bif decide (0<=(iadd .i64 t7.1.2.2.2.2.1 r16)) then (t7.1.1[(iadd .i64 t7.1.2.2.2.2.1 r16).toNat]?).bind fun x17=>(qaU x15 x17).bind fun r18=>(qcZ r13 r18).bind fun r19=>(qaj r8.1 r19).bind fun r20=>(qaU ((t7.2.2.1.1,t7.2.2.1.2.1),t7.2.2.1.2.2.1) r20).bind fun r21=>g ((t7.1.1,t7.1.2.1,t7.1.2.2.1,t7.1.2.2.2.1,(iadd .i64 t7.1.2.2.2.2.1 1),()),((t7.2.1.1,t7.2.1.2.1,t7.2.1.2.2.1,()),(r21.1.1,r21.1.2,r21.2,()),(r8.2.2.1,r8.2.2.2.1,r8.2.2.2.2.1,r8.2.2.2.2.2,()),())) else none else none else none else none))) else (some ((()),((b64_0,b64_1,b64_2,()),(b80_0,b80_1,b80_2,()),())))
def qdL (a_0:List RAT) (a_1:Int) (a_2:Int) (a_3:Int):Option RAT :=
 (qmb ).bind fun r1=>(qdE ).bind fun r2=>(lp qaL K0 ((a_0,a_1,a_2,a_3,0,()),((false,[],[],()),(r2.1.1,r2.1.2,r2.2,()),(r1.1,r1.2.1,r1.2.2.1,r1.2.2.2,()),()))).bind fun t22=>some ((t22.2.2.1.1,t22.2.2.1.2.1),t22.2.2.1.2.2.1)
def c10:Ctr:=⟨[((.sl tRAT),.imm),((.int .i64),.imm),((.int .i64),.imm),((.int .i64),.imm)],[(tRAT,false)],RAT,fun x=>qdL x.1 x.2.1 x.2.2.1 x.2.2.2.1,fun r=>((),(r,())),none⟩
abbrev qcc:SG:=⟨[(0,.v (.int .i64)),(3,.o (.int .i64) 31)],[],[],[]⟩
abbrev qc6:List (Ex×SG):=[(.exit 0,⟨[(3,.o (.int .i64) 31)],[],[],[]⟩)]
def qa6 (g:((Int×(List Int)×Unit)×Unit)->Option (((List Int)×Unit)×Unit)):((Int×(List Int)×Unit)×Unit)->Option (((List Int)×Unit)×Unit)
 | ((n_0,out_3,_),_)=>bif (decide (n_0>0)) then (bif j9 ((out_3.length+1)*8) 140737488355328&&!false then g (((iquo .i64 n_0 10000),(out_3++([(irem n_0 10000)]:List Int)),()),()) else none) else (some ((out_3,()),()))
def qao (n_0:Int):Option (List Int) :=
 (lp qa6 K0 ((n_0,[],()),())).bind fun t1=>some t1.1.1
def c92:Ctr:=⟨[((.int .i64),.imm)],[((.sl (.int .i64)),true)],(List Int),fun x=>qao x.1,fun r=>((),(r,())),none⟩
def qaN (a_0:List Int) (i_1:Int):Option Int :=
 bif (decide (i_1<(a_0.length:Int))) then (bif decide (0<=i_1) then (a_0[i_1.toNat]?).bind fun x1=>some x1 else none) else (some 0)
def c121:Ctr:=⟨[((.sl (.int .i64)),.imm),((.int .i64),.imm)],[((.int .i64),false)],Int,fun x=>qaN x.1 x.2.1,fun r=>((),(r,())),none⟩
abbrev qcG:SG:=⟨[(0,.v (.sl (.int .i64))),(1,.v (.sl (.int .i64))),(5,.o (.int .i64) 47),(6,.v (.int .i64)),(7,.v (.int .i64))],[],[],[]⟩
abbrev qdq:List (Ex×SG):=[(.exit 0,⟨[(5,.o (.int .i64) 47)],[],[],[]⟩)]
abbrev qhH:=(((List Int)×(List Int)×(List Int)×Int×Int×Unit)×Unit)
abbrev qhG:=(((List Int)×Unit)×Unit)
def qaK (g:qhH->Option qhG):qhH->Option qhG
 | ((a_0,b_1,out_5,c_6,i_7,_),_)=>bif (decide (i_7<(a_0.length:Int))) then ((qaN a_0 i_7).bind fun r1=>(qaN b_1 i_7).bind fun r2=>bif j9 ((out_5.length+1)*8) 140737488355328&&!false then g ((a_0,b_1,(out_5++([(irem (iadd .i64 (iadd .i64 c_6 r1) r2) 10000)]:List Int)),(iquo .i64 (iadd .i64 (iadd .i64 c_6 r1) r2) 10000),(iadd .i64 i_7 1),()),()) else none) else (bif (decide (i_7<(b_1.length:Int))) then ((qaN a_0 i_7).bind fun r3=>(qaN b_1 i_7).bind fun r4=>bif j9 ((out_5.length+1)*8) 140737488355328&&!false then g ((a_0,b_1,(out_5++([(irem (iadd .i64 (iadd .i64 c_6 r3) r4) 10000)]:List Int)),(iquo .i64 (iadd .i64 (iadd .i64 c_6 r3) r4) 10000),(iadd .i64 i_7 1),()),()) else none) else (bif (decide (c_6>0)) then ((qaN a_0 i_7).bind fun r5=>(qaN b_1 i_7).bind fun r6=>bif j9 ((out_5.length+1)*8) 140737488355328&&!false then g ((a_0,b_1,(out_5++([(irem (iadd .i64 (iadd .i64 c_6 r5) r6) 10000)]:List Int)),(iquo .i64 (iadd .i64 (iadd .i64 c_6 r5) r6) 10000),(iadd .i64 i_7 1),()),()) else none) else (some ((out_5,()),()))))
def qdK (a_0:List Int) (b_1:List Int):Option (List Int) :=
 (lp qaK K0 ((a_0,b_1,[],0,0,()),())).bind fun t7=>some t7.1.1
def c96:Ctr:=⟨[((.sl (.int .i64)),.imm),((.sl (.int .i64)),.imm)],[((.sl (.int .i64)),true)],(List Int),fun x=>qdK x.1 x.2.1,fun r=>((),(r,())),none⟩
abbrev qcF:SG:=⟨[(0,.v (.sl (.int .i64))),(3,.v (.int .i64))],[],[],[]⟩
abbrev qdp:List (Ex×SG):=[(.exit 0,⟨[(0,.v (.sl (.int .i64))),(3,.v (.int .i64))],[],[],[]⟩)]
def qaX (g:(((List Int)×Int×Unit)×Unit)->Option (((List Int)×Int×Unit)×Unit)):(((List Int)×Int×Unit)×Unit)->Option (((List Int)×Int×Unit)×Unit)
 | ((a_0,n_3,_),_)=>bif (decide (n_3>0)) then (bif decide (0<=(isub .i64 n_3 1)) then (a_0[(isub .i64 n_3 1).toNat]?).bind fun x1=>bif (decide (x1=0)) then (g ((a_0,(isub .i64 n_3 1),()),())) else (some ((a_0,n_3,()),())) else none) else (some ((a_0,n_3,()),()))
def qb9 (a_0:List Int):Option (List Int) :=
 (lp qaX K0 ((a_0,(a_0.length:Int),()),())).bind fun t2=>bif decide (0<=t2.1.2.1)&&decide ((t2.1.2.1:Int)<=(t2.1.1.length:Int)) then some (t2.1.1.take t2.1.2.1.toNat) else none
def c122:Ctr:=⟨[((.sl (.int .i64)),.imm)],[((.sl (.int .i64)),false)],(List Int),fun x=>qb9 x.1,fun r=>((),(r,())),none⟩
abbrev qca:SG:=⟨[(0,.v (.sl (.int .i64))),(1,.v (.sl (.int .i64))),(5,.o (.int .i64) 47),(6,.v (.int .i64)),(7,.v (.int .i64)),(8,.v (.int .i64))],[],[],[]⟩
abbrev qc4:List (Ex×SG):=[(.exit 2,⟨[(0,.v (.sl (.int .i64))),(1,.v (.sl (.int .i64))),(5,.o (.int .i64) 47),(6,.v (.int .i64)),(7,.v (.int .i64))],[],[],[]⟩)]
abbrev qhr:=(((List Int)×(List Int)×(List Int)×Int×Int×Int×Unit)×Unit)
abbrev qhq:=(((List Int)×(List Int)×(List Int)×Int×Int×Unit)×Unit)
def qaO (g:qhr->Option qhq):qhr->Option qhq
 | ((a_0,b_1,out_5,i_6,c_7,k_8,_),_)=>bif (decide (k_8<(b_1.length:Int))) then (bif decide (0<=(iadd .i64 i_6 k_8))&&decide ((iadd .i64 i_6 k_8)<(out_5.length:Int)) then (out_5[(iadd .i64 i_6 k_8).toNat]?).bind fun x1=>bif decide (0<=i_6) then (a_0[i_6.toNat]?).bind fun x2=>bif decide (0<=k_8) then (b_1[k_8.toNat]?).bind fun x3=>bif decide (0<=(iadd .i64 i_6 k_8))&&decide ((iadd .i64 i_6 k_8)<(out_5.length:Int)) then (out_5[(iadd .i64 i_6 k_8).toNat]?).bind fun _=>g ((a_0,b_1,(out_5.set ((iadd .i64 i_6 k_8).toNat) (irem (iadd .i64 (iadd .i64 c_7 x1) (imul .i64 x2 x3)) 10000)),i_6,(iquo .i64 (iadd .i64 (iadd .i64 c_7 x1) (imul .i64 x2 x3)) 10000),(iadd .i64 k_8 1),()),()) else none else none else none else none) else (some ((a_0,b_1,out_5,i_6,c_7,()),()))
abbrev qcb:SG:=⟨[(0,.v (.sl (.int .i64))),(1,.v (.sl (.int .i64))),(5,.o (.int .i64) 47),(6,.v (.int .i64))],[],[],[]⟩
abbrev qc5:List (Ex×SG):=[(.exit 0,⟨[(5,.o (.int .i64) 47)],[],[],[]⟩)]
abbrev qht:=(((List Int)×(List Int)×(List Int)×Int×Unit)×Unit)
abbrev qhs:=(((List Int)×Unit)×Unit)
def qa5 (g:qht->Option qhs):qht->Option qhs
 | ((a_0,b_1,out_5,i_6,_),_)=>bif (decide (i_6<(a_0.length:Int))) then ((lp qaO K0 ((a_0,b_1,out_5,i_6,0,0,()),())).bind fun t5=>bif decide (0<=(iadd .i64 t5.1.2.2.2.1 (t5.1.2.1.length:Int)))&&decide ((iadd .i64 t5.1.2.2.2.1 (t5.1.2.1.length:Int))<(t5.1.2.2.1.length:Int)) then (t5.1.2.2.1[(iadd .i64 t5.1.2.2.2.1 (t5.1.2.1.length:Int)).toNat]?).bind fun _=>g ((t5.1.1,t5.1.2.1,(t5.1.2.2.1.set ((iadd .i64 t5.1.2.2.2.1 (t5.1.2.1.length:Int)).toNat) t5.1.2.2.2.2.1),(iadd .i64 t5.1.2.2.2.1 1),()),()) else none) else (some ((out_5,()),()))
def qbP (a_0:List Int) (b_1:List Int):Option (List Int) :=
 bif decide ((iadd .i64 (a_0.length:Int) (b_1.length:Int))=(iadd .i64 (a_0.length:Int) (b_1.length:Int)))&&decide (0<=(iadd .i64 (a_0.length:Int) (b_1.length:Int)))&&decide (((8:Nat):Int)*(iadd .i64 (a_0.length:Int) (b_1.length:Int))<=281474976710656)&&decide ((iadd .i64 (a_0.length:Int) (b_1.length:Int))<=9223372036854775807) then (lp qa5 K0 ((a_0,b_1,(ja (iadd .i64 (a_0.length:Int) (b_1.length:Int)).toNat (0:Int)),0,()),())).bind fun t7=>(qb9 t7.1.1).bind fun r8=>some r8 else none
def c97:Ctr:=⟨[((.sl (.int .i64)),.imm),((.sl (.int .i64)),.imm)],[((.sl (.int .i64)),false)],(List Int),fun x=>qbP x.1 x.2.1,fun r=>((),(r,())),none⟩
abbrev qcI:SG:=⟨[(0,.v (.sl (.int .u64))),(3,.o (.int .i64) 31),(4,.v (.sl (.int .i64))),(5,.v (.int .i64))],[],[],[]⟩
abbrev qds:List (Ex×SG):=[(.exit 0,⟨[(3,.o (.int .i64) 31)],[],[],[]⟩)]
abbrev qhL:=(((List Int)×(List Int)×(List Int)×Int×Unit)×Unit)
abbrev qhK:=(((List Int)×Unit)×Unit)
def qbh (g:qhL->Option qhK):qhL->Option qhK
 | ((a_0,out_3,unit_4,i_5,_),_)=>bif (decide (i_5>=0)) then ((qbP out_3 unit_4).bind fun r2=>bif decide (0<=i_5) then (a_0[i_5.toNat]?).bind fun x3=>(qao (IntKind.wrap .i64 (iand .u64 x3 4294967295))).bind fun r4=>(qdK r2 r4).bind fun r5=>g ((a_0,r5,unit_4,(isub .i64 i_5 1),()),()) else none) else (some ((out_3,()),()))
def qaM (a_0:List Int):Option (List Int) :=
 (qao 4294967296).bind fun r1=>(lp qbh K0 ((a_0,[],r1,(isub .i64 (a_0.length:Int) 1),()),())).bind fun t6=>some t6.1.1
def c63:Ctr:=⟨[((.sl (.int .u64)),.imm)],[((.sl (.int .i64)),true)],(List Int),fun x=>qaM x.1,fun r=>((),(r,())),none⟩
def qb8 (neg_0:Bool) (n_1:List Int):Option (Bool×List Int) :=
 bif neg_0 then (some ((decide ((n_1.length:Int)>0)),n_1)) else (some (false,n_1))
def c99:Ctr:=⟨[(.bool,.imm),((.sl (.int .i64)),.imm)],[((.pair .bool (.sl (.int .i64))),false)],(Bool×List Int),fun x=>qb8 x.1 x.2.1,fun r=>((),(r,())),none⟩
def qfs (n_0:Int):Option (Bool×List Int) :=
 bif (decide (n_0<0)) then ((qao (isub .i64 0 (iadd .i64 n_0 1))).bind fun r1=>(qao 1).bind fun r2=>(qdK r1 r2).bind fun r3=>(qb8 true r3).bind fun r4=>some r4) else ((qao n_0).bind fun r5=>(qb8 false r5).bind fun r6=>some r6)
def c98:Ctr:=⟨[((.int .i64),.imm)],[((.pair .bool (.sl (.int .i64))),false)],(Bool×List Int),fun x=>qfs x.1,fun r=>((),(r,())),none⟩
def qfr (n_0:Int) (d_1:Int):Option ((Bool×List Int)×List Int) :=
 (qfs n_0).bind fun r1=>(qao d_1).bind fun r2=>some (r1,r2)
def c64:Ctr:=⟨[((.int .i64),.imm),((.int .i64),.imm)],[((.pair (.pair .bool (.sl (.int .i64))) (.sl (.int .i64))),false)],((Bool×List Int)×List Int),fun x=>qfr x.1 x.2.1,fun r=>((),(r,())),none⟩
def qeS (a_0:WH):Option (Bool×List Int) :=
 (qaM a_0.2).bind fun r1=>(qb8 a_0.1 r1).bind fun r2=>some r2
def c65:Ctr:=⟨[(tWH,.imm)],[((.pair .bool (.sl (.int .i64))),false)],(Bool×List Int),fun x=>qeS x.1,fun r=>((),(r,())),none⟩
def qb7 (a_0:RAT):Option ((Bool×List Int)×List Int) :=
 (qaM a_0.2).bind fun r1=>bif (decide ((r1.length:Int)=0)) then ((qfr 0 1).bind fun r2=>some r2) else ((qeS a_0.1).bind fun r3=>some (r3,r1))
def c41:Ctr:=⟨[(tRAT,.imm)],[((.pair (.pair .bool (.sl (.int .i64))) (.sl (.int .i64))),false)],((Bool×List Int)×List Int),fun x=>qb7 x.1,fun r=>((),(r,())),none⟩
abbrev qcd:SG:=⟨[(0,.v (.sl (.int .u64))),(3,.v (.int .i64))],[],[],[]⟩
abbrev qc7:List (Ex×SG):=[(.exit 0,⟨[(0,.v (.sl (.int .u64)))],[],[],[]⟩),(.ret,⟨[(2,.v .bool)],[],[],[]⟩)]
def qaP (g:(((List Int)×Int×Unit)×Unit)->Option ((((List Int)×Unit)×Unit) ⊕ ((Bool×Unit)×Unit))):(((List Int)×Int×Unit)×Unit)->Option ((((List Int)×Unit)×Unit) ⊕ ((Bool×Unit)×Unit))
 | ((a_0,i_3,_),_)=>bif (decide (i_3<(a_0.length:Int))) then (bif decide (0<=i_3) then (a_0[i_3.toNat]?).bind fun x1=>bif (decide (x1>4294967295)) then (some (.inr ((false,()),()))) else (g ((a_0,(iadd .i64 i_3 1),()),())) else none) else (some (.inl ((a_0,()),())))
def qdg (a_0:List Int):Option Bool :=
 (lp qaP K0 ((a_0,0,()),())).bind fun t2=>(match t2 with | .inl t3=>bif (decide ((t3.1.1.length:Int)=0)) then (some true) else (bif decide (0<=(isub .i64 (t3.1.1.length:Int) 1)) then (t3.1.1[(isub .i64 (t3.1.1.length:Int) 1).toNat]?).bind fun x5=>some (!decide (x5=0)) else none) | .inr t4=>some t4.1.1)
def c89:Ctr:=⟨[((.sl (.int .u64)),.imm)],[(.bool,false)],Bool,fun x=>qdg x.1,fun r=>((),(r,())),none⟩
abbrev qcf:SG:=⟨[(0,.v (.sl (.int .i64))),(1,.v (.sl (.int .i64))),(5,.v (.int .i64))],[],[],[]⟩
abbrev qc9:List (Ex×SG):=[(.exit 0,⟨[],[],[],[]⟩),(.ret,⟨[(4,.v (.int .i64))],[],[],[]⟩)]
def qaD (g:(((List Int)×(List Int)×Int×Unit)×Unit)->Option ((Unit×Unit) ⊕ ((Int×Unit)×Unit))):(((List Int)×(List Int)×Int×Unit)×Unit)->Option ((Unit×Unit) ⊕ ((Int×Unit)×Unit))
 | ((a_0,b_1,i_5,_),_)=>bif (decide (i_5>=0)) then (bif decide (0<=i_5) then (a_0[i_5.toNat]?).bind fun x1=>bif decide (0<=i_5) then (b_1[i_5.toNat]?).bind fun x2=>bif (decide (x1<x2)) then (some (.inr (((-1),()),()))) else (bif decide (0<=i_5) then (a_0[i_5.toNat]?).bind fun x3=>bif decide (0<=i_5) then (b_1[i_5.toNat]?).bind fun x4=>bif (decide (x3>x4)) then (some (.inr ((1,()),()))) else (g ((a_0,b_1,(isub .i64 i_5 1),()),())) else none else none) else none else none) else (some (.inl ((()),())))
def qal (a_0:List Int) (b_1:List Int):Option Int :=
 bif (!decide ((a_0.length:Int)=(b_1.length:Int))) then (bif (decide ((a_0.length:Int)<(b_1.length:Int))) then (some (-1)) else (some 1)) else ((lp qaD K0 ((a_0,b_1,(isub .i64 (a_0.length:Int) 1),()),())).bind fun t5=>(match t5 with | .inl t6=>some 0 | .inr t7=>some t7.1.1))
def c91:Ctr:=⟨[((.sl (.int .i64)),.imm),((.sl (.int .i64)),.imm)],[((.int .i64),false)],Int,fun x=>qal x.1 x.2.1,fun r=>((),(r,())),none⟩
abbrev qcg:SG:=⟨[(0,.v (.sl (.int .i64))),(1,.v (.sl (.int .i64))),(5,.o (.int .i64) 47),(6,.v (.int .i64)),(7,.v (.int .i64))],[],[],[]⟩
abbrev qda:List (Ex×SG):=[(.exit 0,⟨[(5,.o (.int .i64) 47)],[],[],[]⟩)]
abbrev qhx:=(((List Int)×(List Int)×(List Int)×Int×Int×Unit)×Unit)
abbrev qhw:=(((List Int)×Unit)×Unit)
def qaQ (g:qhx->Option qhw):qhx->Option qhw
 | ((a_0,b_1,out_5,c_6,i_7,_),_)=>bif (decide (i_7<(a_0.length:Int))) then (bif decide (0<=i_7) then (a_0[i_7.toNat]?).bind fun x1=>(qaN b_1 i_7).bind fun r2=>bif (decide ((isub .i64 (isub .i64 x1 r2) c_6)<0)) then (bif j9 ((out_5.length+1)*8) 140737488355328&&!false then g ((a_0,b_1,(out_5++([(iadd .i64 (isub .i64 (isub .i64 x1 r2) c_6) 10000)]:List Int)),1,(iadd .i64 i_7 1),()),()) else none) else (bif j9 ((out_5.length+1)*8) 140737488355328&&!false then g ((a_0,b_1,(out_5++([(isub .i64 (isub .i64 x1 r2) c_6)]:List Int)),0,(iadd .i64 i_7 1),()),()) else none) else none) else (some ((out_5,()),()))
def qej (a_0:List Int) (b_1:List Int):Option (List Int) :=
 (lp qaQ K0 ((a_0,b_1,[],0,0,()),())).bind fun t3=>(qb9 t3.1.1).bind fun r4=>some r4
def c136:Ctr:=⟨[((.sl (.int .i64)),.imm),((.sl (.int .i64)),.imm)],[((.sl (.int .i64)),false)],(List Int),fun x=>qej x.1 x.2.1,fun r=>((),(r,())),none⟩
abbrev qce:SG:=⟨[(0,.v (.sl (.int .i64))),(1,.v (.sl (.int .i64))),(6,.o (.int .i64) 55),(7,.v (.sl (.int .i64))),(8,.v (.int .i64)),(10,.v (.int .i64)),(11,.v (.int .i64))],[],[],[]⟩
abbrev qc8:List (Ex×SG):=[(.exit 2,⟨[(0,.v (.sl (.int .i64))),(1,.v (.sl (.int .i64))),(6,.o (.int .i64) 55),(7,.v (.sl (.int .i64))),(8,.v (.int .i64)),(10,.v (.int .i64))],[],[],[]⟩)]
abbrev qhv:=(((List Int)×(List Int)×(List Int)×(List Int)×Int×Int×Int×Unit)×Unit)
abbrev qhu:=(((List Int)×(List Int)×(List Int)×(List Int)×Int×Int×Unit)×Unit)
def qaC (g:qhv->Option qhu):qhv->Option qhu
 | ((v_0,v_1,v_6,v_7,v_8,v_10,v_11,_),_)=>bif (decide ((isub .i64 v_11 v_10)>1)) then ((qao (iquo .i64 (iadd .i64 v_10 v_11) 2)).bind fun r3=>(qbP v_1 r3).bind fun r4=>(qal r4 v_7).bind fun r5=>bif (decide (r5<=0)) then (g ((v_0,v_1,v_6,v_7,v_8,(iquo .i64 (iadd .i64 v_10 v_11) 2),v_11,()),())) else (g ((v_0,v_1,v_6,v_7,v_8,v_10,(iquo .i64 (iadd .i64 v_10 v_11) 2),()),()))) else (some ((v_0,v_1,v_6,v_7,v_8,v_10,()),()))
abbrev qcH:SG:=⟨[(0,.v (.sl (.int .i64))),(1,.v (.sl (.int .i64))),(6,.o (.int .i64) 55),(7,.v (.sl (.int .i64))),(8,.v (.int .i64))],[],[],[]⟩
abbrev qdr:List (Ex×SG):=[(.exit 0,⟨[(6,.o (.int .i64) 55),(7,.v (.sl (.int .i64)))],[],[],[]⟩)]
abbrev qhJ:=(((List Int)×(List Int)×(List Int)×(List Int)×Int×Unit)×Unit)
abbrev qhI:=(((List Int)×(List Int)×Unit)×Unit)
def qbg (g:qhJ->Option qhI):qhJ->Option qhI
 | ((v_0,v_1,v_6,v_7,v_8,_),_)=>bif (decide (v_8>=0)) then (bif decide (0<=v_8) then (v_0[v_8.toNat]?).bind fun x1=>bif j9 ((([x1]:List Int).length+v_7.length)*8) 140737488355328&&!false then (qb9 (([x1]:List Int)++v_7)).bind fun r2=>(lp qaC K0 ((v_0,v_1,v_6,r2,v_8,0,10000,()),())).bind fun t6=>bif decide (0<=t6.1.2.2.2.2.1)&&decide (t6.1.2.2.2.2.1<(t6.1.2.2.1.length:Int)) then (t6.1.2.2.1[t6.1.2.2.2.2.1.toNat]?).bind fun _=>(qao t6.1.2.2.2.2.2.1).bind fun r8=>(qbP t6.1.2.1 r8).bind fun r9=>(qej t6.1.2.2.2.1 r9).bind fun r10=>g ((t6.1.1,t6.1.2.1,(t6.1.2.2.1.set t6.1.2.2.2.2.1.toNat t6.1.2.2.2.2.2.1),r10,(isub .i64 t6.1.2.2.2.2.1 1),()),()) else none else none else none) else (some ((v_6,v_7,()),()))
def qeT (a_0:List Int) (a_1:List Int):Option ((List Int)×(List Int)) :=
 bif decide ((a_0.length:Int)=(a_0.length:Int))&&decide (0<=(a_0.length:Int))&&decide (((8:Nat):Int)*(a_0.length:Int)<=281474976710656)&&decide ((a_0.length:Int)<=9223372036854775807) then (lp qbg K0 ((a_0,a_1,(ja (a_0.length:Int).toNat (0:Int)),[],(isub .i64 (a_0.length:Int) 1),()),())).bind fun t11=>(qb9 t11.1.1).bind fun r12=>some (r12,t11.1.2.1) else none
def c120:Ctr:=⟨[((.sl (.int .i64)),.imm),((.sl (.int .i64)),.imm)],[((.sl (.int .i64)),false),((.sl (.int .i64)),false)],(List Int)×(List Int),fun x=>qeT x.1 x.2.1,fun r=>((),(r.1,r.2,())),none⟩
abbrev qcS:SG:=⟨[(0,.v (.sl (.int .i64))),(1,.v (.sl (.int .i64)))],[],[],[]⟩
abbrev qdS:List (Ex×SG):=[(.exit 0,⟨[(0,.v (.sl (.int .i64)))],[],[],[]⟩)]
def qbz (g:(((List Int)×(List Int)×Unit)×Unit)->Option (((List Int)×Unit)×Unit)):(((List Int)×(List Int)×Unit)×Unit)->Option (((List Int)×Unit)×Unit)
 | ((a_0,b_1,_),_)=>bif (decide ((b_1.length:Int)>0)) then ((qeT a_0 b_1).bind fun r1=>g ((b_1,r1.2,()),())) else (some ((a_0,()),()))
def qdl (a_0:List Int) (b_1:List Int):Option (List Int) :=
 (lp qbz K0 ((a_0,b_1,()),())).bind fun t2=>some t2.1.1
def c90:Ctr:=⟨[((.sl (.int .i64)),.imm),((.sl (.int .i64)),.imm)],[((.sl (.int .i64)),false)],(List Int),fun x=>qdl x.1 x.2.1,fun r=>((),(r,())),none⟩
def qef (a_0:RAT):Option Bool :=
 (qdg a_0.1.2).bind fun r1=>bif (!r1) then (some false) else ((qdg a_0.2).bind fun r2=>bif (!r2) then (some false) else (bif (decide ((a_0.2.length:Int)=0)) then (some false) else (bif (decide ((a_0.1.2.length:Int)=0)) then (bif a_0.1.1 then (some false) else ((qaM a_0.1.2).bind fun r3=>(qaM a_0.2).bind fun r4=>(qdl r3 r4).bind fun r5=>(qao 1).bind fun r6=>(qal r5 r6).bind fun r7=>some (decide (r7=0)))) else ((qaM a_0.1.2).bind fun r8=>(qaM a_0.2).bind fun r9=>(qdl r8 r9).bind fun r10=>(qao 1).bind fun r11=>(qal r10 r11).bind fun r12=>some (decide (r12=0))))))
def c61:Ctr:=⟨[(tRAT,.imm)],[(.bool,false)],Bool,fun x=>qef x.1,fun r=>((),(r,())),none⟩
def qeh (a_0:Bool×List Int) (b_1:Bool×List Int):Option Int :=
 bif a_0.1 then (bif (!b_1.1) then (some (-1)) else (bif (!a_0.1) then (bif b_1.1 then (some 1) else (bif a_0.1 then ((qal b_1.2 a_0.2).bind fun r1=>some r1) else ((qal a_0.2 b_1.2).bind fun r2=>some r2))) else (bif a_0.1 then ((qal b_1.2 a_0.2).bind fun r3=>some r3) else ((qal a_0.2 b_1.2).bind fun r4=>some r4)))) else (bif (!a_0.1) then (bif b_1.1 then (some 1) else (bif a_0.1 then ((qal b_1.2 a_0.2).bind fun r5=>some r5) else ((qal a_0.2 b_1.2).bind fun r6=>some r6))) else (bif a_0.1 then ((qal b_1.2 a_0.2).bind fun r7=>some r7) else ((qal a_0.2 b_1.2).bind fun r8=>some r8)))
def c93:Ctr:=⟨[((.pair .bool (.sl (.int .i64))),.imm),((.pair .bool (.sl (.int .i64))),.imm)],[((.int .i64),false)],Int,fun x=>qeh x.1 x.2.1,fun r=>((),(r,())),none⟩
def qdf (a_0:Bool×List Int) (b_1:Bool×List Int):Option (Bool×List Int) :=
 (qbP a_0.2 b_1.2).bind fun r1=>(qb8 (!(a_0.1 == b_1.1)) r1).bind fun r2=>some r2
def c94:Ctr:=⟨[((.pair .bool (.sl (.int .i64))),.imm),((.pair .bool (.sl (.int .i64))),.imm)],[((.pair .bool (.sl (.int .i64))),false)],(Bool×List Int),fun x=>qdf x.1 x.2.1,fun r=>((),(r,())),none⟩
def qfb (a_0:(Bool×List Int)×List Int):Option (Bool×List Int) :=
 (qb8 false a_0.2).bind fun r1=>some r1
def c95:Ctr:=⟨[((.pair (.pair .bool (.sl (.int .i64))) (.sl (.int .i64))),.imm)],[((.pair .bool (.sl (.int .i64))),false)],(Bool×List Int),fun x=>qfb x.1,fun r=>((),(r,())),none⟩
def qeg (a_0:(Bool×List Int)×List Int) (b_1:(Bool×List Int)×List Int):Option Int :=
 (qfb b_1).bind fun r1=>(qdf a_0.1 r1).bind fun r2=>(qfb a_0).bind fun r3=>(qdf b_1.1 r3).bind fun r4=>(qeh r2 r4).bind fun r5=>some r5
def c62:Ctr:=⟨[((.pair (.pair .bool (.sl (.int .i64))) (.sl (.int .i64))),.imm),((.pair (.pair .bool (.sl (.int .i64))) (.sl (.int .i64))),.imm)],[((.int .i64),false)],Int,fun x=>qeg x.1 x.2.1,fun r=>((),(r,())),none⟩
def qhp (a_0:RAT) (x_1:(Bool×List Int)×List Int):Option Bool :=
 (qef a_0).bind fun r1=>bif r1 then ((qb7 a_0).bind fun r2=>(qeg r2 x_1).bind fun r3=>some (decide (r3=0))) else (some false)
def c40:Ctr:=⟨[(tRAT,.imm),((.pair (.pair .bool (.sl (.int .i64))) (.sl (.int .i64))),.imm)],[(.bool,false)],Bool,fun x=>qhp x.1 x.2.1,fun r=>((),(r,())),none⟩
def qc3 (a_0:RAT) (b_1:RAT):Option Bool :=
 (qb7 b_1).bind fun r1=>(qhp a_0 r1).bind fun r2=>some r2
def c12:Ctr:=⟨[(tRAT,.imm),(tRAT,.imm)],[(.bool,false)],Bool,fun x=>qc3 x.1 x.2.1,fun r=>((),(r,())),none⟩
abbrev qaE:SG:=⟨[(6,.o (.os tRAT) 55),(8,.v (.sl tRAT)),(10,.v (.int .i64)),(11,.o tRAT 95),(12,.v (.int .i64)),(13,.p 104 0 0),(14,.v (.int .i64))],[(104,[.v .bool,.v (.sl (.int .u64)),.v (.sl (.int .u64))])],[],[]⟩
abbrev qa0:List (Ex×SG):=[(.exit 2,⟨[(6,.o (.os tRAT) 55),(8,.v (.sl tRAT)),(10,.v (.int .i64)),(11,.o tRAT 95),(12,.v (.int .i64)),(13,.p 104 0 0)],[(104,[.v .bool,.v (.sl (.int .u64)),.v (.sl (.int .u64))])],[],[]⟩),(.ret,⟨[(4,.v .bool)],[],[],[]⟩)]
abbrev qem:=(((List (Option (List RAT)))×(List RAT)×Int×(List RAT)×Int×Int×Unit)×((Bool×(List Int)×(List Int)×Unit)×Unit))
abbrev qel:=((((List (Option (List RAT)))×(List RAT)×Int×(List RAT)×Int×Unit)×((Bool×(List Int)×(List Int)×Unit)×Unit)) ⊕ ((Bool×Unit)×Unit))
def qag (g:qem->Option qel):qem->Option qel
 | ((v_6,v_8,v_10,v_11,v_12,v_14,_),((b104_0,b104_1,b104_2,_),_))=>bif (decide (v_14<v_10)) then (bif (decide (v_14=v_12)) then (g ((v_6,v_8,v_10,v_11,v_12,(iadd .i64 v_14 1),()),((b104_0,b104_1,b104_2,()),()))) else ((qdL v_8 v_10 v_12 v_14).bind fun r11=>(qcZ ((b104_0,b104_1),b104_2) r11).bind fun r12=>bif decide (0<=v_12)&&decide (v_12<(v_6.length:Int)) then (v_6[v_12.toNat]?).bind fun _=>(v_6[v_12.toNat]?).bind fun x13=>x13.bind fun x14=>bif decide (0<=v_14)&&decide ((v_14:Int)<(x14.length:Int)) then (v_6[v_12.toNat]?).bind fun x15=>x15.bind fun x16=>(x16[v_14.toNat]?).bind fun x17=>(qc3 x17 r11).bind fun r18=>bif (!r18) then (some (.inr ((false,()),()))) else (g ((v_6,v_8,v_10,v_11,v_12,(iadd .i64 v_14 1),()),((r12.1.1,r12.1.2,r12.2,()),()))) else none else none)) else (some (.inl ((v_6,v_8,v_10,v_11,v_12,()),((b104_0,b104_1,b104_2,()),()))))
abbrev qaF:SG:=⟨[(6,.o (.os tRAT) 55),(8,.v (.sl tRAT)),(10,.v (.int .i64)),(11,.o tRAT 95),(12,.v (.int .i64))],[],[],[]⟩
abbrev qa1:List (Ex×SG):=[(.exit 0,⟨[],[],[],[]⟩),(.ret,⟨[(4,.v .bool)],[],[],[]⟩)]
abbrev qeo:=(((List (Option (List RAT)))×(List RAT)×Int×(List RAT)×Int×Unit)×Unit)
abbrev qen:=((Unit×Unit) ⊕ ((Bool×Unit)×Unit))
def qah (g:qeo->Option qen):qeo->Option qen
 | ((v_6,v_8,v_10,v_11,v_12,_),_)=>bif (decide (v_12<v_10)) then (bif decide (0<=v_12)&&decide (v_12<(v_11.length:Int)) then (v_11[v_12.toNat]?).bind fun x8=>bif decide (0<=v_12)&&decide (v_12<(v_6.length:Int)) then (v_6[v_12.toNat]?).bind fun _=>(v_6[v_12.toNat]?).bind fun x9=>x9.bind fun x10=>bif (!decide ((x10.length:Int)=v_10)) then (some (.inr ((false,()),()))) else ((lp qag K0 ((v_6,v_8,v_10,v_11,v_12,0,()),((x8.1.1,x8.1.2,x8.2,()),()))).bind fun t19=>(match t19 with | .inl t20=>bif decide (0<=t20.1.2.2.2.2.1)&&decide (t20.1.2.2.2.2.1<(t20.1.1.length:Int)) then (t20.1.1[t20.1.2.2.2.2.1.toNat]?).bind fun _=>(t20.1.1[t20.1.2.2.2.2.1.toNat]?).bind fun x22=>x22.bind fun x23=>bif decide (0<=t20.1.2.2.2.2.1)&&decide ((t20.1.2.2.2.2.1:Int)<(x23.length:Int)) then (t20.1.1[t20.1.2.2.2.2.1.toNat]?).bind fun x24=>x24.bind fun x25=>(x25[t20.1.2.2.2.2.1.toNat]?).bind fun x26=>(qc3 x26 ((t20.2.1.1,t20.2.1.2.1),t20.2.1.2.2.1)).bind fun r27=>bif (!r27) then (some (.inr ((false,()),()))) else (g ((t20.1.1,t20.1.2.1,t20.1.2.2.1,t20.1.2.2.2.1,(iadd .i64 t20.1.2.2.2.2.1 1),()),())) else none else none | .inr t21=>some (.inr ((t21.1.1,()),())))) else none else none) else (some (.inl ((()),())))
def qcy (a_0:qas) (a_1:List CELL):Option Bool :=
 (qdj a_0 a_1).bind fun r1=>(qgE r1.1 r1.2).bind fun r2=>bif (decide (r2=0)) then (bif (decide (r1.1.1>5)) then ((qa3 ).bind fun r3=>some r3) else ((qc2 r1.1 r1.2).bind fun r4=>bif (!decide (r2=0)) then (bif (decide ((r4.1.length:Int)=0)) then (bif (decide (r4.2=r2)) then ((qa3 ).bind fun r5=>some r5) else (some false)) else (some false)) else ((qfQ r1.1 r1.2).bind fun r6=>bif (!decide (r4.2=0)) then (some false) else (bif (!decide (r6.2=0)) then (some false) else (bif (!decide ((r4.1.length:Int)=r1.1.1)) then (some false) else ((qbM r6.1 r1.1.1 (-1) false).bind fun r7=>(lp qah K0 ((r4.1,r6.1,r1.1.1,r7,0,()),())).bind fun t28=>(match t28 with | .inl t29=>(qa3 ).bind fun r31=>some r31 | .inr t30=>some t30.1.1))))))) else ((qc2 r1.1 r1.2).bind fun r32=>bif (!decide (r2=0)) then (bif (decide ((r32.1.length:Int)=0)) then (bif (decide (r32.2=r2)) then ((qa3 ).bind fun r33=>some r33) else (some false)) else (some false)) else ((qfQ r1.1 r1.2).bind fun r34=>bif (!decide (r32.2=0)) then (some false) else (bif (!decide (r34.2=0)) then (some false) else (bif (!decide ((r32.1.length:Int)=r1.1.1)) then (some false) else ((qbM r34.1 r1.1.1 (-1) false).bind fun r35=>(lp qah K0 ((r32.1,r34.1,r1.1.1,r35,0,()),())).bind fun t36=>(match t36 with | .inl t37=>(qa3 ).bind fun r39=>some r39 | .inr t38=>some t38.1.1))))))
def c3:Ctr:=⟨[(qfB,.imm),((.sl qay),.imm)],[(.bool,false)],Bool,fun x=>qcy x.1 x.2.1,fun r=>((),(r,())),none⟩
end Go.Proofs.YtiefddjokkihdaaGreatDoor.X
