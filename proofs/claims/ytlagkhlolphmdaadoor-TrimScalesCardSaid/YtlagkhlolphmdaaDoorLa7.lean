/- Own work: part of the proof; the first line of each part says what it tells. -/
import Derived.Test.YtlagkhlolphmdaaDoorLa5
import Derived.Test.YtlagkhlolphmdaaDoorProg


namespace Go.Proofs.YtlagkhlolphmdaaDoor.X
open Go
set_option linter.unusedVariables false
set_option linter.unusedSimpArgs false
set_option maxRecDepth 100000
def tb:Tb:=[(2,.sc (.int .i64)),(3,.sc (.int .i64)),(4,.sc .bool),(5,.sc (.int .u8)),(6,.sc (.int .u8)),(7,.stc (.pair (.int .i64) (.pair (.int .i64) (.pair .bool (.int .u8)))) [(0,2),(1,3),(2,4),(3,6)] false),(22,.slc 52 (.sl qat) 24),(24,.stc qdq [(0,3),(1,22)] false),(25,.slc 36 qh5 64),(26,.sc (.int .u64)),(28,.slc 26 (.int .u64) 8),(30,.stc tWH [(0,4),(1,28)] false),(32,.stc tRAT [(0,30),(2,28)] false),(36,.stc qh5 [(0,4),(1,32)] false),(38,.sc (.int .i64)),(52,.slc 54 qat 208),(54,.stc qat [(0,4),(1,3),(2,32),(5,3),(6,3),(7,4),(8,32),(11,32)] false),(58,.stc (.pair (.int .i64) (.pair (.int .i64) (.pair (.int .i64) (.int .i64)))) [(0,38),(1,3),(2,3),(3,3)] true),(89,.sc (.int .u64)),(90,.slc 3 (.int .i64) 8),(91,.slc 4 .bool 1),(93,.pt 54 qat),(110,.sc (.int .u32))]
def tbO:Tb:=[(2,.sc (.int .i64)),(3,.sc (.int .i64)),(4,.sc .bool),(5,.sc (.int .u8)),(6,.sc (.int .u8)),(7,.stc (.pair (.int .i64) (.pair (.int .i64) (.pair .bool (.int .u8)))) [(0,2),(1,3),(2,4),(3,6)] false),(22,.slc 52 (.os qat) 24),(24,.stc (.pair (.int .i64) (.sl (.os qat))) [(0,3),(1,22)] false),(26,.sc (.int .u64)),(28,.slc 26 (.int .u64) 8),(30,.stc tWH [(0,4),(1,28)] false),(32,.stc tRAT [(0,30),(2,28)] false),(52,.slc 54 qat 208),(54,.stc qat [(0,4),(1,3),(2,32),(5,3),(6,3),(7,4),(8,32),(11,32)] false)]
def qbV (a_0:RAT):Option RAT :=
 bif (decide ((a_0.1.2.length:Int)>3)) then (bif decide ((3:Int)<=(a_0.1.2.length:Int)) then bif (decide ((a_0.2.length:Int)>3)) then (bif decide ((3:Int)<=(a_0.2.length:Int)) then some ((a_0.1.1,(a_0.1.2.take 3)),(a_0.2.take 3)) else none) else (some ((a_0.1.1,(a_0.1.2.take 3)),a_0.2)) else none) else (bif (decide ((a_0.2.length:Int)>3)) then (bif decide ((3:Int)<=(a_0.2.length:Int)) then some (a_0.1,(a_0.2.take 3)) else none) else (some a_0))
def c16:Ctr:=⟨[(tRAT,.imm)],[(tRAT,false)],RAT,fun x=>qbV x.1,fun r=>((),(r,())),none⟩
abbrev qbx:SG:=⟨[(0,.v (.sl qh5)),(1,.v (.int .i64)),(5,.o qh5 47),(6,.v (.int .i64))],[],[],[]⟩
abbrev qbW:List (Ex×SG):=[(.exit 0,⟨[(5,.o qh5 47)],[],[],[]⟩)]
def qaE (g:(((List CELL)×Int×(List CELL)×Int×Unit)×Unit)->Option (((List CELL)×Unit)×Unit)):(((List CELL)×Int×(List CELL)×Int×Unit)×Unit)->Option (((List CELL)×Unit)×Unit)
 | ((l_0,n_1,out_5,i_6,_),_)=>bif (decide (i_6<(l_0.length:Int))) then (bif (decide (i_6<n_1)) then (bif decide (0<=i_6) then (l_0[i_6.toNat]?).bind fun x1=>(qbV x1.2).bind fun r2=>bif Nat.ble ((out_5.length+1)*64) 140737488355328&&!false then g ((l_0,n_1,(out_5++([(x1.1,r2)]:List CELL)),(iadd .i64 i_6 1),()),()) else none else none) else (some ((out_5,()),()))) else (some ((out_5,()),()))
def qa6 (l_0:List CELL) (n_1:Int):Option (List CELL) :=
 (lp qaE K0 ((l_0,n_1,[],0,()),())).bind fun t3=>some t3.1.1
def c5:Ctr:=⟨[((.sl qh5),.imm),((.int .i64),.imm)],[((.sl qh5),true)],(List CELL),fun x=>qa6 x.1 x.2.1,fun r=>((),(r,())),none⟩
def qa9 (a_0:RAT):Option RAT :=
 bif (decide ((a_0.1.2.length:Int)>4)) then (bif decide ((4:Int)<=(a_0.1.2.length:Int)) then bif (decide ((a_0.2.length:Int)>4)) then (bif decide ((4:Int)<=(a_0.2.length:Int)) then some ((a_0.1.1,(a_0.1.2.take 4)),(a_0.2.take 4)) else none) else (some ((a_0.1.1,(a_0.1.2.take 4)),a_0.2)) else none) else (bif (decide ((a_0.2.length:Int)>4)) then (bif decide ((4:Int)<=(a_0.2.length:Int)) then some (a_0.1,(a_0.2.take 4)) else none) else (some a_0))
def c34:Ctr:=⟨[(tRAT,.imm)],[(tRAT,false)],RAT,fun x=>qa9 x.1,fun r=>((),(r,())),none⟩
abbrev qby:SG:=⟨[(1,.p 8 0 0),(2,.p 16 0 0),(3,.p 24 0 0),(4,.v (.int .i64)),(5,.o qat 47),(6,.v (.int .i64))],[(8,[.v (.int .i64),.v (.sl (.sl qat))]),(16,[.v (.int .i64),.o (.sl qat) 18]),(24,[.v (.int .i64),.o (.sl qat) 26])],[],[]⟩
abbrev qbX:List (Ex×SG):=[(.exit 2,⟨[(1,.p 8 0 0),(2,.p 16 0 0),(3,.p 24 0 0),(4,.v (.int .i64)),(5,.o qat 47)],[(8,[.v (.int .i64),.v (.sl (.sl qat))]),(16,[.v (.int .i64),.o (.sl qat) 18]),(24,[.v (.int .i64),.o (.sl qat) 26])],[],[]⟩)]
abbrev qeN:=((Int×(List NODE)×Int×Unit)×((Int×(List (List NODE))×Unit)×(Int×(List (List NODE))×Unit)×(Int×(List (List NODE))×Unit)×Unit))
abbrev qeM:=((Int×(List NODE)×Unit)×((Int×(List (List NODE))×Unit)×(Int×(List (List NODE))×Unit)×(Int×(List (List NODE))×Unit)×Unit))
def qaz (g:qeN->Option qeM):qeN->Option qeM
 | ((v_4,v_5,v_6,_),((b8_0,b8_1,_),(b16_0,b16_1,_),(b24_0,b24_1,_),_))=>bif decide (0<=v_4) then (b8_1[v_4.toNat]?).bind fun x1=>bif (decide (v_6<(x1.length:Int))) then (bif (decide (v_6<15)) then (bif decide (0<=v_4) then (b8_1[v_4.toNat]?).bind fun x2=>bif decide (0<=v_6) then (x2[v_6.toNat]?).bind fun x3=>(qa9 x3.2.2.1).bind fun r4=>(qa9 x3.2.2.2.2.2.2.1).bind fun r5=>(qa9 x3.2.2.2.2.2.2.2).bind fun r6=>bif Nat.ble ((v_5.length+1)*208) 140737488355328&&!false then g ((v_4,(v_5++([(x3.1,(x3.2.1,(r4,(x3.2.2.2.1,(x3.2.2.2.2.1,(x3.2.2.2.2.2.1,(r5,r6)))))))]:List NODE)),(iadd .i64 v_6 1),()),((b8_0,b8_1,()),(b16_0,b16_1,()),(b24_0,b24_1,()),())) else none else none else none) else (some ((v_4,v_5,()),((b8_0,b8_1,()),(b16_0,b16_1,()),(b24_0,b24_1,()),())))) else (some ((v_4,v_5,()),((b8_0,b8_1,()),(b16_0,b16_1,()),(b24_0,b24_1,()),()))) else none
abbrev qbz:SG:=⟨[(1,.p 8 0 0),(2,.p 16 0 0),(3,.p 24 0 0),(4,.v (.int .i64))],[(8,[.v (.int .i64),.v (.sl (.sl qat))]),(16,[.v (.int .i64),.o (.sl qat) 18]),(24,[.v (.int .i64),.o (.sl qat) 26])],[],[]⟩
abbrev qbY:List (Ex×SG):=[(.exit 0,⟨[(2,.p 16 0 0),(3,.p 24 0 0)],[(16,[.v (.int .i64),.o (.sl qat) 18]),(24,[.v (.int .i64),.o (.sl qat) 26])],[],[]⟩)]
abbrev qeP:=((Int×Unit)×((Int×(List (List NODE))×Unit)×(Int×(List (List NODE))×Unit)×(Int×(List (List NODE))×Unit)×Unit))
abbrev qeO:=(Unit×((Int×(List (List NODE))×Unit)×(Int×(List (List NODE))×Unit)×Unit))
def qaA (g:qeP->Option qeO):qeP->Option qeO
 | ((v_4,_),((b8_0,b8_1,_),(b16_0,b16_1,_),(b24_0,b24_1,_),_))=>bif (decide (v_4<(b8_1.length:Int))) then (bif (decide (v_4<6)) then ((lp qaz K0 ((v_4,[],0,()),((b8_0,b8_1,()),(b16_0,b16_1,()),(b24_0,b24_1,()),()))).bind fun t7=>bif Nat.ble ((t7.2.2.2.1.2.1.length+1)*24) 140737488355328&&!false then g (((iadd .i64 t7.1.1 1),()),((t7.2.1.1,t7.2.1.2.1,()),(t7.2.2.1.1,t7.2.2.1.2.1,()),(t7.2.2.2.1.1,(t7.2.2.2.1.2.1++([t7.1.2.1]:List (List NODE))),()),())) else none) else (some ((()),((b16_0,b16_1,()),(b24_0,b24_1,()),())))) else (some ((()),((b16_0,b16_1,()),(b24_0,b24_1,()),())))
def qcD (a_0:qak):Option qak :=
 (lp qaA K0 ((0,()),((a_0.1,a_0.2,()),(0,[],()),(a_0.1,[],()),()))).bind fun t8=>some (t8.2.2.1.1,t8.2.2.1.2.1)
def c15:Ctr:=⟨[(qdq,.imm)],[(qdq,false)],qak,fun x=>qcD x.1,fun r=>((),(r,())),none⟩
def qbG (m_0:qak) (row_1:List CELL):Option (qak×(List CELL)) :=
 (qcD m_0).bind fun r1=>bif (decide ((r1.2.length:Int)>3)) then (bif decide ((3:Int)<=(r1.2.length:Int)) then (qa6 row_1 70).bind fun r2=>some ((r1.1,(r1.2.take 3)),r2) else none) else ((qa6 row_1 70).bind fun r3=>some (r1,r3))
def c4:Ctr:=⟨[(qdq,.imm),((.sl qh5),.imm)],[(qdq,false),((.sl qh5),true)],qak×(List CELL),fun x=>qbG x.1 x.2.1,fun r=>((),(r.1,r.2,())),none⟩
abbrev qdc:SG:=⟨[(22,.v (.sl (.sl qat))),(23,.v (.int .i64)),(24,.v (.int .i64)),(36,.v (.sl qat)),(37,.v (.int .i64)),(38,.v (.int .i64))],[],[],[]⟩
abbrev qd1:List (Ex×SG):=[(.exit 2,⟨[(22,.v (.sl (.sl qat))),(23,.v (.int .i64)),(24,.v (.int .i64))],[],[],[]⟩),(.ret,⟨[(2,.v .bool)],[],[],[]⟩)]
abbrev qhf:=(((List (List NODE))×Int×Int×(List NODE)×Int×Int×Unit)×Unit)
abbrev qhe:=((((List (List NODE))×Int×Int×Unit)×Unit) ⊕ ((Bool×Unit)×Unit))
def qbn (g:qhf->Option qhe):qhf->Option qhe
 | ((v_22,v_23,v_24,v_36,v_37,v_38,_),_)=>bif (decide (v_38<v_37)) then (bif decide (0<=v_38) then (v_36[v_38.toNat]?).bind fun x2=>bif (decide (x2.2.1<0)) then (some (.inr ((false,()),()))) else (bif (decide (x2.2.1>64)) then (some (.inr ((false,()),()))) else (bif (decide (x2.2.2.2.1<0)) then (some (.inr ((false,()),()))) else (bif (decide (x2.2.2.2.1>255)) then (some (.inr ((false,()),()))) else (bif (decide (x2.2.2.2.2.1<0)) then (some (.inr ((false,()),()))) else (bif (decide (x2.2.2.2.2.1>255)) then (some (.inr ((false,()),()))) else (g ((v_22,v_23,v_24,v_36,v_37,(iadd .i64 v_38 1),()),()))))))) else none) else (some (.inl ((v_22,v_23,v_24,()),())))
abbrev qdd:SG:=⟨[(22,.v (.sl (.sl qat))),(23,.v (.int .i64)),(24,.v (.int .i64))],[],[],[]⟩
abbrev qd2:List (Ex×SG):=[(.exit 0,⟨[],[],[],[]⟩),(.ret,⟨[(2,.v .bool)],[],[],[]⟩)]
def qaW (g:(((List (List NODE))×Int×Int×Unit)×Unit)->Option ((Unit×Unit) ⊕ ((Bool×Unit)×Unit))):(((List (List NODE))×Int×Int×Unit)×Unit)->Option ((Unit×Unit) ⊕ ((Bool×Unit)×Unit))
 | ((v_22,v_23,v_24,_),_)=>bif (decide (v_24<v_23)) then (bif decide (0<=v_24) then (v_22[v_24.toNat]?).bind fun x1=>bif (decide ((x1.length:Int)<1)) then (some (.inr ((false,()),()))) else (bif (decide ((x1.length:Int)>255)) then (some (.inr ((false,()),()))) else ((lp qbn K0 ((v_22,v_23,v_24,x1,(x1.length:Int),0,()),())).bind fun t3=>(match t3 with | .inl t4=>g ((t4.1.1,t4.1.2.1,(iadd .i64 t4.1.2.2.1 1),()),()) | .inr t5=>some (.inr ((t5.1.1,()),()))))) else none) else (some (.inl ((()),())))
def qga (a_0:qak):Option Bool :=
 bif (decide (a_0.1<0)) then (some false) else (bif (decide (a_0.1>64)) then (some false) else (bif (decide ((a_0.2.length:Int)>64)) then (some false) else ((lp qaW K0 ((a_0.2,(a_0.2.length:Int),0,()),())).bind fun t6=>(match t6 with | .inl t7=>some true | .inr t8=>some t8.1.1))))
def c38:Ctr:=⟨[(qdq,.imm)],[(.bool,false)],Bool,fun x=>qga x.1,fun r=>((),(r,())),none⟩
abbrev qci:SG:=⟨[(0,.v (.sl qat)),(1,.v (.int .i64)),(8,.v (.sl qat)),(9,.v (.int .i64)),(10,.v (.int .i64))],[],[],[]⟩
abbrev qcT:List (Ex×SG):=[(.exit 0,⟨[],[],[],[]⟩),(.ret,⟨[(4,.v (.int .i64)),(5,.v (.int .i64))],[],[],[]⟩)]
abbrev qfP:=(((List NODE)×Int×(List NODE)×Int×Int×Unit)×Unit)
abbrev qfO:=((Unit×Unit) ⊕ ((Int×Int×Unit)×Unit))
def qaQ (g:qfP->Option qfO):qfP->Option qfO
 | ((t_0,features_1,v_8,v_9,v_10,_),_)=>bif (decide (v_10<v_9)) then (bif decide (0<=v_10) then (v_8[v_10.toNat]?).bind fun x1=>bif x1.1 then (g ((t_0,features_1,v_8,v_9,(iadd .i64 v_10 1),()),())) else (bif (decide (x1.2.1<0)) then (some (.inr ((v_10,8,()),()))) else (bif (decide (x1.2.1>=features_1)) then (some (.inr ((v_10,8,()),()))) else (bif (decide (x1.2.2.2.1<1)) then (some (.inr ((v_10,8,()),()))) else (bif (decide (x1.2.2.2.1>=(t_0.length:Int))) then (some (.inr ((v_10,8,()),()))) else (bif (decide (x1.2.2.2.2.1<1)) then (some (.inr ((v_10,8,()),()))) else (bif (decide (x1.2.2.2.2.1>=(t_0.length:Int))) then (some (.inr ((v_10,8,()),()))) else (g ((t_0,features_1,v_8,v_9,(iadd .i64 v_10 1),()),())))))))) else none) else (some (.inl ((()),())))
def qdB (t_0:List NODE) (features_1:Int):Option (Int×Int) :=
 (lp qaQ K0 ((t_0,features_1,t_0,(t_0.length:Int),0,()),())).bind fun t2=>(match t2 with | .inl t3=>some (0,0) | .inr t4=>some (t4.1.1,t4.1.2.1))
def c39:Ctr:=⟨[((.sl qat),.imm),((.int .i64),.imm)],[((.int .i64),false),((.int .i64),false)],Int×Int,fun x=>qdB x.1 x.2.1,fun r=>((),(r.1,r.2,())),none⟩
abbrev qcH:SG:=⟨[(0,.v (.sl qat)),(4,.o (.int .i64) 39),(18,.v (.sl qat)),(19,.v (.int .i64)),(20,.v (.int .i64))],[],[],[]⟩
abbrev qdi:List (Ex×SG):=[(.exit 0,⟨[(0,.v (.sl qat)),(4,.o (.int .i64) 39)],[],[],[]⟩)]
abbrev qgD:=(((List NODE)×(List Int)×(List NODE)×Int×Int×Unit)×Unit)
abbrev qgC:=(((List NODE)×(List Int)×Unit)×Unit)
def qbf (g:qgD->Option qgC):qgD->Option qgC
 | ((v_0,v_4,v_18,v_19,v_20,_),_)=>bif (decide (v_20<v_19)) then (bif decide (0<=v_20) then (v_18[v_20.toNat]?).bind fun x1=>bif (!x1.1) then (bif decide (0<=x1.2.2.2.1)&&decide (x1.2.2.2.1<(v_4.length:Int)) then (v_4[x1.2.2.2.1.toNat]?).bind fun x2=>bif decide (0<=x1.2.2.2.1)&&decide (x1.2.2.2.1<(v_4.length:Int)) then (v_4[x1.2.2.2.1.toNat]?).bind fun _=>bif decide (0<=x1.2.2.2.2.1)&&decide (x1.2.2.2.2.1<((v_4.set x1.2.2.2.1.toNat (iadd .i64 x2 1)).length:Int)) then ((v_4.set x1.2.2.2.1.toNat (iadd .i64 x2 1))[x1.2.2.2.2.1.toNat]?).bind fun x4=>bif decide (0<=x1.2.2.2.2.1)&&decide (x1.2.2.2.2.1<((v_4.set x1.2.2.2.1.toNat (iadd .i64 x2 1)).length:Int)) then ((v_4.set x1.2.2.2.1.toNat (iadd .i64 x2 1))[x1.2.2.2.2.1.toNat]?).bind fun _=>g ((v_0,((v_4.set x1.2.2.2.1.toNat (iadd .i64 x2 1)).set x1.2.2.2.2.1.toNat (iadd .i64 x4 1)),v_18,v_19,(iadd .i64 v_20 1),()),()) else none else none else none else none) else (g ((v_0,v_4,v_18,v_19,(iadd .i64 v_20 1),()),())) else none) else (some ((v_0,v_4,()),()))
abbrev qch:SG:=⟨[(0,.v (.sl qat)),(42,.o (.int .i64) 343),(43,.v (.int .i64)),(44,.v (.int .i64))],[],[],[]⟩
abbrev qcS:List (Ex×SG):=[(.exit 2,⟨[(0,.v (.sl qat))],[],[],[]⟩),(.ret,⟨[(2,.v (.int .i64)),(3,.v (.int .i64))],[],[],[]⟩)]
def qaF (g:(((List NODE)×(List Int)×Int×Int×Unit)×Unit)->Option ((((List NODE)×Unit)×Unit) ⊕ ((Int×Int×Unit)×Unit))):(((List NODE)×(List Int)×Int×Int×Unit)×Unit)->Option ((((List NODE)×Unit)×Unit) ⊕ ((Int×Int×Unit)×Unit))
 | ((v_0,v_42,v_43,v_44,_),_)=>bif (decide (v_44<v_43)) then (bif decide (0<=v_44)&&decide (v_44<(v_42.length:Int)) then (v_42[v_44.toNat]?).bind fun x7=>bif (decide (v_44>0)) then (bif (!decide (x7=1)) then (some (.inr ((v_44,11,()),()))) else (g ((v_0,v_42,v_43,(iadd .i64 v_44 1),()),()))) else (g ((v_0,v_42,v_43,(iadd .i64 v_44 1),()),())) else none) else (some (.inl ((v_0,()),())))
abbrev qcg:SG:=⟨[(0,.v (.sl qat)),(9,.o .bool 79),(10,.o (.int .i64) 87)],[],[],[]⟩
abbrev qcR:List (Ex×SG):=[(.exit 4,⟨[(9,.o .bool 79)],[],[],[]⟩)]
def qbg (g:(((List NODE)×(List Bool)×(List Int)×Unit)×Unit)->Option (((List Bool)×Unit)×Unit)):(((List NODE)×(List Bool)×(List Int)×Unit)×Unit)->Option (((List Bool)×Unit)×Unit)
 | ((v_0,v_9,v_10,_),_)=>bif (decide ((v_10.length:Int)>0)) then (bif decide (0<=(isub .i64 (v_10.length:Int) 1))&&decide ((isub .i64 (v_10.length:Int) 1)<(v_10.length:Int)) then (v_10[(isub .i64 (v_10.length:Int) 1).toNat]?).bind fun x11=>bif decide ((0:Int)<=(isub .i64 (v_10.length:Int) 1))&&decide (((isub .i64 (v_10.length:Int) 1):Int)<=(isub .i64 (v_10.length:Int) 1))&&decide (((isub .i64 (v_10.length:Int) 1):Int)<=(v_10.length:Int)) then bif decide (0<=x11)&&decide (x11<(v_9.length:Int)) then (v_9[x11.toNat]?).bind fun _=>bif decide (0<=x11) then (v_0[x11.toNat]?).bind fun x13=>bif (!x13.1) then (bif Nat.ble (((v_10.take (((isub .i64 (v_10.length:Int) 1)-0).toNat)).length+2)*8) 140737488355328&&!false then g ((v_0,(v_9.set x11.toNat true),((v_10.take (((isub .i64 (v_10.length:Int) 1)-0).toNat))++([x13.2.2.2.1,x13.2.2.2.2.1]:List Int)),()),()) else none) else (g ((v_0,(v_9.set x11.toNat true),(v_10.take (((isub .i64 (v_10.length:Int) 1)-0).toNat)),()),())) else none else none else none else none) else (some ((v_9,()),()))
abbrev qcf:SG:=⟨[(92,.o .bool 743),(93,.v (.int .i64)),(94,.v (.int .i64))],[],[],[]⟩
abbrev qcQ:List (Ex×SG):=[(.exit 6,⟨[],[],[],[]⟩),(.ret,⟨[(2,.v (.int .i64)),(3,.v (.int .i64))],[],[],[]⟩)]
def qaP (g:(((List Bool)×Int×Int×Unit)×Unit)->Option ((Unit×Unit) ⊕ ((Int×Int×Unit)×Unit))):(((List Bool)×Int×Int×Unit)×Unit)->Option ((Unit×Unit) ⊕ ((Int×Int×Unit)×Unit))
 | ((v_92,v_93,v_94,_),_)=>bif (decide (v_94<v_93)) then (bif decide (0<=v_94)&&decide (v_94<(v_92.length:Int)) then (v_92[v_94.toNat]?).bind fun x15=>bif (!x15) then (some (.inr ((v_94,11,()),()))) else (g ((v_92,v_93,(iadd .i64 v_94 1),()),())) else none) else (some (.inl ((()),())))
def qfe (a_0:List NODE):Option (Int×Int) :=
 bif decide ((a_0.length:Int)=(a_0.length:Int))&&decide (0<=(a_0.length:Int))&&decide (((8:Nat):Int)*(a_0.length:Int)<=281474976710656)&&decide ((a_0.length:Int)<=9223372036854775807) then (lp qbf K0 ((a_0,(List.replicate (a_0.length:Int).toNat (0:Int)),a_0,(a_0.length:Int),0,()),())).bind fun t6=>(lp qaF K0 ((t6.1.1,t6.1.2.1,(t6.1.2.1.length:Int),0,()),())).bind fun t8=>(match t8 with | .inl t9=>bif decide ((t9.1.1.length:Int)=(t9.1.1.length:Int))&&decide (0<=(t9.1.1.length:Int))&&decide (((1:Nat):Int)*(t9.1.1.length:Int)<=281474976710656)&&decide ((t9.1.1.length:Int)<=9223372036854775807) then (lp qbg K0 ((t9.1.1,(List.replicate (t9.1.1.length:Int).toNat (false:Bool)),([0]:List Int),()),())).bind fun t14=>(lp qaP K0 ((t14.1.1,(t14.1.1.length:Int),0,()),())).bind fun t16=>(match t16 with | .inl t17=>some (0,0) | .inr t18=>some (t18.1.1,t18.1.2.1)) else none | .inr t10=>some (t10.1.1,t10.1.2.1)) else none
def c40:Ctr:=⟨[((.sl qat),.imm)],[((.int .i64),false),((.int .i64),false)],Int×Int,fun x=>qfe x.1,fun r=>((),(r.1,r.2,())),none⟩
abbrev qep:SG:=⟨[(0,.o (.int .u64) 7),(3,.v (.int .i64))],[],[],[]⟩
abbrev qfn:List (Ex×SG):=[(.exit 0,⟨[(0,.o (.int .u64) 7),(3,.v (.int .i64))],[],[],[]⟩)]
def qcu (g:(((List Int)×Int×Unit)×Unit)->Option (((List Int)×Int×Unit)×Unit)):(((List Int)×Int×Unit)×Unit)->Option (((List Int)×Int×Unit)×Unit)
 | ((a_0,n_3,_),_)=>bif (decide (n_3>0)) then (bif decide (0<=(isub .i64 n_3 1))&&decide ((isub .i64 n_3 1)<(a_0.length:Int)) then (a_0[(isub .i64 n_3 1).toNat]?).bind fun x1=>bif (decide (x1=0)) then (g ((a_0,(isub .i64 n_3 1),()),())) else (some ((a_0,n_3,()),())) else none) else (some ((a_0,n_3,()),()))
def qcN (a_0:List Int):Option (List Int) :=
 (lp qcu K0 ((a_0,(a_0.length:Int),()),())).bind fun t2=>bif (decide (t2.1.2.1=0)) then (some ([])) else (bif decide ((0:Int)<=t2.1.2.1)&&decide ((t2.1.2.1:Int)<=t2.1.2.1)&&decide ((t2.1.2.1:Int)<=(t2.1.1.length:Int)) then some (t2.1.1.take ((t2.1.2.1-0).toNat)) else none)
def c58:Ctr:=⟨[((.sl (.int .u64)),.own)],[((.sl (.int .u64)),true)],(List Int),fun x=>qcN x.1,fun r=>((),(r,())),none⟩
abbrev qdN:SG:=⟨[(3,.o (.int .u64) 31),(9,.v (.sl (.int .u64))),(10,.v (.int .i64)),(11,.v (.int .i64))],[],[],[]⟩
abbrev qeJ:List (Ex×SG):=[(.exit 0,⟨[(3,.o (.int .u64) 31)],[],[],[]⟩)]
def qb6 (g:(((List Int)×(List Int)×Int×Int×Unit)×Unit)->Option (((List Int)×Unit)×Unit)):(((List Int)×(List Int)×Int×Int×Unit)×Unit)->Option (((List Int)×Unit)×Unit)
 | ((out_3,v_9,v_10,v_11,_),_)=>bif (decide (v_11<v_10)) then (bif decide (0<=v_11) then (v_9[v_11.toNat]?).bind fun x1=>bif decide (0<=v_11)&&decide (v_11<(out_3.length:Int)) then (out_3[v_11.toNat]?).bind fun _=>g (((out_3.set v_11.toNat (iand .u64 x1 4294967295)),v_9,v_10,(iadd .i64 v_11 1),()),()) else none else none) else (some ((out_3,()),()))
def qbm (a_0:List Int):Option (List Int) :=
 bif decide ((a_0.length:Int)=(a_0.length:Int))&&decide (0<=(a_0.length:Int))&&decide (((8:Nat):Int)*(a_0.length:Int)<=281474976710656)&&decide ((a_0.length:Int)<=9223372036854775807) then (lp qb6 K0 (((List.replicate (a_0.length:Int).toNat (0:Int)),a_0,(a_0.length:Int),0,()),())).bind fun t3=>(qcN t3.1.1).bind fun r4=>some r4 else none
def c37:Ctr:=⟨[((.sl (.int .u64)),.imm)],[((.sl (.int .u64)),true)],(List Int),fun x=>qbm x.1,fun r=>((),(r,())),none⟩
def qce (neg_0:Bool) (abs_1:List Int):Option WH :=
 bif neg_0 then (some ((decide ((abs_1.length:Int)>0)),abs_1)) else (some (false,abs_1))
def c57:Ctr:=⟨[(.bool,.imm),((.sl (.int .u64)),.imm)],[(tWH,false)],WH,fun x=>qce x.1 x.2.1,fun r=>((),(r,())),none⟩
def qa7 (a_0:WH):Option WH :=
 (qbm a_0.2).bind fun r1=>(qce a_0.1 r1).bind fun r2=>some r2
def c36:Ctr:=⟨[(tWH,.imm)],[(tWH,false)],WH,fun x=>qa7 x.1,fun r=>((),(r,())),none⟩
def qe4 (a_0:WH):Option Int :=
 (qa7 a_0).bind fun r1=>bif r1.1 then (some (-1)) else (bif (decide ((r1.2.length:Int)=0)) then (some 0) else (some 1))
def c20:Ctr:=⟨[(tWH,.imm)],[((.int .i64),false)],Int,fun x=>qe4 x.1,fun r=>((),(r,())),none⟩
def qhb (n_0:Int):Option (List Int) :=
 (qcN ([(iand .u64 n_0 4294967295),(shrV .u64 n_0 32)]:List Int)).bind fun r1=>some r1
def c45:Ctr:=⟨[((.int .u64),.imm)],[((.sl (.int .u64)),true)],(List Int),fun x=>qhb x.1,fun r=>((),(r,())),none⟩
def qe6 :Option RAT :=
 (qhb 1).bind fun r1=>some ((false,[]),r1)
def c27:Ctr:=⟨[],[(tRAT,false)],RAT,fun x=>qe6 ,fun r=>((),(r,())),none⟩
def ql0 (a_0:List Int):Option (Int×Bool) :=
 (qbm a_0).bind fun r1=>bif (decide ((r1.length:Int)=0)) then (some (0,true)) else (bif (decide ((r1.length:Int)=1)) then (bif decide ((0:Int)<(r1.length:Int)) then (r1[0]?).bind fun x2=>some (x2,true) else none) else (bif (decide ((r1.length:Int)=2)) then (bif decide ((1:Int)<(r1.length:Int)) then (r1[1]?).bind fun x3=>bif decide ((0:Int)<(r1.length:Int)) then (r1[0]?).bind fun x4=>some ((ior .u64 (shlV .u64 x3 32) x4),true) else none else none) else (some (0,false))))
def c76:Ctr:=⟨[((.sl (.int .u64)),.imm)],[((.int .u64),false),(.bool,false)],Int×Bool,fun x=>ql0 x.1,fun r=>((),(r.1,r.2,())),none⟩
abbrev qc9:SG:=⟨[(5,.v (.int .u64)),(7,.v (.int .u64))],[],[],[]⟩
abbrev qd0:List (Ex×SG):=[(.exit 0,⟨[(5,.v (.int .u64))],[],[],[]⟩)]
def qb5 (g:((Int×Int×Unit)×Unit)->Option ((Int×Unit)×Unit)):((Int×Int×Unit)×Unit)->Option ((Int×Unit)×Unit)
 | ((x_5,y_7,_),_)=>bif (!decide (y_7=0)) then (bif decide (y_7=0) then none else (g ((y_7,(irem x_5 y_7),()),()))) else (some ((x_5,()),()))
def qf5 (a_0:List Int) (b_1:List Int):Option (List Int) :=
 (ql0 a_0).bind fun r1=>(ql0 b_1).bind fun r2=>(lp qb5 K0 ((r1.1,r2.1,()),())).bind fun t3=>(qhb t3.1.1).bind fun r4=>some r4
def c65:Ctr:=⟨[((.sl (.int .u64)),.imm),((.sl (.int .u64)),.imm)],[((.sl (.int .u64)),true)],(List Int),fun x=>qf5 x.1 x.2.1,fun r=>((),(r,())),none⟩
def tz64 (a0:Int):Option Int:=bif decide (0<a0)&&decide (a0<18446744073709551616) then some ((tzN 64 a0.toNat:Nat):Int) else none
def c77:Ctr:=⟨[((.int .u64),.imm)],[((.int .i64),false)],Int,fun x=>tz64 x.1,fun r=>((),(r,())),none⟩
abbrev qdH:SG:=⟨[(3,.v (.int .i64)),(6,.v (.sl (.int .u64))),(7,.v (.int .i64)),(8,.v (.int .i64))],[],[],[]⟩
abbrev qeD:List (Ex×SG):=[(.exit 0,⟨[(3,.v (.int .i64))],[],[],[]⟩),(.ret,⟨[(2,.v (.int .i64))],[],[],[]⟩)]
def qcp (g:((Int×(List Int)×Int×Int×Unit)×Unit)->Option (((Int×Unit)×Unit) ⊕ ((Int×Unit)×Unit))):((Int×(List Int)×Int×Int×Unit)×Unit)->Option (((Int×Unit)×Unit) ⊕ ((Int×Unit)×Unit))
 | ((n_3,v_6,v_7,v_8,_),_)=>bif (decide (v_8<v_7)) then (bif decide (0<=v_8) then (v_6[v_8.toNat]?).bind fun x1=>bif (!decide (x1=0)) then ((tz64 x1).bind fun r2=>some (.inr (((iadd .i64 (imul .i64 32 v_8) r2),()),()))) else (g (((iadd .i64 n_3 32),v_6,v_7,(iadd .i64 v_8 1),()),())) else none) else (some (.inl ((n_3,()),())))
def qbw (a_0:List Int):Option Int :=
 (lp qcp K0 ((0,a_0,(a_0.length:Int),0,()),())).bind fun t3=>(match t3 with | .inl t4=>some t4.1.1 | .inr t5=>some t5.1.1)
def c66:Ctr:=⟨[((.sl (.int .u64)),.imm)],[((.int .i64),false)],Int,fun x=>qbw x.1,fun r=>((),(r,())),none⟩
def qew (a_0:List Int) (i_1:Int):Option Int :=
 bif (decide (i_1<(a_0.length:Int))) then (bif decide (0<=i_1) then (a_0[i_1.toNat]?).bind fun x1=>some x1 else none) else (some 0)
def c74:Ctr:=⟨[((.sl (.int .u64)),.imm),((.int .i64),.imm)],[((.int .u64),false)],Int,fun x=>qew x.1 x.2.1,fun r=>((),(r,())),none⟩
abbrev qe8:SG:=⟨[(0,.v (.sl (.int .u64))),(5,.v (.int .i64)),(6,.v (.int .i64)),(7,.o (.int .u64) 63),(23,.v (.int .i64)),(24,.v (.int .i64))],[],[],[]⟩
abbrev qf3:List (Ex×SG):=[(.exit 0,⟨[(7,.o (.int .u64) 63)],[],[],[]⟩)]
abbrev qjR:=(((List Int)×Int×Int×(List Int)×Int×Int×Unit)×Unit)
abbrev qjQ:=(((List Int)×Unit)×Unit)
def qc7 (g:qjR->Option qjQ):qjR->Option qjQ
 | ((a_0,words_5,s_6,out_7,v_23,v_24,_),_)=>bif (decide (v_24<v_23)) then ((qew a_0 (iadd .i64 (iadd .i64 v_24 words_5) 1)).bind fun r1=>bif decide (0<=(iadd .i64 v_24 words_5)) then (a_0[(iadd .i64 v_24 words_5).toNat]?).bind fun x2=>bif decide (s_6<0) then none else (bif decide (0<=v_24)&&decide (v_24<(out_7.length:Int)) then (out_7[v_24.toNat]?).bind fun _=>g ((a_0,words_5,s_6,(out_7.set v_24.toNat (iand .u64 (shrV .u64 (ior .u64 (shlV .u64 r1 32) x2) s_6) 4294967295)),v_23,(iadd .i64 v_24 1),()),()) else none) else none) else (some ((out_7,()),()))
def qcv (a_0:List Int) (n_1:Int):Option (List Int) :=
 bif (decide ((iquo .i64 n_1 32)>=(a_0.length:Int))) then (some ([])) else (bif decide ((isub .i64 (a_0.length:Int) (iquo .i64 n_1 32))=(isub .i64 (a_0.length:Int) (iquo .i64 n_1 32)))&&decide (0<=(isub .i64 (a_0.length:Int) (iquo .i64 n_1 32)))&&decide (((8:Nat):Int)*(isub .i64 (a_0.length:Int) (iquo .i64 n_1 32))<=281474976710656)&&decide ((isub .i64 (a_0.length:Int) (iquo .i64 n_1 32))<=9223372036854775807) then (lp qc7 K0 ((a_0,(iquo .i64 n_1 32),(irem n_1 32),(List.replicate (isub .i64 (a_0.length:Int) (iquo .i64 n_1 32)).toNat (0:Int)),((List.replicate (isub .i64 (a_0.length:Int) (iquo .i64 n_1 32)).toNat (0:Int)).length:Int),0,()),())).bind fun t4=>(qcN t4.1.1).bind fun r5=>some r5 else none)
def c67:Ctr:=⟨[((.sl (.int .u64)),.imm),((.int .i64),.imm)],[((.sl (.int .u64)),true)],(List Int),fun x=>qcv x.1 x.2.1,fun r=>((),(r,())),none⟩
abbrev qdJ:SG:=⟨[(0,.v (.sl (.int .u64))),(1,.v (.sl (.int .u64))),(5,.v (.int .i64))],[],[],[]⟩
abbrev qeF:List (Ex×SG):=[(.exit 1,⟨[],[],[],[]⟩),(.ret,⟨[(4,.v (.int .i64))],[],[],[]⟩)]
def qbQ (g:(((List Int)×(List Int)×Int×Unit)×Unit)->Option ((Unit×Unit) ⊕ ((Int×Unit)×Unit))):(((List Int)×(List Int)×Int×Unit)×Unit)->Option ((Unit×Unit) ⊕ ((Int×Unit)×Unit))
 | ((a_0,b_1,i_5,_),_)=>bif (decide (i_5>=0)) then (bif decide (0<=i_5) then (a_0[i_5.toNat]?).bind fun x1=>bif decide (0<=i_5) then (b_1[i_5.toNat]?).bind fun x2=>bif (decide (x1<x2)) then (some (.inr (((-1),()),()))) else (bif decide (0<=i_5) then (a_0[i_5.toNat]?).bind fun x3=>bif decide (0<=i_5) then (b_1[i_5.toNat]?).bind fun x4=>bif (decide (x3>x4)) then (some (.inr ((1,()),()))) else (g ((a_0,b_1,(isub .i64 i_5 1),()),())) else none else none) else none else none) else (some (.inl ((()),())))
def qeG (a_0:List Int) (b_1:List Int):Option Int :=
 bif (decide ((a_0.length:Int)<(b_1.length:Int))) then (some (-1)) else (bif (decide ((a_0.length:Int)>(b_1.length:Int))) then (some 1) else ((lp qbQ K0 ((a_0,b_1,(isub .i64 (a_0.length:Int) 1),()),())).bind fun t5=>(match t5 with | .inl t6=>some 0 | .inr t7=>some t7.1.1)))
def c68:Ctr:=⟨[((.sl (.int .u64)),.imm),((.sl (.int .u64)),.imm)],[((.int .i64),false)],Int,fun x=>qeG x.1 x.2.1,fun r=>((),(r,())),none⟩
abbrev qe9:SG:=⟨[(5,.v (.int .i64)),(6,.v (.int .i64)),(7,.o (.int .u64) 63),(20,.v (.sl (.int .u64))),(21,.v (.int .i64)),(22,.v (.int .i64))],[],[],[]⟩
abbrev qf4:List (Ex×SG):=[(.exit 0,⟨[(7,.o (.int .u64) 63)],[],[],[]⟩)]
abbrev qjT:=((Int×Int×(List Int)×(List Int)×Int×Int×Unit)×Unit)
abbrev qjS:=(((List Int)×Unit)×Unit)
def qc8 (g:qjT->Option qjS):qjT->Option qjS
 | ((words_5,s_6,out_7,v_20,v_21,v_22,_),_)=>bif (decide (v_22<v_21)) then (bif decide (0<=v_22) then (v_20[v_22.toNat]?).bind fun x1=>bif decide (s_6<0) then none else (bif decide (0<=(iadd .i64 v_22 words_5))&&decide ((iadd .i64 v_22 words_5)<(out_7.length:Int)) then (out_7[(iadd .i64 v_22 words_5).toNat]?).bind fun x2=>bif decide (0<=(iadd .i64 v_22 words_5))&&decide ((iadd .i64 v_22 words_5)<(out_7.length:Int)) then (out_7[(iadd .i64 v_22 words_5).toNat]?).bind fun _=>bif decide (0<=(iadd .i64 (iadd .i64 v_22 words_5) 1))&&decide ((iadd .i64 (iadd .i64 v_22 words_5) 1)<((out_7.set ((iadd .i64 v_22 words_5).toNat) (ior .u64 x2 (iand .u64 (shlV .u64 x1 s_6) 4294967295))).length:Int)) then ((out_7.set ((iadd .i64 v_22 words_5).toNat) (ior .u64 x2 (iand .u64 (shlV .u64 x1 s_6) 4294967295)))[(iadd .i64 (iadd .i64 v_22 words_5) 1).toNat]?).bind fun _=>g ((words_5,s_6,((out_7.set ((iadd .i64 v_22 words_5).toNat) (ior .u64 x2 (iand .u64 (shlV .u64 x1 s_6) 4294967295))).set ((iadd .i64 (iadd .i64 v_22 words_5) 1).toNat) (shrV .u64 (shlV .u64 x1 s_6) 32)),v_20,v_21,(iadd .i64 v_22 1),()),()) else none else none else none) else none) else (some ((out_7,()),()))
def qfp (a_0:List Int) (n_1:Int):Option (List Int) :=
 bif decide ((iadd .i64 (iadd .i64 (a_0.length:Int) (iquo .i64 n_1 32)) 1)=(iadd .i64 (iadd .i64 (a_0.length:Int) (iquo .i64 n_1 32)) 1))&&decide (0<=(iadd .i64 (iadd .i64 (a_0.length:Int) (iquo .i64 n_1 32)) 1))&&decide (((8:Nat):Int)*(iadd .i64 (iadd .i64 (a_0.length:Int) (iquo .i64 n_1 32)) 1)<=281474976710656)&&decide ((iadd .i64 (iadd .i64 (a_0.length:Int) (iquo .i64 n_1 32)) 1)<=9223372036854775807) then (lp qc8 K0 (((iquo .i64 n_1 32),(irem n_1 32),(List.replicate (iadd .i64 (iadd .i64 (a_0.length:Int) (iquo .i64 n_1 32)) 1).toNat (0:Int)),a_0,(a_0.length:Int),0,()),())).bind fun t5=>(qcN t5.1.1).bind fun r6=>some r6 else none
def c69:Ctr:=⟨[((.sl (.int .u64)),.imm),((.int .i64),.imm)],[((.sl (.int .u64)),true)],(List Int),fun x=>qfp x.1 x.2.1,fun r=>((),(r,())),none⟩
abbrev qdI:SG:=⟨[(0,.v (.sl (.int .u64))),(1,.v (.int .u64)),(6,.o (.int .u64) 55),(7,.v (.int .u64)),(8,.v (.int .i64))],[],[],[]⟩
abbrev qeE:List (Ex×SG):=[(.exit 0,⟨[(6,.o (.int .u64) 55),(7,.v (.int .u64))],[],[],[]⟩)]
def qcq (g:(((List Int)×Int×(List Int)×Int×Int×Unit)×Unit)->Option (((List Int)×Int×Unit)×Unit)):(((List Int)×Int×(List Int)×Int×Int×Unit)×Unit)->Option (((List Int)×Int×Unit)×Unit)
 | ((a_0,d_1,out_6,rest_7,i_8,_),_)=>bif (decide (i_8>=0)) then (bif decide (0<=i_8) then (a_0[i_8.toNat]?).bind fun x1=>bif decide (d_1=0) then none else (bif decide (0<=i_8)&&decide (i_8<(out_6.length:Int)) then (out_6[i_8.toNat]?).bind fun _=>bif decide (d_1=0) then none else (g ((a_0,d_1,(out_6.set i_8.toNat (iquo .u64 (ior .u64 (shlV .u64 rest_7 32) x1) d_1)),(irem (ior .u64 (shlV .u64 rest_7 32) x1) d_1),(isub .i64 i_8 1),()),())) else none) else none) else (some ((out_6,rest_7,()),()))
def qg6 (a_0:List Int) (d_1:Int):Option ((List Int)×Int) :=
 bif decide ((a_0.length:Int)=(a_0.length:Int))&&decide (0<=(a_0.length:Int))&&decide (((8:Nat):Int)*(a_0.length:Int)<=281474976710656)&&decide ((a_0.length:Int)<=9223372036854775807) then (lp qcq K0 ((a_0,d_1,(List.replicate (a_0.length:Int).toNat (0:Int)),0,(isub .i64 (a_0.length:Int) 1),()),())).bind fun t3=>(qcN t3.1.1).bind fun r4=>some (r4,t3.1.2.1) else none
def c72:Ctr:=⟨[((.sl (.int .u64)),.imm),((.int .u64),.imm)],[((.sl (.int .u64)),true),((.int .u64),false)],(List Int)×Int,fun x=>qg6 x.1 x.2.1,fun r=>((),(r.1,r.2,())),none⟩
def qq7 (a0:Int):Option Int:=bif decide (0<=a0)&&decide (a0<4294967296) then some ((lenN a0.toNat:Nat):Int) else none
def c81:Ctr:=⟨[((.int .u32),.imm)],[((.int .i64),false)],Int,fun x=>qq7 x.1,fun r=>((),(r,())),none⟩
def qbZ (x_0:Int):Option Int :=
 (qq7 x_0).bind fun r1=>some (isub .i64 32 r1)
def c78:Ctr:=⟨[((.int .u32),.imm)],[((.int .i64),false)],Int,fun x=>qbZ x.1,fun r=>((),(r,())),none⟩
abbrev qeq:SG:=⟨[(0,.l (.int .u64) 0),(1,.v (.sl (.int .u64))),(2,.v (.int .u64)),(7,.v (.int .u64)),(8,.v (.int .u64)),(12,.v (.int .i64)),(13,.v (.int .i64))],[],[],[]⟩
abbrev qfo:List (Ex×SG):=[(.exit 0,⟨[(0,.l (.int .u64) 0),(8,.v (.int .u64))],[],[],[]⟩)]
abbrev qiI:=(((List Int)×(List Int)×Int×Int×Int×Int×Int×Unit)×Unit)
abbrev qiH:=(((List Int)×Int×Unit)×Unit)
def qcZ (g:qiI->Option qiH):qiI->Option qiH
 | ((u_0,v_1,times_2,carry_7,debt_8,v_12,v_13,_),_)=>bif (decide (v_13<v_12)) then ((qew v_1 v_13).bind fun r1=>bif decide (0<=v_13)&&decide (v_13<(u_0.length:Int)) then (u_0[v_13.toNat]?).bind fun x2=>bif decide (0<=v_13)&&decide (v_13<(u_0.length:Int)) then (u_0[v_13.toNat]?).bind fun _=>g (((u_0.set v_13.toNat (iand .u64 (isub .u64 (isub .u64 (iadd .u64 4294967296 x2) (iand .u64 (iadd .u64 carry_7 (imul .u64 times_2 r1)) 4294967295)) debt_8) 4294967295)),v_1,times_2,(shrV .u64 (iadd .u64 carry_7 (imul .u64 times_2 r1)) 32),(isub .u64 1 (shrV .u64 (isub .u64 (isub .u64 (iadd .u64 4294967296 x2) (iand .u64 (iadd .u64 carry_7 (imul .u64 times_2 r1)) 4294967295)) debt_8) 32)),v_12,(iadd .i64 v_13 1),()),()) else none else none) else (some ((u_0,debt_8,()),()))
def qiJ (u_0:List Int) (v_1:List Int) (times_2:Int):Option ((List Int)×Bool) :=
 (lp qcZ K0 ((u_0,v_1,times_2,0,0,(u_0.length:Int),0,()),())).bind fun t4=>(bif Nat.beq t4.1.1.length u_0.length then some (t4.1.1,()) else none).bind fun l5=>some (l5.1,(decide (t4.1.2.1=1)))
def c82:Ctr:=⟨[((.sl (.int .u64)),.lent),((.sl (.int .u64)),.imm),((.int .u64),.imm)],[(.bool,false)],(List Int)×Bool,fun x=>qiJ x.1 x.2.1 x.2.2.1,fun r=>((r.1,()),(r.2,())),none⟩
abbrev qes:SG:=⟨[(0,.l (.int .u64) 0),(1,.v (.sl (.int .u64))),(4,.v (.int .u64)),(7,.v (.int .i64)),(8,.v (.int .i64))],[],[],[]⟩
abbrev qfr:List (Ex×SG):=[(.exit 0,⟨[(0,.l (.int .u64) 0)],[],[],[]⟩)]
def qc0 (g:(((List Int)×(List Int)×Int×Int×Int×Unit)×Unit)->Option (((List Int)×Unit)×Unit)):(((List Int)×(List Int)×Int×Int×Int×Unit)×Unit)->Option (((List Int)×Unit)×Unit)
 | ((u_0,v_1,carry_4,v_7,v_8,_),_)=>bif (decide (v_8<v_7)) then (bif decide (0<=v_8)&&decide (v_8<(u_0.length:Int)) then (u_0[v_8.toNat]?).bind fun x1=>(qew v_1 v_8).bind fun r2=>bif decide (0<=v_8)&&decide (v_8<(u_0.length:Int)) then (u_0[v_8.toNat]?).bind fun _=>g (((u_0.set v_8.toNat (iand .u64 (iadd .u64 carry_4 (iadd .u64 x1 r2)) 4294967295)),v_1,(shrV .u64 (iadd .u64 carry_4 (iadd .u64 x1 r2)) 32),v_7,(iadd .i64 v_8 1),()),()) else none else none) else (some ((u_0,()),()))
def qiN (u_0:List Int) (v_1:List Int):Option (List Int) :=
 (lp qc0 K0 ((u_0,v_1,0,(u_0.length:Int),0,()),())).bind fun t4=>(bif Nat.beq t4.1.1.length u_0.length then some (t4.1.1,()) else none).bind fun l5=>some l5.1
def c83:Ctr:=⟨[((.sl (.int .u64)),.lent),((.sl (.int .u64)),.imm)],[],(List Int),fun x=>qiN x.1 x.2.1,fun r=>((r,()),()),none⟩
abbrev qdL:SG:=⟨[(0,.l (.int .u64) 0),(1,.v (.sl (.int .u64))),(5,.v (.int .i64)),(7,.v (.int .u64)),(8,.v (.int .u64))],[],[],[]⟩
abbrev qeI:List (Ex×SG):=[(.exit 0,⟨[(0,.l (.int .u64) 0),(1,.v (.sl (.int .u64))),(7,.v (.int .u64))],[],[],[]⟩)]
def qbb (g:(((List Int)×(List Int)×Int×Int×Int×Unit)×Unit)->Option (((List Int)×(List Int)×Int×Unit)×Unit)):(((List Int)×(List Int)×Int×Int×Int×Unit)×Unit)->Option (((List Int)×(List Int)×Int×Unit)×Unit)
 | ((v_0,v_1,v_5,v_7,v_8,_),_)=>bif (decide (v_7>=4294967296)) then (bif decide (0<=(isub .i64 v_5 1)) then (v_1[(isub .i64 v_5 1).toNat]?).bind fun x5=>bif (decide ((iadd .u64 v_8 x5)>=4294967296)) then (some ((v_0,v_1,(isub .u64 v_7 1),()),())) else (g ((v_0,v_1,v_5,(isub .u64 v_7 1),(iadd .u64 v_8 x5),()),())) else none) else (bif decide (0<=(isub .i64 v_5 2)) then (v_1[(isub .i64 v_5 2).toNat]?).bind fun x6=>bif decide (0<=(isub .i64 v_5 2))&&decide ((isub .i64 v_5 2)<(v_0.length:Int)) then (v_0[(isub .i64 v_5 2).toNat]?).bind fun x7=>bif (decide ((imul .u64 v_7 x6)>(ior .u64 (shlV .u64 v_8 32) x7))) then (bif decide (0<=(isub .i64 v_5 1)) then (v_1[(isub .i64 v_5 1).toNat]?).bind fun x8=>bif (decide ((iadd .u64 v_8 x8)>=4294967296)) then (some ((v_0,v_1,(isub .u64 v_7 1),()),())) else (g ((v_0,v_1,v_5,(isub .u64 v_7 1),(iadd .u64 v_8 x8),()),())) else none) else (some ((v_0,v_1,v_7,()),())) else none else none)
def qf6 (a_0:List Int) (a_1:List Int):Option ((List Int)×Int) :=
 bif decide (0<=(a_1.length:Int))&&decide ((a_1.length:Int)<(a_0.length:Int)) then (a_0[(a_1.length:Int).toNat]?).bind fun x1=>bif decide (0<=(isub .i64 (a_1.length:Int) 1))&&decide ((isub .i64 (a_1.length:Int) 1)<(a_0.length:Int)) then (a_0[(isub .i64 (a_1.length:Int) 1).toNat]?).bind fun x2=>bif decide (0<=(isub .i64 (a_1.length:Int) 1)) then (a_1[(isub .i64 (a_1.length:Int) 1).toNat]?).bind fun x3=>bif decide (x3=0) then none else (bif decide (0<=(isub .i64 (a_1.length:Int) 1)) then (a_1[(isub .i64 (a_1.length:Int) 1).toNat]?).bind fun x4=>bif decide (x4=0) then none else ((lp qbb K0 ((a_0,a_1,(a_1.length:Int),(iquo .u64 (ior .u64 (shlV .u64 x1 32) x2) x3),(irem (ior .u64 (shlV .u64 x1 32) x2) x4),()),())).bind fun t9=>(qiJ t9.1.1 t9.1.2.1 t9.1.2.2.1).bind fun r10=>bif r10.2 then ((qiN (over t9.1.1 0 r10.1) t9.1.2.1).bind fun r11=>(bif Nat.beq (over (over t9.1.1 0 r10.1) 0 r11).length a_0.length then some ((over (over t9.1.1 0 r10.1) 0 r11),()) else none).bind fun l12=>some (l12.1,(isub .u64 t9.1.2.2.1 1))) else ((bif Nat.beq (over t9.1.1 0 r10.1).length a_0.length then some ((over t9.1.1 0 r10.1),()) else none).bind fun l13=>some (l13.1,t9.1.2.2.1))) else none) else none else none else none
def c79:Ctr:=⟨[((.sl (.int .u64)),.lent),((.sl (.int .u64)),.imm)],[((.int .u64),false)],(List Int)×Int,fun x=>qf6 x.1 x.2.1,fun r=>((r.1,()),(r.2,())),none⟩
abbrev qer:SG:=⟨[(6,.v (.int .i64)),(7,.v (.sl (.int .u64))),(8,.o (.int .u64) 71),(9,.v (.int .i64)),(10,.o (.int .u64) 87),(11,.v (.int .i64))],[],[],[]⟩
abbrev qfq:List (Ex×SG):=[(.exit 0,⟨[(6,.v (.int .i64)),(8,.o (.int .u64) 71),(10,.o (.int .u64) 87)],[],[],[]⟩)]
abbrev qiL:=((Int×(List Int)×(List Int)×Int×(List Int)×Int×Unit)×Unit)
abbrev qiK:=((Int×(List Int)×(List Int)×Unit)×Unit)
def qcw (g:qiL->Option qiK):qiL->Option qiK
 | ((s_6,v_7,u_8,n_9,q_10,j_11,_),_)=>bif (decide (j_11>=0)) then (bif decide (0<=j_11)&&decide ((j_11:Int)<=(iadd .i64 (iadd .i64 j_11 n_9) 1))&&decide (((iadd .i64 (iadd .i64 j_11 n_9) 1):Int)<=(iadd .i64 (iadd .i64 j_11 n_9) 1))&&decide (((iadd .i64 (iadd .i64 j_11 n_9) 1):Int)<=(u_8.length:Int)) then (qf6 ((u_8.drop j_11.toNat).take (((iadd .i64 (iadd .i64 j_11 n_9) 1)-j_11).toNat)) v_7).bind fun r5=>bif decide (0<=j_11)&&decide (j_11<(q_10.length:Int)) then (q_10[j_11.toNat]?).bind fun _=>g ((s_6,v_7,(over u_8 j_11.toNat r5.1),n_9,(q_10.set j_11.toNat r5.2),(isub .i64 j_11 1),()),()) else none else none) else (some ((s_6,u_8,q_10,()),()))
def qiM (a_0:List Int) (b_1:List Int):Option ((List Int)×(List Int)) :=
 bif decide (0<=(isub .i64 (b_1.length:Int) 1)) then (b_1[(isub .i64 (b_1.length:Int) 1).toNat]?).bind fun x1=>(qbZ (IntKind.wrap .u32 x1)).bind fun r2=>(qfp b_1 r2).bind fun r3=>(qfp a_0 r2).bind fun r4=>bif Nat.ble ((r4.length+2)*8) 140737488355328&&!false then bif decide ((0:Int)<=(iadd .i64 (a_0.length:Int) 1))&&decide (((iadd .i64 (a_0.length:Int) 1):Int)<=(iadd .i64 (a_0.length:Int) 1))&&decide (((iadd .i64 (a_0.length:Int) 1):Int)<=((r4++([0,0]:List Int)).length:Int)) then bif decide ((isub .i64 (((iadd .i64 (a_0.length:Int) 1)-0).toNat:Int) (r3.length:Int))=(isub .i64 (((iadd .i64 (a_0.length:Int) 1)-0).toNat:Int) (r3.length:Int)))&&decide (0<=(isub .i64 (((iadd .i64 (a_0.length:Int) 1)-0).toNat:Int) (r3.length:Int)))&&decide (((8:Nat):Int)*(isub .i64 (((iadd .i64 (a_0.length:Int) 1)-0).toNat:Int) (r3.length:Int))<=281474976710656)&&decide ((isub .i64 (((iadd .i64 (a_0.length:Int) 1)-0).toNat:Int) (r3.length:Int))<=9223372036854775807) then (lp qcw K0 ((r2,r3,((r4++([0,0]:List Int)).take (((iadd .i64 (a_0.length:Int) 1)-0).toNat)),(r3.length:Int),(List.replicate (isub .i64 (((iadd .i64 (a_0.length:Int) 1)-0).toNat:Int) (r3.length:Int)).toNat (0:Int)),(isub .i64 ((List.replicate (isub .i64 (((iadd .i64 (a_0.length:Int) 1)-0).toNat:Int) (r3.length:Int)).toNat (0:Int)).length:Int) 1),()),())).bind fun t7=>(qcN t7.1.2.2.1).bind fun r8=>(qcN t7.1.2.1).bind fun r9=>(qcv r9 t7.1.1).bind fun r10=>some (r8,r10) else none else none else none else none
def c73:Ctr:=⟨[((.sl (.int .u64)),.imm),((.sl (.int .u64)),.imm)],[((.sl (.int .u64)),true),((.sl (.int .u64)),true)],(List Int)×(List Int),fun x=>qiM x.1 x.2.1,fun r=>((),(r.1,r.2,())),none⟩
def qdb (a_0:List Int) (b_1:List Int):Option ((List Int)×(List Int)×Int) :=
 (qbm a_0).bind fun r1=>(qbm b_1).bind fun r2=>bif (decide ((r2.length:Int)=0)) then (some ([],[],2)) else ((qeG r1 r2).bind fun r3=>bif (decide (r3<0)) then (some ([],r1,0)) else (bif (decide ((r2.length:Int)=1)) then (bif decide ((0:Int)<(r2.length:Int)) then (r2[0]?).bind fun x4=>(qg6 r1 x4).bind fun r5=>(qhb r5.2).bind fun r6=>some (r5.1,r6,0) else none) else ((qiM r1 r2).bind fun r7=>some (r7.1,r7.2,0))))
def c56:Ctr:=⟨[((.sl (.int .u64)),.imm),((.sl (.int .u64)),.imm)],[((.sl (.int .u64)),true),((.sl (.int .u64)),false),((.int .i64),false)],(List Int)×(List Int)×Int,fun x=>qdb x.1 x.2.1,fun r=>((),(r.1,r.2.1,r.2.2,())),none⟩
def qfE (a_0:List Int) (b_1:List Int):Option ((List Int)×(List Int)) :=
 (qdb a_0 b_1).bind fun r1=>some (r1.1,r1.2.1)
def c70:Ctr:=⟨[((.sl (.int .u64)),.imm),((.sl (.int .u64)),.imm)],[((.sl (.int .u64)),true),((.sl (.int .u64)),false)],(List Int)×(List Int),fun x=>qfE x.1 x.2.1,fun r=>((),(r.1,r.2,())),none⟩
abbrev qdK:SG:=⟨[(0,.v (.sl (.int .u64))),(1,.v (.sl (.int .u64))),(5,.o (.int .u64) 47),(6,.v (.int .u64)),(13,.v (.int .i64)),(14,.v (.int .i64))],[],[],[]⟩
abbrev qeH:List (Ex×SG):=[(.exit 0,⟨[(5,.o (.int .u64) 47)],[],[],[]⟩)]
abbrev qh0:=(((List Int)×(List Int)×(List Int)×Int×Int×Int×Unit)×Unit)
abbrev qhZ:=(((List Int)×Unit)×Unit)
def qcr (g:qh0->Option qhZ):qh0->Option qhZ
 | ((a_0,b_1,out_5,debt_6,v_13,v_14,_),_)=>bif (decide (v_14<v_13)) then (bif decide (0<=v_14) then (a_0[v_14.toNat]?).bind fun x1=>(qew b_1 v_14).bind fun r2=>bif decide (0<=v_14)&&decide (v_14<(out_5.length:Int)) then (out_5[v_14.toNat]?).bind fun _=>g ((a_0,b_1,(out_5.set v_14.toNat (iand .u64 (isub .u64 (isub .u64 (iadd .u64 4294967296 x1) r2) debt_6) 4294967295)),(isub .u64 1 (shrV .u64 (isub .u64 (isub .u64 (iadd .u64 4294967296 x1) r2) debt_6) 32)),v_13,(iadd .i64 v_14 1),()),()) else none else none) else (some ((out_5,()),()))
def qdZ (a_0:List Int) (b_1:List Int):Option (List Int) :=
 bif decide ((a_0.length:Int)=(a_0.length:Int))&&decide (0<=(a_0.length:Int))&&decide (((8:Nat):Int)*(a_0.length:Int)<=281474976710656)&&decide ((a_0.length:Int)<=9223372036854775807) then (lp qcr K0 ((a_0,b_1,(List.replicate (a_0.length:Int).toNat (0:Int)),0,((List.replicate (a_0.length:Int).toNat (0:Int)).length:Int),0,()),())).bind fun t4=>(qcN t4.1.1).bind fun r5=>some r5 else none
def c71:Ctr:=⟨[((.sl (.int .u64)),.imm),((.sl (.int .u64)),.imm)],[((.sl (.int .u64)),true)],(List Int),fun x=>qdZ x.1 x.2.1,fun r=>((),(r,())),none⟩
abbrev qet:SG:=⟨[(0,.o (.int .u64) 7),(1,.v (.sl (.int .u64))),(5,.v (.int .i64)),(6,.v (.int .i64))],[],[],[]⟩
abbrev qfs:List (Ex×SG):=[(.ret,⟨[(4,.o (.int .u64) 39)],[],[],[]⟩)]
def qbl (g:(((List Int)×(List Int)×Int×Int×Unit)×Unit)->Option (((List Int)×Unit)×Unit)):(((List Int)×(List Int)×Int×Int×Unit)×Unit)->Option (((List Int)×Unit)×Unit)
 | ((v_0,v_1,v_5,v_6,_),_)=>(qeG v_0 v_1).bind fun r8=>bif (decide (r8=0)) then ((qfp v_0 (mn v_5 v_6)).bind fun r9=>some ((r9,()),())) else (bif (decide (r8<0)) then (bif (decide ((v_1.length:Int)>(iadd .i64 (v_0.length:Int) 1))) then ((qfE v_1 v_0).bind fun r10=>bif (decide ((r10.2.length:Int)=0)) then ((qfp v_0 (mn v_5 v_6)).bind fun r11=>some ((r11,()),())) else ((qbw r10.2).bind fun r12=>(qcv r10.2 r12).bind fun r13=>g ((r13,v_0,v_5,v_6,()),()))) else ((qdZ v_1 v_0).bind fun r14=>(qbw r14).bind fun r15=>(qcv r14 r15).bind fun r16=>g ((r16,v_0,v_5,v_6,()),()))) else (bif (decide ((v_0.length:Int)>(iadd .i64 (v_1.length:Int) 1))) then ((qfE v_0 v_1).bind fun r17=>bif (decide ((r17.2.length:Int)=0)) then ((qfp v_1 (mn v_5 v_6)).bind fun r18=>some ((r18,()),())) else ((qbw r17.2).bind fun r19=>(qcv r17.2 r19).bind fun r20=>g ((r20,v_1,v_5,v_6,()),()))) else ((qdZ v_0 v_1).bind fun r21=>(qbw r21).bind fun r22=>(qcv r21 r22).bind fun r23=>g ((r23,v_1,v_5,v_6,()),()))))
def qkX (a_0:List Int) (a_1:List Int):Option (List Int) :=
 (qbm a_0).bind fun r1=>(qbm a_1).bind fun r2=>bif (decide ((r1.length:Int)=0)) then (some r2) else (bif (decide ((r2.length:Int)=0)) then (some r1) else (bif (decide ((r1.length:Int)<=2)) then (bif (decide ((r2.length:Int)<=2)) then ((qf5 r1 r2).bind fun r3=>some r3) else ((qbw r1).bind fun r4=>(qbw r2).bind fun r5=>(qcv r1 r4).bind fun r6=>(qcv r2 r5).bind fun r7=>(lp qbl K0 ((r6,r7,r4,r5,()),())).bind fun t24=>some t24.1.1)) else ((qbw r1).bind fun r25=>(qbw r2).bind fun r26=>(qcv r1 r25).bind fun r27=>(qcv r2 r26).bind fun r28=>(lp qbl K0 ((r27,r28,r25,r26,()),())).bind fun t29=>some t29.1.1)))
def c55:Ctr:=⟨[((.sl (.int .u64)),.imm),((.sl (.int .u64)),.imm)],[((.sl (.int .u64)),true)],(List Int),fun x=>qkX x.1 x.2.1,fun r=>((),(r,())),none⟩
def qcK (num_0:WH) (den_1:List Int):Option RAT :=
 bif (decide ((num_0.2.length:Int)=0)) then ((qhb 1).bind fun r1=>some ((false,[]),r1)) else ((qkX num_0.2 den_1).bind fun r2=>bif (decide ((r2.length:Int)=1)) then (bif decide ((0:Int)<(r2.length:Int)) then (r2[0]?).bind fun x3=>bif (decide (x3=1)) then (some (num_0,den_1)) else ((qdb num_0.2 r2).bind fun r4=>(qdb den_1 r2).bind fun r5=>some ((num_0.1,r4.1),r5.1)) else none) else ((qdb num_0.2 r2).bind fun r6=>(qdb den_1 r2).bind fun r7=>some ((num_0.1,r6.1),r7.1)))
def c31:Ctr:=⟨[(tWH,.imm),((.sl (.int .u64)),.imm)],[(tRAT,false)],RAT,fun x=>qcK x.1 x.2.1,fun r=>((),(r,())),none⟩
def qa8 (a_0:RAT):Option RAT :=
 (qbm a_0.2).bind fun r1=>bif (decide ((r1.length:Int)=0)) then ((qe6 ).bind fun r2=>some r2) else ((qa7 a_0.1).bind fun r3=>(qcK r3 r1).bind fun r4=>some r4)
def c21:Ctr:=⟨[(tRAT,.imm)],[(tRAT,false)],RAT,fun x=>qa8 x.1,fun r=>((),(r,())),none⟩
def qdF (a_0:RAT):Option Int :=
 (qa8 a_0).bind fun r1=>(qe4 r1.1).bind fun r2=>some r2
def c8:Ctr:=⟨[(tRAT,.imm)],[((.int .i64),false)],Int,fun x=>qdF x.1,fun r=>((),(r,())),none⟩
abbrev qcj:SG:=⟨[(6,.v (.sl qat)),(7,.v (.int .i64)),(8,.v (.int .i64))],[],[],[]⟩
abbrev qcU:List (Ex×SG):=[(.exit 0,⟨[],[],[],[]⟩),(.ret,⟨[(2,.v (.int .i64)),(3,.v (.int .i64))],[],[],[]⟩)]
def qaR (g:(((List NODE)×Int×Int×Unit)×Unit)->Option ((Unit×Unit) ⊕ ((Int×Int×Unit)×Unit))):(((List NODE)×Int×Int×Unit)×Unit)->Option ((Unit×Unit) ⊕ ((Int×Int×Unit)×Unit))
 | ((v_6,v_7,v_8,_),_)=>bif (decide (v_8<v_7)) then (bif decide (0<=v_8) then (v_6[v_8.toNat]?).bind fun x1=>(qdF x1.2.2.2.2.2.2.2).bind fun r2=>bif (decide (r2<=0)) then (some (.inr ((v_8,12,()),()))) else (g ((v_6,v_7,(iadd .i64 v_8 1),()),())) else none) else (some (.inl ((()),())))
def qdC (t_0:List NODE):Option (Int×Int) :=
 (lp qaR K0 ((t_0,(t_0.length:Int),0,()),())).bind fun t3=>(match t3 with | .inl t4=>some (0,0) | .inr t5=>some (t5.1.1,t5.1.2.1))
def c41:Ctr:=⟨[((.sl qat),.imm)],[((.int .i64),false),((.int .i64),false)],Int×Int,fun x=>qdC x.1,fun r=>((),(r.1,r.2,())),none⟩
abbrev qfa:SG:=⟨[(1,.v (.sl (.int .u64))),(5,.o (.int .u64) 47),(6,.v (.int .i64)),(7,.v (.int .u64)),(8,.v (.int .u64)),(21,.o (.int .u64) 175),(22,.v (.int .i64)),(23,.v (.int .i64)),(28,.v (.sl (.int .u64))),(29,.v (.int .i64)),(30,.v (.int .i64))],[],[],[]⟩
abbrev qf7:List (Ex×SG):=[(.exit 2,⟨[(1,.v (.sl (.int .u64))),(5,.o (.int .u64) 47),(6,.v (.int .i64)),(8,.v (.int .u64)),(21,.o (.int .u64) 175),(22,.v (.int .i64)),(23,.v (.int .i64))],[],[],[]⟩)]
abbrev qjV:=(((List Int)×(List Int)×Int×Int×Int×(List Int)×Int×Int×(List Int)×Int×Int×Unit)×Unit)
abbrev qjU:=(((List Int)×(List Int)×Int×Int×(List Int)×Int×Int×Unit)×Unit)
def qda (g:qjV->Option qjU):qjV->Option qjU
 | ((v_1,v_5,v_6,v_7,v_8,v_21,v_22,v_23,v_28,v_29,v_30,_),_)=>bif (decide (v_30<v_29)) then (bif decide (0<=v_30) then (v_28[v_30.toNat]?).bind fun x4=>bif decide (0<=(iadd .i64 v_6 v_30))&&decide ((iadd .i64 v_6 v_30)<(v_5.length:Int)) then (v_5[(iadd .i64 v_6 v_30).toNat]?).bind fun x5=>bif decide (0<=(iadd .i64 v_6 v_30))&&decide ((iadd .i64 v_6 v_30)<(v_5.length:Int)) then (v_5[(iadd .i64 v_6 v_30).toNat]?).bind fun _=>g ((v_1,(v_5.set ((iadd .i64 v_6 v_30).toNat) (iand .u64 (iadd .u64 v_8 (iadd .u64 x5 (imul .u64 v_7 x4))) 4294967295)),v_6,v_7,(shrV .u64 (iadd .u64 v_8 (iadd .u64 x5 (imul .u64 v_7 x4))) 32),v_21,v_22,v_23,v_28,v_29,(iadd .i64 v_30 1),()),()) else none else none else none) else (some ((v_1,v_5,v_6,v_8,v_21,v_22,v_23,()),()))
abbrev qfb:SG:=⟨[(1,.v (.sl (.int .u64))),(5,.o (.int .u64) 47),(21,.o (.int .u64) 175),(22,.v (.int .i64)),(23,.v (.int .i64))],[],[],[]⟩
abbrev qf8:List (Ex×SG):=[(.exit 0,⟨[(5,.o (.int .u64) 47)],[],[],[]⟩)]
abbrev qjX:=(((List Int)×(List Int)×(List Int)×Int×Int×Unit)×Unit)
abbrev qjW:=(((List Int)×Unit)×Unit)
def qdM (g:qjX->Option qjW):qjX->Option qjW
 | ((v_1,v_5,v_21,v_22,v_23,_),_)=>bif (decide (v_23<v_22)) then (bif decide (0<=v_23)&&decide (v_23<(v_21.length:Int)) then (v_21[v_23.toNat]?).bind fun x3=>(lp qda K0 ((v_1,v_5,v_23,x3,0,v_21,v_22,v_23,v_1,(v_1.length:Int),0,()),())).bind fun t7=>bif decide (0<=(iadd .i64 t7.1.2.2.1 (t7.1.1.length:Int)))&&decide ((iadd .i64 t7.1.2.2.1 (t7.1.1.length:Int))<(t7.1.2.1.length:Int)) then (t7.1.2.1[(iadd .i64 t7.1.2.2.1 (t7.1.1.length:Int)).toNat]?).bind fun _=>g ((t7.1.1,(t7.1.2.1.set ((iadd .i64 t7.1.2.2.1 (t7.1.1.length:Int)).toNat) t7.1.2.2.2.1),t7.1.2.2.2.2.1,t7.1.2.2.2.2.2.1,(iadd .i64 t7.1.2.2.2.2.2.2.1 1),()),()) else none else none) else (some ((v_5,()),()))
def qhc (a_0:List Int) (a_1:List Int):Option (List Int) :=
 (qbm a_0).bind fun r1=>(qbm a_1).bind fun r2=>bif decide ((iadd .i64 (r1.length:Int) (r2.length:Int))=(iadd .i64 (r1.length:Int) (r2.length:Int)))&&decide (0<=(iadd .i64 (r1.length:Int) (r2.length:Int)))&&decide (((8:Nat):Int)*(iadd .i64 (r1.length:Int) (r2.length:Int))<=281474976710656)&&decide ((iadd .i64 (r1.length:Int) (r2.length:Int))<=9223372036854775807) then (lp qdM K0 ((r2,(List.replicate (iadd .i64 (r1.length:Int) (r2.length:Int)).toNat (0:Int)),r1,(r1.length:Int),0,()),())).bind fun t9=>(qcN t9.1.1).bind fun r10=>some r10 else none
def c33:Ctr:=⟨[((.sl (.int .u64)),.imm),((.sl (.int .u64)),.imm)],[((.sl (.int .u64)),true)],(List Int),fun x=>qhc x.1 x.2.1,fun r=>((),(r,())),none⟩
def qdh (a_0:WH) (b_1:WH):Option WH :=
 (qa7 a_0).bind fun r1=>(qa7 b_1).bind fun r2=>(qhc r1.2 r2.2).bind fun r3=>(qce (!(r1.1 == r2.1)) r3).bind fun r4=>some r4
def c32:Ctr:=⟨[(tWH,.imm),(tWH,.imm)],[(tWH,false)],WH,fun x=>qdh x.1 x.2.1,fun r=>((),(r,())),none⟩
def qdr (a_0:RAT):Option WH :=
 some (false,a_0.2)
def c50:Ctr:=⟨[(tRAT,.imm)],[(tWH,false)],WH,fun x=>qdr x.1,fun r=>((),(r,())),none⟩
def qeT (a_0:List Int) (b_1:List Int):Option Int :=
 (qbm a_0).bind fun r1=>(qbm b_1).bind fun r2=>(qeG r1 r2).bind fun r3=>some r3
def c61:Ctr:=⟨[((.sl (.int .u64)),.imm),((.sl (.int .u64)),.imm)],[((.int .i64),false)],Int,fun x=>qeT x.1 x.2.1,fun r=>((),(r,())),none⟩
def qgT (a_0:WH) (b_1:WH):Option Int :=
 (qa7 a_0).bind fun r1=>(qa7 b_1).bind fun r2=>bif (!(r1.1 == r2.1)) then (bif r1.1 then (some (-1)) else (bif (!(r1.1 == r2.1)) then (some 1) else (bif r1.1 then ((qeT r2.2 r1.2).bind fun r3=>some r3) else ((qeT r1.2 r2.2).bind fun r4=>some r4)))) else (bif (!(r1.1 == r2.1)) then (some 1) else (bif r1.1 then ((qeT r2.2 r1.2).bind fun r5=>some r5) else ((qeT r1.2 r2.2).bind fun r6=>some r6)))
def c54:Ctr:=⟨[(tWH,.imm),(tWH,.imm)],[((.int .i64),false)],Int,fun x=>qgT x.1 x.2.1,fun r=>((),(r,())),none⟩
def qf1 (a_0:RAT) (b_1:RAT):Option Int :=
 (qa8 a_0).bind fun r1=>(qa8 b_1).bind fun r2=>(qdr r2).bind fun r3=>(qdh r1.1 r3).bind fun r4=>(qdr r1).bind fun r5=>(qdh r2.1 r5).bind fun r6=>(qgT r4 r6).bind fun r7=>some r7
def c30:Ctr:=⟨[(tRAT,.imm),(tRAT,.imm)],[((.int .i64),false)],Int,fun x=>qf1 x.1 x.2.1,fun r=>((),(r,())),none⟩
def qah (a_0:RAT) (b_1:RAT):Option Bool :=
 (qf1 a_0 b_1).bind fun r1=>some (decide (r1=0))
def c13:Ctr:=⟨[(tRAT,.imm),(tRAT,.imm)],[(.bool,false)],Bool,fun x=>qah x.1 x.2.1,fun r=>((),(r,())),none⟩
abbrev qfc:SG:=⟨[(0,.v (.sl (.int .u64))),(1,.v (.sl (.int .u64))),(5,.o (.int .u64) 47),(6,.v (.int .u64)),(20,.v (.int .i64)),(21,.v (.int .i64))],[],[],[]⟩
abbrev qf9:List (Ex×SG):=[(.exit 0,⟨[(5,.o (.int .u64) 47)],[],[],[]⟩)]
abbrev qjZ:=(((List Int)×(List Int)×(List Int)×Int×Int×Int×Unit)×Unit)
abbrev qjY:=(((List Int)×Unit)×Unit)
def qdO (g:qjZ->Option qjY):qjZ->Option qjY
 | ((a_0,b_1,out_5,carry_6,v_20,v_21,_),_)=>bif (decide (v_21<v_20)) then ((qew a_0 v_21).bind fun r3=>(qew b_1 v_21).bind fun r4=>bif decide (0<=v_21)&&decide (v_21<(out_5.length:Int)) then (out_5[v_21.toNat]?).bind fun _=>g ((a_0,b_1,(out_5.set v_21.toNat (iand .u64 (iadd .u64 carry_6 (iadd .u64 r3 r4)) 4294967295)),(shrV .u64 (iadd .u64 carry_6 (iadd .u64 r3 r4)) 32),v_20,(iadd .i64 v_21 1),()),()) else none) else (some ((out_5,()),()))
def qjh (a_0:List Int) (b_1:List Int):Option (List Int) :=
 (qbm a_0).bind fun r1=>(qbm b_1).bind fun r2=>bif decide ((iadd .i64 (mx (r1.length:Int) (r2.length:Int)) 1)=(iadd .i64 (mx (r1.length:Int) (r2.length:Int)) 1))&&decide (0<=(iadd .i64 (mx (r1.length:Int) (r2.length:Int)) 1))&&decide (((8:Nat):Int)*(iadd .i64 (mx (r1.length:Int) (r2.length:Int)) 1)<=281474976710656)&&decide ((iadd .i64 (mx (r1.length:Int) (r2.length:Int)) 1)<=9223372036854775807) then (lp qdO K0 ((r1,r2,(List.replicate (iadd .i64 (mx (r1.length:Int) (r2.length:Int)) 1).toNat (0:Int)),0,((List.replicate (iadd .i64 (mx (r1.length:Int) (r2.length:Int)) 1).toNat (0:Int)).length:Int),0,()),())).bind fun t6=>(qcN t6.1.1).bind fun r7=>some r7 else none
def c60:Ctr:=⟨[((.sl (.int .u64)),.imm),((.sl (.int .u64)),.imm)],[((.sl (.int .u64)),true)],(List Int),fun x=>qjh x.1 x.2.1,fun r=>((),(r,())),none⟩
def qha (a_0:List Int) (b_1:List Int):Option ((List Int)×Int) :=
 (qbm a_0).bind fun r1=>(qbm b_1).bind fun r2=>(qeG r1 r2).bind fun r3=>bif (decide (r3<0)) then (some ([],3)) else ((qdZ r1 r2).bind fun r4=>some (r4,0))
def c62:Ctr:=⟨[((.sl (.int .u64)),.imm),((.sl (.int .u64)),.imm)],[((.sl (.int .u64)),true),((.int .i64),false)],(List Int)×Int,fun x=>qha x.1 x.2.1,fun r=>((),(r.1,r.2,())),none⟩
def qgU (a_0:WH) (b_1:WH):Option WH :=
 (qa7 a_0).bind fun r1=>(qa7 b_1).bind fun r2=>bif (r1.1 == r2.1) then ((qjh r1.2 r2.2).bind fun r3=>(qce r1.1 r3).bind fun r4=>some r4) else ((qeT r1.2 r2.2).bind fun r5=>bif (decide (r5<0)) then ((qha r2.2 r1.2).bind fun r6=>(qce r2.1 r6.1).bind fun r7=>some r7) else ((qha r1.2 r2.2).bind fun r8=>(qce r1.1 r8.1).bind fun r9=>some r9))
def c49:Ctr:=⟨[(tWH,.imm),(tWH,.imm)],[(tWH,false)],WH,fun x=>qgU x.1 x.2.1,fun r=>((),(r,())),none⟩
def qeB (a_0:RAT) (b_1:RAT):Option RAT :=
 (qa8 a_0).bind fun r1=>(qa8 b_1).bind fun r2=>(qdr r2).bind fun r3=>(qdh r1.1 r3).bind fun r4=>(qdr r1).bind fun r5=>(qdh r2.1 r5).bind fun r6=>(qgU r4 r6).bind fun r7=>(qhc r1.2 r2.2).bind fun r8=>(qcK r7 r8).bind fun r9=>some r9
def c28:Ctr:=⟨[(tRAT,.imm),(tRAT,.imm)],[(tRAT,false)],RAT,fun x=>qeB x.1 x.2.1,fun r=>((),(r,())),none⟩
abbrev qc5:SG:=⟨[(0,.v (.sl qat)),(6,.v (.sl qat)),(7,.v (.int .i64)),(8,.v (.int .i64))],[],[],[]⟩
abbrev qdR:List (Ex×SG):=[(.exit 0,⟨[],[],[],[]⟩),(.ret,⟨[(2,.v (.int .i64)),(3,.v (.int .i64))],[],[],[]⟩)]
def qa3 (g:(((List NODE)×(List NODE)×Int×Int×Unit)×Unit)->Option ((Unit×Unit) ⊕ ((Int×Int×Unit)×Unit))):(((List NODE)×(List NODE)×Int×Int×Unit)×Unit)->Option ((Unit×Unit) ⊕ ((Int×Int×Unit)×Unit))
 | ((t_0,v_6,v_7,v_8,_),_)=>bif (decide (v_8<v_7)) then (bif decide (0<=v_8) then (v_6[v_8.toNat]?).bind fun x1=>bif (!x1.1) then (bif decide (0<=x1.2.2.2.1) then (t_0[x1.2.2.2.1.toNat]?).bind fun x2=>bif decide (0<=x1.2.2.2.2.1) then (t_0[x1.2.2.2.2.1.toNat]?).bind fun x3=>(qeB x2.2.2.2.2.2.2.2 x3.2.2.2.2.2.2.2).bind fun r4=>(qah x1.2.2.2.2.2.2.2 r4).bind fun r5=>bif (!r5) then (some (.inr ((v_8,13,()),()))) else (g ((t_0,v_6,v_7,(iadd .i64 v_8 1),()),())) else none else none) else (g ((t_0,v_6,v_7,(iadd .i64 v_8 1),()),())) else none) else (some (.inl ((()),())))
def qe5 (t_0:List NODE):Option (Int×Int) :=
 (lp qa3 K0 ((t_0,t_0,(t_0.length:Int),0,()),())).bind fun t6=>(match t6 with | .inl t7=>some (0,0) | .inr t8=>some (t8.1.1,t8.1.2.1))
def c42:Ctr:=⟨[((.sl qat),.imm)],[((.int .i64),false),((.int .i64),false)],Int×Int,fun x=>qe5 x.1,fun r=>((),(r.1,r.2,())),none⟩
def qdw (e_0:Int) (tree_1:Int) (node_2:Int):Option (Int×Int×Int×Int) :=
 some (e_0,(0,(tree_1,node_2)))
def c43:Ctr:=⟨[((.int .i64),.imm),((.int .i64),.imm),((.int .i64),.imm)],[((.pair (.int .i64) (.pair (.int .i64) (.pair (.int .i64) (.int .i64)))),false)],(Int×Int×Int×Int),fun x=>qdw x.1 x.2.1 x.2.2.1,fun r=>((),(r,())),none⟩
abbrev qcI:SG:=⟨[(1,.p 8 0 0),(2,.p 16 0 0),(3,.v (.int .i64)),(12,.v (.int .i64)),(16,.v (.sl (.sl qat))),(17,.v (.int .i64)),(18,.v (.int .i64))],[(8,[.v (.int .i64),.v (.sl (.sl qat))]),(16,[.v (.int .i64),.v (.int .i64),.v (.int .i64),.v (.int .i64)])],[],[]⟩
abbrev qdj:List (Ex×SG):=[(.exit 2,⟨[(1,.p 8 0 0),(2,.p 16 0 0),(12,.v (.int .i64))],[(8,[.v (.int .i64),.v (.sl (.sl qat))]),(16,[.v (.int .i64),.v (.int .i64),.v (.int .i64),.v (.int .i64)])],[],[]⟩),(.ret,⟨[(2,.p 16 0 0)],[(16,[.v (.int .i64),.v (.int .i64),.v (.int .i64),.v (.int .i64)])],[],[]⟩)]
abbrev qgF:=((Int×Int×(List (List NODE))×Int×Int×Unit)×((Int×(List (List NODE))×Unit)×(Int×Int×Int×Int×Unit)×Unit))
abbrev qgE:=(((Int×Unit)×((Int×(List (List NODE))×Unit)×(Int×Int×Int×Int×Unit)×Unit)) ⊕ (Unit×((Int×Int×Int×Int×Unit)×Unit)))
def qax (g:qgF->Option qgE):qgF->Option qgE
 | ((rule_3,v_12,v_16,v_17,v_18,_),((b8_0,b8_1,_),(b16_0,b16_1,b16_2,b16_3,_),_))=>bif (decide (v_18<v_17)) then (bif decide (0<=v_18) then (v_16[v_18.toNat]?).bind fun x2=>bif (decide (rule_3=0)) then ((qdB x2 b8_0).bind fun r3=>bif (!decide (r3.2=0)) then ((qdw r3.2 v_18 r3.1).bind fun r4=>some (.inr ((()),((r4.1,r4.2.1,r4.2.2.1,r4.2.2.2,()),())))) else (g ((rule_3,v_12,v_16,v_17,(iadd .i64 v_18 1),()),((b8_0,b8_1,()),(b16_0,b16_1,b16_2,b16_3,()),())))) else (bif (decide (rule_3=1)) then ((qfe x2).bind fun r5=>bif (!decide (r5.2=0)) then ((qdw r5.2 v_18 r5.1).bind fun r6=>some (.inr ((()),((r6.1,r6.2.1,r6.2.2.1,r6.2.2.2,()),())))) else (g ((rule_3,v_12,v_16,v_17,(iadd .i64 v_18 1),()),((b8_0,b8_1,()),(b16_0,b16_1,b16_2,b16_3,()),())))) else (bif (decide (rule_3=2)) then ((qdC x2).bind fun r7=>bif (!decide (r7.2=0)) then ((qdw r7.2 v_18 r7.1).bind fun r8=>some (.inr ((()),((r8.1,r8.2.1,r8.2.2.1,r8.2.2.2,()),())))) else (g ((rule_3,v_12,v_16,v_17,(iadd .i64 v_18 1),()),((b8_0,b8_1,()),(b16_0,b16_1,b16_2,b16_3,()),())))) else (bif (decide (rule_3=3)) then ((qe5 x2).bind fun r9=>bif (!decide (r9.2=0)) then ((qdw r9.2 v_18 r9.1).bind fun r10=>some (.inr ((()),((r10.1,r10.2.1,r10.2.2.1,r10.2.2.2,()),())))) else (g ((rule_3,v_12,v_16,v_17,(iadd .i64 v_18 1),()),((b8_0,b8_1,()),(b16_0,b16_1,b16_2,b16_3,()),())))) else (bif (!decide ((0:Int)=0)) then ((qdw 0 v_18 0).bind fun r11=>some (.inr ((()),((r11.1,r11.2.1,r11.2.2.1,r11.2.2.2,()),())))) else (g ((rule_3,v_12,v_16,v_17,(iadd .i64 v_18 1),()),((b8_0,b8_1,()),(b16_0,b16_1,b16_2,b16_3,()),()))))))) else none) else (some (.inl ((v_12,()),((b8_0,b8_1,()),(b16_0,b16_1,b16_2,b16_3,()),()))))
abbrev qcJ:SG:=⟨[(1,.p 8 0 0),(2,.p 16 0 0),(12,.v (.int .i64))],[(8,[.v (.int .i64),.v (.sl (.sl qat))]),(16,[.v (.int .i64),.v (.int .i64),.v (.int .i64),.v (.int .i64)])],[],[]⟩
abbrev qdk:List (Ex×SG):=[(.exit 0,⟨[(2,.p 16 0 0)],[(16,[.v (.int .i64),.v (.int .i64),.v (.int .i64),.v (.int .i64)])],[],[]⟩),(.ret,⟨[(2,.p 16 0 0)],[(16,[.v (.int .i64),.v (.int .i64),.v (.int .i64),.v (.int .i64)])],[],[]⟩)]
abbrev qgH:=((Int×Unit)×((Int×(List (List NODE))×Unit)×(Int×Int×Int×Int×Unit)×Unit))
abbrev qgG:=((Unit×((Int×Int×Int×Int×Unit)×Unit)) ⊕ (Unit×((Int×Int×Int×Int×Unit)×Unit)))
def qa0 (g:qgH->Option qgG):qgH->Option qgG
 | ((v_12,_),((b8_0,b8_1,_),(b16_0,b16_1,b16_2,b16_3,_),_))=>bif (decide (v_12<4)) then ((lp qax K0 ((v_12,v_12,b8_1,(b8_1.length:Int),0,()),((b8_0,b8_1,()),(b16_0,b16_1,b16_2,b16_3,()),()))).bind fun t12=>(match t12 with | .inl t13=>g (((iadd .i64 t13.1.1 1),()),((t13.2.1.1,t13.2.1.2.1,()),(t13.2.2.1.1,t13.2.2.1.2.1,t13.2.2.1.2.2.1,t13.2.2.1.2.2.2.1,()),())) | .inr t14=>some (.inr ((()),((t14.2.1.1,t14.2.1.2.1,t14.2.1.2.2.1,t14.2.1.2.2.2.1,()),()))))) else (some (.inl ((()),((b16_0,b16_1,b16_2,b16_3,()),()))))
def qel (m_0:qak):Option (Int×Int×Int×Int) :=
 (qga m_0).bind fun r1=>bif (!r1) then (some (1,(0,(0,0)))) else ((lp qa0 K0 ((0,()),((m_0.1,m_0.2,()),(0,0,0,0,()),()))).bind fun t15=>(match t15 with | .inl t16=>some (0,(0,(0,0))) | .inr t17=>some (t17.2.1.1,(t17.2.1.2.1,(t17.2.1.2.2.1,t17.2.1.2.2.2.1)))))
def c22:Ctr:=⟨[(qdq,.imm)],[((.pair (.int .i64) (.pair (.int .i64) (.pair (.int .i64) (.int .i64)))),false)],(Int×Int×Int×Int),fun x=>qel x.1,fun r=>((),(r,())),none⟩
def qaB (m_0:qak):Option Bool :=
 (qel m_0).bind fun r1=>some (decide (r1.1=0)&&(decide (r1.2.1=0)&&(decide (r1.2.2.1=0)&&(decide (r1.2.2.2=0)&&true))))
def c9:Ctr:=⟨[(qdq,.imm)],[(.bool,false)],Bool,fun x=>qaB x.1,fun r=>((),(r,())),none⟩
def qaJ (a_0:RAT) (b_1:RAT):Option RAT :=
 (qa8 a_0).bind fun r1=>(qa8 b_1).bind fun r2=>(qdh r1.1 r2.1).bind fun r3=>(qhc r1.2 r2.2).bind fun r4=>(qcK r3 r4).bind fun r5=>some r5
def c14:Ctr:=⟨[(tRAT,.imm),(tRAT,.imm)],[(tRAT,false)],RAT,fun x=>qaJ x.1 x.2.1,fun r=>((),(r,())),none⟩
abbrev qb2:SG:=⟨[(0,.o qat 7),(1,.p 224 0 0),(6,.v (.int .i64)),(7,.v (.int .i64))],[(224,[.v .bool,.v (.sl (.int .u64)),.v (.sl (.int .u64))])],[],[]⟩
abbrev qcB:List (Ex×SG):=[(.exit 0,⟨[(0,.o qat 7),(1,.p 224 0 0)],[(224,[.v .bool,.v (.sl (.int .u64)),.v (.sl (.int .u64))])],[],[]⟩)]
abbrev qfC:=(((List NODE)×Int×Int×Unit)×((Bool×(List Int)×(List Int)×Unit)×Unit))
abbrev qfB:=(((List NODE)×Unit)×((Bool×(List Int)×(List Int)×Unit)×Unit))
def qa5 (g:qfC->Option qfB):qfC->Option qfB
 | ((t_0,v_6,v_7,_),((b224_0,b224_1,b224_2,_),_))=>bif (decide (v_7<v_6)) then (bif decide (0<=v_7)&&decide (v_7<(t_0.length:Int)) then (t_0[v_7.toNat]?).bind fun x1=>bif x1.1 then (bif decide (0<=v_7)&&decide (v_7<(t_0.length:Int)) then (t_0[v_7.toNat]?).bind fun x2=>(qaJ x2.2.2.2.2.2.2.1 ((b224_0,b224_1),b224_2)).bind fun r3=>bif decide (0<=v_7)&&decide (v_7<(t_0.length:Int)) then (t_0[v_7.toNat]?).bind fun x4=>g (((t_0.set v_7.toNat (x4.1,(x4.2.1,(x4.2.2.1,(x4.2.2.2.1,(x4.2.2.2.2.1,(x4.2.2.2.2.2.1,(r3,x4.2.2.2.2.2.2.2)))))))),v_6,(iadd .i64 v_7 1),()),((b224_0,b224_1,b224_2,()),())) else none else none) else (g ((t_0,v_6,(iadd .i64 v_7 1),()),((b224_0,b224_1,b224_2,()),()))) else none) else (some ((t_0,()),((b224_0,b224_1,b224_2,()),())))
def qdT (t_0:List NODE) (b_1:Bool) (b_2:List Int) (b_3:List Int):Option ((List NODE)×Bool×(List Int)×(List Int)) :=
 (lp qa5 K0 ((t_0,(t_0.length:Int),0,()),((b_1,b_2,b_3,()),()))).bind fun t5=>some (t5.1.1,t5.2.1.1,t5.2.1.2.1,t5.2.1.2.2.1)
abbrev w18:Wir:=⟨[.x,.b],[[.x,.x,.x]],1,none,[],[],0⟩
def c18:Ctr:=⟨[((.sl qat),.own),(.bool,.imm),((.sl (.int .u64)),.imm),((.sl (.int .u64)),.imm)],[((.sl qat),true),(.bool,false),((.sl (.int .u64)),false),((.sl (.int .u64)),false)],(List NODE)×Bool×(List Int)×(List Int),fun x=>qdT x.1 x.2.1 x.2.2.1 x.2.2.2.1,fun r=>((),(r.1,r.2.1,r.2.2.1,r.2.2.2,())),some w18⟩
abbrev qcL:SG:=⟨[(2,.p 16 0 0),(3,.p 24 0 0),(6,.o qat 55),(14,.v (.sl (.sl qat))),(15,.v (.int .i64)),(16,.v (.int .i64)),(20,.v (.sl qat)),(21,.v (.int .i64)),(22,.v (.int .i64))],[(16,[.v (.int .i64),.o (.os qat) 18]),(24,[.v (.int .i64),.o (.os qat) 26])],[],[]⟩
abbrev qds:List (Ex×SG):=[(.exit 2,⟨[(2,.p 16 0 0),(3,.p 24 0 0),(6,.o qat 55),(14,.v (.sl (.sl qat))),(15,.v (.int .i64)),(16,.v (.int .i64))],[(16,[.v (.int .i64),.o (.os qat) 18]),(24,[.v (.int .i64),.o (.os qat) 26])],[],[]⟩)]
abbrev qgK:=(((List NODE)×(List (List NODE))×Int×Int×(List NODE)×Int×Int×Unit)×((Int×(List (Option (List NODE)))×Unit)×(Int×(List (Option (List NODE)))×Unit)×Unit))
abbrev qgJ:=(((List NODE)×(List (List NODE))×Int×Int×Unit)×((Int×(List (Option (List NODE)))×Unit)×(Int×(List (Option (List NODE)))×Unit)×Unit))
def qbA (g:qgK->Option qgJ):qgK->Option qgJ
 | ((v_6,v_14,v_15,v_16,v_20,v_21,v_22,_),((b16_0,b16_1,_),(b24_0,b24_1,_),_))=>bif (decide (v_22<v_21)) then (bif decide (0<=v_22) then (v_20[v_22.toNat]?).bind fun x2=>(qa8 x2.2.2.2.2.2.2.2).bind fun r3=>bif x2.1 then ((qa8 x2.2.2.2.2.2.2.1).bind fun r4=>bif Nat.ble ((v_6.length+1)*208) 140737488355328&&!false then g (((v_6++([(x2.1,(0,(((false,[]),[]),(0,(0,(false,(r4,r3)))))))]:List NODE)),v_14,v_15,v_16,v_20,v_21,(iadd .i64 v_22 1),()),((b16_0,b16_1,()),(b24_0,b24_1,()),())) else none) else ((qa8 x2.2.2.1).bind fun r5=>bif Nat.ble ((v_6.length+1)*208) 140737488355328&&!false then g (((v_6++([(x2.1,(x2.2.1,(r5,(x2.2.2.2.1,(x2.2.2.2.2.1,(x2.2.2.2.2.2.1,(((false,[]),[]),r3)))))))]:List NODE)),v_14,v_15,v_16,v_20,v_21,(iadd .i64 v_22 1),()),((b16_0,b16_1,()),(b24_0,b24_1,()),())) else none) else none) else (some ((v_6,v_14,v_15,v_16,()),((b16_0,b16_1,()),(b24_0,b24_1,()),())))
abbrev qcM:SG:=⟨[(2,.p 16 0 0),(3,.p 24 0 0),(14,.v (.sl (.sl qat))),(15,.v (.int .i64)),(16,.v (.int .i64))],[(16,[.v (.int .i64),.o (.os qat) 18]),(24,[.v (.int .i64),.o (.os qat) 26])],[],[]⟩
abbrev qdt:List (Ex×SG):=[(.exit 0,⟨[(2,.p 16 0 0),(3,.p 24 0 0)],[(16,[.v (.int .i64),.o (.os qat) 18]),(24,[.v (.int .i64),.o (.os qat) 26])],[],[]⟩)]
abbrev qgM:=(((List (List NODE))×Int×Int×Unit)×((Int×(List (Option (List NODE)))×Unit)×(Int×(List (Option (List NODE)))×Unit)×Unit))
abbrev qgL:=(Unit×((Int×(List (Option (List NODE)))×Unit)×(Int×(List (Option (List NODE)))×Unit)×Unit))
def qbB (g:qgM->Option qgL):qgM->Option qgL
 | ((v_14,v_15,v_16,_),((b16_0,b16_1,_),(b24_0,b24_1,_),_))=>bif (decide (v_16<v_15)) then (bif decide (0<=v_16) then (v_14[v_16.toNat]?).bind fun x1=>(lp qbA K0 (([],v_14,v_15,v_16,x1,(x1.length:Int),0,()),((b16_0,b16_1,()),(b24_0,b24_1,()),()))).bind fun t6=>bif Nat.ble ((t6.2.2.1.2.1.length+([(some t6.1.1)]).length)*24) 140737488355328&&!false then g ((t6.1.2.1,t6.1.2.2.1,(iadd .i64 t6.1.2.2.2.1 1),()),((t6.2.1.1,t6.2.1.2.1,()),(t6.2.2.1.1,(t6.2.2.1.2.1++[(some t6.1.1)]),()),())) else none else none) else (some ((()),((b16_0,b16_1,()),(b24_0,b24_1,()),())))
def qdy (a_0:qak):Option (Int×(List (Option (List NODE)))) :=
 (lp qbB K0 ((a_0.2,(a_0.2.length:Int),0,()),((0,[],()),(a_0.1,[],()),()))).bind fun t7=>some (t7.2.2.1.1,t7.2.2.1.2.1)
abbrev w35:Wir:=⟨[.x],[],2,none,[],[.g 2],0⟩
def c35:Ctr:=⟨[(qdq,.imm)],[((.int .i64),false),((.sl (.os qat)),true)],Int×(List (Option (List NODE))),fun x=>qdy x.1,fun r=>((),(r.1,r.2,())),some w35⟩
abbrev qaV:SG:=⟨[(4,.p 32 0 0),(6,.p 48 0 0),(18,.o (.os qat) 151),(19,.v (.int .i64)),(20,.v (.int .i64))],[(32,[.v (.int .i64),.o (.sl qat) 34]),(48,[.v (.int .i64),.o (.sl qat) 50]),(272,[.v .bool,.v (.sl (.int .u64)),.v (.sl (.int .u64))])],[],[(1,(18,[272]))]⟩
abbrev qbi:List (Ex×SG):=[(.exit 0,⟨[(4,.p 32 0 0),(6,.p 48 0 0)],[(32,[.v (.int .i64),.o (.sl qat) 34]),(48,[.v (.int .i64),.o (.sl qat) 50]),(272,[.v .bool,.v (.sl (.int .u64)),.v (.sl (.int .u64))])],[],[(1,(18,[272]))]⟩)]
abbrev qdp:=(((List (Option (List NODE)))×Int×Int×Unit)×((Int×(List (List NODE))×Unit)×(Int×(List (List NODE))×Unit)×(Bool×(List Int)×(List Int)×Unit)×Unit))
abbrev qdo:=(Unit×((Int×(List (List NODE))×Unit)×(Int×(List (List NODE))×Unit)×(Bool×(List Int)×(List Int)×Unit)×Unit))
def qar (g:qdp->Option qdo):qdp->Option qdo
 | ((v_18,v_19,v_20,_),((b32_0,b32_1,_),(b48_0,b48_1,_),(b272_0,b272_1,b272_2,_),_))=>bif (decide (v_20<v_19)) then (bif decide (0<=v_20)&&decide (v_20<(v_18.length:Int)) then (v_18[v_20.toNat]?).bind fun x3=>x3.bind fun x4=>(qdT x4 b272_0 b272_1 b272_2).bind fun r5=>bif Nat.ble ((b48_1.length+1)*24) 140737488355328&&!false then g (((v_18.set v_20.toNat none),v_19,(iadd .i64 v_20 1),()),((b32_0,b32_1,()),(b48_0,(b48_1++([r5.1]:List (List NODE))),()),(r5.2.1,r5.2.2.1,r5.2.2.2,()),())) else none else none) else (some ((()),((b32_0,b32_1,()),(b48_0,b48_1,()),(b272_0,b272_1,b272_2,()),())))
def qbs (m_0:qak) (b_1:Bool) (b_2:List Int) (b_3:List Int):Option (qak×Int×Bool×(List Int)×(List Int)) :=
 (qaB m_0).bind fun r1=>bif (!r1) then (some ((0,[]),1,b_1,b_2,b_3)) else ((qdy m_0).bind fun r2=>(lp qar K0 ((r2.2,(r2.2.length:Int),0,()),((0,[],()),(m_0.1,[],()),(b_1,b_2,b_3,()),()))).bind fun t6=>some ((t6.2.2.1.1,t6.2.2.1.2.1),0,t6.2.2.2.1.1,t6.2.2.2.1.2.1,t6.2.2.2.1.2.2.1))
abbrev qrw:Wir:=⟨[.x,.b],[[.x,.x,.x]],2,none,[.x,.f 18 1],[],0⟩
def qoJ:Ctr:=⟨[(qdq,.imm),(.bool,.imm),((.sl (.int .u64)),.imm),((.sl (.int .u64)),.imm)],[(qdq,false),((.int .i64),false),(.bool,false),((.sl (.int .u64)),false),((.sl (.int .u64)),false)],qak×Int×Bool×(List Int)×(List Int),fun x=>qbs x.1 x.2.1 x.2.2.1 x.2.2.2.1,fun r=>((),(r.1,r.2.1,r.2.2.1,r.2.2.2.1,r.2.2.2.2,())),some qrw⟩
def qdD (m_0:qak) (by_1:RAT):Option (qak×Int) :=
 (qbs m_0 by_1.1.1 by_1.1.2 by_1.2).bind fun r1=>some (r1.1,r1.2.1)
def c6:Ctr:=⟨[(qdq,.imm),(tRAT,.imm)],[(qdq,false),((.int .i64),false)],qak×Int,fun x=>qdD x.1 x.2.1,fun r=>((),(r.1,r.2,())),none⟩
abbrev qb0:SG:=⟨[(0,.o qat 7),(1,.p 184 0 0),(6,.v (.int .i64)),(7,.v (.int .i64))],[(184,[.v .bool,.v (.sl (.int .u64)),.v (.sl (.int .u64))])],[],[]⟩
abbrev qcA:List (Ex×SG):=[(.exit 0,⟨[(0,.o qat 7),(1,.p 184 0 0)],[(184,[.v .bool,.v (.sl (.int .u64)),.v (.sl (.int .u64))])],[],[]⟩)]
abbrev qfA:=(((List NODE)×Int×Int×Unit)×((Bool×(List Int)×(List Int)×Unit)×Unit))
abbrev qfz:=(((List NODE)×Unit)×((Bool×(List Int)×(List Int)×Unit)×Unit))
def qa4 (g:qfA->Option qfz):qfA->Option qfz
 | ((t_0,v_6,v_7,_),((b184_0,b184_1,b184_2,_),_))=>bif (decide (v_7<v_6)) then (bif decide (0<=v_7)&&decide (v_7<(t_0.length:Int)) then (t_0[v_7.toNat]?).bind fun x1=>(qaJ x1.2.2.2.2.2.2.2 ((b184_0,b184_1),b184_2)).bind fun r2=>bif decide (0<=v_7)&&decide (v_7<(t_0.length:Int)) then (t_0[v_7.toNat]?).bind fun x3=>g (((t_0.set v_7.toNat (x3.1,(x3.2.1,(x3.2.2.1,(x3.2.2.2.1,(x3.2.2.2.2.1,(x3.2.2.2.2.2.1,(x3.2.2.2.2.2.2.1,r2)))))))),v_6,(iadd .i64 v_7 1),()),((b184_0,b184_1,b184_2,()),())) else none else none) else (some ((t_0,()),((b184_0,b184_1,b184_2,()),())))
def qdS (t_0:List NODE) (b_1:Bool) (b_2:List Int) (b_3:List Int):Option ((List NODE)×Bool×(List Int)×(List Int)) :=
 (lp qa4 K0 ((t_0,(t_0.length:Int),0,()),((b_1,b_2,b_3,()),()))).bind fun t4=>some (t4.1.1,t4.2.1.1,t4.2.1.2.1,t4.2.1.2.2.1)
abbrev w19:Wir:=⟨[.x,.b],[[.x,.x,.x]],1,none,[],[],0⟩
def c19:Ctr:=⟨[((.sl qat),.own),(.bool,.imm),((.sl (.int .u64)),.imm),((.sl (.int .u64)),.imm)],[((.sl qat),true),(.bool,false),((.sl (.int .u64)),false),((.sl (.int .u64)),false)],(List NODE)×Bool×(List Int)×(List Int),fun x=>qdS x.1 x.2.1 x.2.2.1 x.2.2.2.1,fun r=>((),(r.1,r.2.1,r.2.2.1,r.2.2.2,())),some w19⟩
abbrev qaU:SG:=⟨[(4,.p 32 0 0),(6,.p 48 0 0),(18,.o (.os qat) 151),(19,.v (.int .i64)),(20,.v (.int .i64))],[(32,[.v (.int .i64),.o (.sl qat) 34]),(48,[.v (.int .i64),.o (.sl qat) 50]),(272,[.v .bool,.v (.sl (.int .u64)),.v (.sl (.int .u64))])],[],[(1,(19,[272]))]⟩
abbrev qbh:List (Ex×SG):=[(.exit 0,⟨[(4,.p 32 0 0),(6,.p 48 0 0)],[(32,[.v (.int .i64),.o (.sl qat) 34]),(48,[.v (.int .i64),.o (.sl qat) 50]),(272,[.v .bool,.v (.sl (.int .u64)),.v (.sl (.int .u64))])],[],[(1,(19,[272]))]⟩)]
abbrev qdn:=(((List (Option (List NODE)))×Int×Int×Unit)×((Int×(List (List NODE))×Unit)×(Int×(List (List NODE))×Unit)×(Bool×(List Int)×(List Int)×Unit)×Unit))
abbrev qdm:=(Unit×((Int×(List (List NODE))×Unit)×(Int×(List (List NODE))×Unit)×(Bool×(List Int)×(List Int)×Unit)×Unit))
def qaq (g:qdn->Option qdm):qdn->Option qdm
 | ((v_18,v_19,v_20,_),((b32_0,b32_1,_),(b48_0,b48_1,_),(b272_0,b272_1,b272_2,_),_))=>bif (decide (v_20<v_19)) then (bif decide (0<=v_20)&&decide (v_20<(v_18.length:Int)) then (v_18[v_20.toNat]?).bind fun x3=>x3.bind fun x4=>(qdS x4 b272_0 b272_1 b272_2).bind fun r5=>bif Nat.ble ((b48_1.length+1)*24) 140737488355328&&!false then g (((v_18.set v_20.toNat none),v_19,(iadd .i64 v_20 1),()),((b32_0,b32_1,()),(b48_0,(b48_1++([r5.1]:List (List NODE))),()),(r5.2.1,r5.2.2.1,r5.2.2.2,()),())) else none else none) else (some ((()),((b32_0,b32_1,()),(b48_0,b48_1,()),(b272_0,b272_1,b272_2,()),())))
def qbr (m_0:qak) (b_1:Bool) (b_2:List Int) (b_3:List Int):Option (qak×Int×Bool×(List Int)×(List Int)) :=
 (qaB m_0).bind fun r1=>bif (!r1) then (some ((0,[]),1,b_1,b_2,b_3)) else ((qdy m_0).bind fun r2=>(lp qaq K0 ((r2.2,(r2.2.length:Int),0,()),((0,[],()),(m_0.1,[],()),(b_1,b_2,b_3,()),()))).bind fun t6=>some ((t6.2.2.1.1,t6.2.2.1.2.1),0,t6.2.2.2.1.1,t6.2.2.2.1.2.1,t6.2.2.2.1.2.2.1))
abbrev qrv:Wir:=⟨[.x,.b],[[.x,.x,.x]],2,none,[.x,.f 19 1],[],0⟩
def qoI:Ctr:=⟨[(qdq,.imm),(.bool,.imm),((.sl (.int .u64)),.imm),((.sl (.int .u64)),.imm)],[(qdq,false),((.int .i64),false),(.bool,false),((.sl (.int .u64)),false),((.sl (.int .u64)),false)],qak×Int×Bool×(List Int)×(List Int),fun x=>qbr x.1 x.2.1 x.2.2.1 x.2.2.2.1,fun r=>((),(r.1,r.2.1,r.2.2.1,r.2.2.2.1,r.2.2.2.2,())),some qrv⟩
def qb1 (m_0:qak) (by_1:RAT):Option (qak×Int) :=
 (qdF by_1).bind fun r1=>bif (decide (r1<=0)) then (some ((0,[]),8)) else ((qbr m_0 by_1.1.1 by_1.1.2 by_1.2).bind fun r2=>some (r2.1,r2.2.1))
def c7:Ctr:=⟨[(qdq,.imm),(tRAT,.imm)],[(qdq,false),((.int .i64),false)],qak×Int,fun x=>qb1 x.1 x.2.1,fun r=>((),(r.1,r.2,())),none⟩
abbrev qbd:SG:=⟨[(2,.p 16 0 0),(3,.p 24 0 0),(5,.v (.int .i64))],[(16,[.v .bool,.v (.sl (.int .u64)),.v (.sl (.int .u64))]),(24,[.v .bool,.v (.sl (.int .u64)),.v (.sl (.int .u64))])],[],[]⟩
abbrev qbD:List (Ex×SG):=[(.exit 0,⟨[(2,.p 16 0 0),(3,.p 24 0 0)],[(16,[.v .bool,.v (.sl (.int .u64)),.v (.sl (.int .u64))]),(24,[.v .bool,.v (.sl (.int .u64)),.v (.sl (.int .u64))])],[],[]⟩),(.ret,⟨[(4,.v .bool)],[],[],[]⟩)]
abbrev qd8:=((Int×Unit)×((Bool×(List Int)×(List Int)×Unit)×(Bool×(List Int)×(List Int)×Unit)×Unit))
abbrev qd7:=((Unit×((Bool×(List Int)×(List Int)×Unit)×(Bool×(List Int)×(List Int)×Unit)×Unit)) ⊕ ((Bool×Unit)×Unit))
def qan (g:qd8->Option qd7):qd8->Option qd7
 | ((v_5,_),((b16_0,b16_1,b16_2,_),(b24_0,b24_1,b24_2,_),_))=>bif (decide (v_5<(b16_1.length:Int))) then (bif decide (0<=v_5) then (b16_1[v_5.toNat]?).bind fun x1=>bif decide (0<=v_5) then (b24_1[v_5.toNat]?).bind fun x2=>bif (!decide (x1=x2)) then (some (.inr ((false,()),()))) else (g (((iadd .i64 v_5 1),()),((b16_0,b16_1,b16_2,()),(b24_0,b24_1,b24_2,()),()))) else none else none) else (some (.inl ((()),((b16_0,b16_1,b16_2,()),(b24_0,b24_1,b24_2,()),()))))
abbrev qbc:SG:=⟨[(2,.p 16 0 0),(3,.p 24 0 0),(6,.v (.int .i64))],[(16,[.v .bool,.v (.sl (.int .u64)),.v (.sl (.int .u64))]),(24,[.v .bool,.v (.sl (.int .u64)),.v (.sl (.int .u64))])],[],[]⟩
abbrev qbC:List (Ex×SG):=[(.exit 2,⟨[],[],[],[]⟩),(.ret,⟨[(4,.v .bool)],[],[],[]⟩)]
abbrev qd6:=((Int×Unit)×((Bool×(List Int)×(List Int)×Unit)×(Bool×(List Int)×(List Int)×Unit)×Unit))
abbrev qd5:=((Unit×Unit) ⊕ ((Bool×Unit)×Unit))
def qam (g:qd6->Option qd5):qd6->Option qd5
 | ((v_6,_),((b16_0,b16_1,b16_2,_),(b24_0,b24_1,b24_2,_),_))=>bif (decide (v_6<(b16_2.length:Int))) then (bif decide (0<=v_6) then (b16_2[v_6.toNat]?).bind fun x6=>bif decide (0<=v_6) then (b24_2[v_6.toNat]?).bind fun x7=>bif (!decide (x6=x7)) then (some (.inr ((false,()),()))) else (g (((iadd .i64 v_6 1),()),((b16_0,b16_1,b16_2,()),(b24_0,b24_1,b24_2,()),()))) else none else none) else (some (.inl ((()),())))
def qbp (a_0:RAT) (a_1:RAT):Option Bool :=
 bif (!(a_0.1.1 == a_1.1.1)) then (some false) else (bif (!decide ((a_0.1.2.length:Int)=(a_1.1.2.length:Int))) then (some false) else (bif (!decide ((a_0.2.length:Int)=(a_1.2.length:Int))) then (some false) else ((lp qan K0 ((0,()),((a_0.1.1,a_0.1.2,a_0.2,()),(a_1.1.1,a_1.1.2,a_1.2,()),()))).bind fun t3=>(match t3 with | .inl t4=>(lp qam K0 ((0,()),((t4.2.1.1,t4.2.1.2.1,t4.2.1.2.2.1,()),(t4.2.2.1.1,t4.2.2.1.2.1,t4.2.2.1.2.2.1,()),()))).bind fun t8=>(match t8 with | .inl t9=>some true | .inr t10=>some t10.1.1) | .inr t5=>some t5.1.1))))
def c23:Ctr:=⟨[(tRAT,.imm),(tRAT,.imm)],[(.bool,false)],Bool,fun x=>qbp x.1 x.2.1,fun r=>((),(r,())),none⟩
abbrev qbu:SG:=⟨[(2,.p 16 0 0),(3,.p 24 0 0),(5,.v (.int .i64)),(6,.v (.int .i64))],[(16,[.v (.int .i64),.v (.sl (.sl qat))]),(24,[.v (.int .i64),.v (.sl (.sl qat))])],[],[]⟩
abbrev qbK:List (Ex×SG):=[(.exit 2,⟨[(2,.p 16 0 0),(3,.p 24 0 0),(5,.v (.int .i64))],[(16,[.v (.int .i64),.v (.sl (.sl qat))]),(24,[.v (.int .i64),.v (.sl (.sl qat))])],[],[]⟩),(.ret,⟨[(4,.v .bool)],[],[],[]⟩)]
abbrev qee:=((Int×Int×Unit)×((Int×(List (List NODE))×Unit)×(Int×(List (List NODE))×Unit)×Unit))
abbrev qed:=(((Int×Unit)×((Int×(List (List NODE))×Unit)×(Int×(List (List NODE))×Unit)×Unit)) ⊕ ((Bool×Unit)×Unit))
def qaC (g:qee->Option qed):qee->Option qed
 | ((v_5,v_6,_),((b16_0,b16_1,_),(b24_0,b24_1,_),_))=>bif decide (0<=v_5) then (b16_1[v_5.toNat]?).bind fun x3=>bif (decide (v_6<(x3.length:Int))) then (bif decide (0<=v_5) then (b16_1[v_5.toNat]?).bind fun x4=>bif decide (0<=v_6) then (x4[v_6.toNat]?).bind fun x5=>bif decide (0<=v_5) then (b24_1[v_5.toNat]?).bind fun x6=>bif decide (0<=v_6) then (x6[v_6.toNat]?).bind fun x7=>bif (!(x5.1 == x7.1)) then (some (.inr ((false,()),()))) else (bif (!decide (x5.2.1=x7.2.1)) then (some (.inr ((false,()),()))) else (bif (!decide (x5.2.2.2.1=x7.2.2.2.1)) then (some (.inr ((false,()),()))) else (bif (!decide (x5.2.2.2.2.1=x7.2.2.2.2.1)) then (some (.inr ((false,()),()))) else (bif (!(x5.2.2.2.2.2.1 == x7.2.2.2.2.2.1)) then (some (.inr ((false,()),()))) else ((qbp x5.2.2.1 x7.2.2.1).bind fun r8=>bif (!r8) then (some (.inr ((false,()),()))) else ((qbp x5.2.2.2.2.2.2.1 x7.2.2.2.2.2.2.1).bind fun r9=>bif (!r9) then (some (.inr ((false,()),()))) else ((qbp x5.2.2.2.2.2.2.2 x7.2.2.2.2.2.2.2).bind fun r10=>bif (!r10) then (some (.inr ((false,()),()))) else (g ((v_5,(iadd .i64 v_6 1),()),((b16_0,b16_1,()),(b24_0,b24_1,()),())))))))))) else none else none else none else none) else (some (.inl ((v_5,()),((b16_0,b16_1,()),(b24_0,b24_1,()),())))) else none
abbrev qbv:SG:=⟨[(2,.p 16 0 0),(3,.p 24 0 0),(5,.v (.int .i64))],[(16,[.v (.int .i64),.v (.sl (.sl qat))]),(24,[.v (.int .i64),.v (.sl (.sl qat))])],[],[]⟩
abbrev qbL:List (Ex×SG):=[(.exit 0,⟨[],[],[],[]⟩),(.ret,⟨[(4,.v .bool)],[],[],[]⟩)]
abbrev qeg:=((Int×Unit)×((Int×(List (List NODE))×Unit)×(Int×(List (List NODE))×Unit)×Unit))
abbrev qef:=((Unit×Unit) ⊕ ((Bool×Unit)×Unit))
def qaD (g:qeg->Option qef):qeg->Option qef
 | ((v_5,_),((b16_0,b16_1,_),(b24_0,b24_1,_),_))=>bif (decide (v_5<(b16_1.length:Int))) then (bif decide (0<=v_5) then (b16_1[v_5.toNat]?).bind fun x1=>bif decide (0<=v_5) then (b24_1[v_5.toNat]?).bind fun x2=>bif (!decide ((x1.length:Int)=(x2.length:Int))) then (some (.inr ((false,()),()))) else ((lp qaC K0 ((v_5,0,()),((b16_0,b16_1,()),(b24_0,b24_1,()),()))).bind fun t11=>(match t11 with | .inl t12=>g (((iadd .i64 t12.1.1 1),()),((t12.2.1.1,t12.2.1.2.1,()),(t12.2.2.1.1,t12.2.2.1.2.1,()),())) | .inr t13=>some (.inr ((t13.1.1,()),())))) else none else none) else (some (.inl ((()),())))
def qaj (a_0:qak) (a_1:qak):Option Bool :=
 bif (!decide (a_0.1=a_1.1)) then (some false) else (bif (!decide ((a_0.2.length:Int)=(a_1.2.length:Int))) then (some false) else ((lp qaD K0 ((0,()),((a_0.1,a_0.2,()),(a_1.1,a_1.2,()),()))).bind fun t14=>(match t14 with | .inl t15=>some true | .inr t16=>some t16.1.1)))
def c10:Ctr:=⟨[(qdq,.imm),(qdq,.imm)],[(.bool,false)],Bool,fun x=>qaj x.1 x.2.1,fun r=>((),(r,())),none⟩
def qmm (n_0:Int):Option WH :=
 bif (decide (n_0<0)) then ((qhb (ineg .u64 (IntKind.wrap .u64 n_0))).bind fun r1=>(qce true r1).bind fun r2=>some r2) else ((qhb (IntKind.wrap .u64 n_0)).bind fun r3=>(qce false r3).bind fun r4=>some r4)
def c44:Ctr:=⟨[((.int .i64),.imm)],[(tWH,false)],WH,fun x=>qmm x.1,fun r=>((),(r,())),none⟩
def qiE (n_0:Int):Option RAT :=
 (qmm n_0).bind fun r1=>(qhb 1).bind fun r2=>some (r1,r2)
def c25:Ctr:=⟨[((.int .i64),.imm)],[(tRAT,false)],RAT,fun x=>qiE x.1,fun r=>((),(r,())),none⟩
def qkM :Option RAT :=
 (qiE 1).bind fun r1=>some r1
def c24:Ctr:=⟨[],[(tRAT,false)],RAT,fun x=>qkM ,fun r=>((),(r,())),none⟩
def qmu (rec:(List NODE)->Int->(List NODE)->Option ((List NODE)×Int)) (t_0:List NODE) (at_1:Int) (out_2:List NODE):Option ((List NODE)×Int) :=
 bif decide (0<=at_1) then (t_0[at_1.toNat]?).bind fun x1=>bif Nat.ble ((out_2.length+1)*208) 140737488355328&&!false then bif x1.1 then (some ((out_2++([x1]:List NODE)),(out_2.length:Int))) else ((rec t_0 x1.2.2.2.1 (out_2++([x1]:List NODE))).bind fun r2=>(rec t_0 x1.2.2.2.2.1 r2.1).bind fun r3=>bif decide (0<=(out_2.length:Int))&&decide ((out_2.length:Int)<(r3.1.length:Int)) then (r3.1[(out_2.length:Int).toNat]?).bind fun _=>some ((r3.1.set ((out_2.length:Int).toNat) (x1.1,(x1.2.1,(x1.2.2.1,(r2.2,(r3.2,x1.2.2.2.2.2)))))),(out_2.length:Int)) else none) else none else none
def qfh:Nat->(List NODE)->Int->(List NODE)->Option ((List NODE)×Int)
 | 0=>fun _ _ _=>none
 | n+1=>qmu (qfh n)
def c48 (n:Nat):Ctr:=⟨[((.sl qat),.imm),((.int .i64),.imm),((.sl qat),.own)],[((.sl qat),true),((.int .i64),false)],(List NODE)×Int,fun x=>qfh n x.1 x.2.1 x.2.2.1,fun r=>((),(r.1,r.2,())),none⟩
def qi7 (t_0:List NODE) (features_1:Int):Option Bool :=
 (qaB (features_1,([t_0]:List (List NODE)))).bind fun r1=>some r1
def c59:Ctr:=⟨[((.sl qat),.imm),((.int .i64),.imm)],[(.bool,false)],Bool,fun x=>qi7 x.1 x.2.1,fun r=>((),(r,())),none⟩
def qi8 (t_0:List NODE) (features_1:Int):Option ((List NODE)×Int) :=
 (qi7 t_0 features_1).bind fun r1=>bif (!r1) then (some ([],1)) else ((qdy (0,([t_0]:List (List NODE)))).bind fun r2=>bif decide ((0:Int)<(r2.2.length:Int)) then (r2.2[0]?).bind fun x3=>x3.bind fun x4=>(qfh R0 x4 0 ([])).bind fun r5=>some (r5.1,0) else none)
def c46:Ctr:=⟨[((.sl qat),.imm),((.int .i64),.imm)],[((.sl qat),true),((.int .i64),false)],(List NODE)×Int,fun x=>qi8 x.1 x.2.1,fun r=>((),(r.1,r.2,())),none⟩
def qmt (rec:(List NODE)->Int->Option (List NODE)) (t_0:List NODE) (at_1:Int):Option (List NODE) :=
 bif decide (0<=at_1)&&decide (at_1<(t_0.length:Int)) then (t_0[at_1.toNat]?).bind fun x1=>bif x1.1 then ((bif Nat.beq t_0.length t_0.length then some (t_0,()) else none).bind fun l2=>some l2.1) else ((t_0[at_1.toNat]?).bind fun x3=>(rec t_0 x3.2.2.2.1).bind fun r4=>((over t_0 0 r4)[at_1.toNat]?).bind fun x5=>(rec (over t_0 0 r4) x5.2.2.2.2.1).bind fun r6=>((over (over t_0 0 r4) 0 r6)[at_1.toNat]?).bind fun x7=>bif decide (0<=x7.2.2.2.1)&&decide (x7.2.2.2.1<((over (over t_0 0 r4) 0 r6).length:Int)) then ((over (over t_0 0 r4) 0 r6)[x7.2.2.2.1.toNat]?).bind fun x8=>((over (over t_0 0 r4) 0 r6)[at_1.toNat]?).bind fun x9=>bif decide (0<=x9.2.2.2.2.1)&&decide (x9.2.2.2.2.1<((over (over t_0 0 r4) 0 r6).length:Int)) then ((over (over t_0 0 r4) 0 r6)[x9.2.2.2.2.1.toNat]?).bind fun x10=>bif x8.1 then (bif x10.1 then ((qah x8.2.2.2.2.2.2.1 x10.2.2.2.2.2.2.1).bind fun r11=>bif r11 then (((over (over t_0 0 r4) 0 r6)[at_1.toNat]?).bind fun x12=>((over (over t_0 0 r4) 0 r6)[at_1.toNat]?).bind fun _=>(bif Nat.beq ((over (over t_0 0 r4) 0 r6).set at_1.toNat (true,(0,(((false,[]),[]),(0,(0,(false,(x8.2.2.2.2.2.2.1,x12.2.2.2.2.2.2.2)))))))).length t_0.length then some (((over (over t_0 0 r4) 0 r6).set at_1.toNat (true,(0,(((false,[]),[]),(0,(0,(false,(x8.2.2.2.2.2.2.1,x12.2.2.2.2.2.2.2)))))))),()) else none).bind fun l14=>some l14.1) else ((bif Nat.beq (over (over t_0 0 r4) 0 r6).length t_0.length then some ((over (over t_0 0 r4) 0 r6),()) else none).bind fun l15=>some l15.1)) else ((bif Nat.beq (over (over t_0 0 r4) 0 r6).length t_0.length then some ((over (over t_0 0 r4) 0 r6),()) else none).bind fun l16=>some l16.1)) else ((bif Nat.beq (over (over t_0 0 r4) 0 r6).length t_0.length then some ((over (over t_0 0 r4) 0 r6),()) else none).bind fun l17=>some l17.1) else none else none) else none
def qgg:Nat->(List NODE)->Int->Option (List NODE)
 | 0=>fun _ _=>none
 | n+1=>qmt (qgg n)
def c47 (n:Nat):Ctr:=⟨[((.sl qat),.lent),((.int .i64),.imm)],[],(List NODE),fun x=>qgg n x.1 x.2.1,fun r=>((r,()),()),none⟩
def qh4 (t_0:List NODE) (features_1:Int):Option ((List NODE)×Int) :=
 (qi8 t_0 features_1).bind fun r1=>bif (!decide (r1.2=0)) then (some ([],r1.2)) else ((qgg R0 r1.1 0).bind fun r2=>(qfh R0 (over r1.1 0 r2) 0 ([])).bind fun r3=>some (r3.1,0))
def c26:Ctr:=⟨[((.sl qat),.imm),((.int .i64),.imm)],[((.sl qat),true),((.int .i64),false)],(List NODE)×Int,fun x=>qh4 x.1 x.2.1,fun r=>((),(r.1,r.2,())),none⟩
def qaa :Option Bool :=
 (qkM ).bind fun r1=>(qiE 2).bind fun r2=>(qh4 ([(false,(0,(((false,[]),[]),(1,(2,(false,(((false,[]),[]),r2))))))),(true,(0,(((false,[]),[]),(0,(0,(false,(r1,r1))))))),(true,(0,(((false,[]),[]),(0,(0,(false,(r1,r1)))))))]:List NODE) 1).bind fun r3=>bif (decide (r3.2=0)) then (bif (decide ((r3.1.length:Int)=1)) then (bif decide ((0:Int)<(r3.1.length:Int)) then (r3.1[0]?).bind fun x4=>bif x4.1 then (bif decide ((0:Int)<(r3.1.length:Int)) then (r3.1[0]?).bind fun x5=>(qah x5.2.2.2.2.2.2.1 r1).bind fun r6=>bif r6 then (bif decide ((0:Int)<(r3.1.length:Int)) then (r3.1[0]?).bind fun x7=>(qiE 2).bind fun r8=>(qah x7.2.2.2.2.2.2.2 r8).bind fun r9=>some r9 else none) else (some false) else none) else (some false) else none) else (some false)) else (some false)
def c11:Ctr:=⟨[],[(.bool,false)],Bool,fun x=>qaa ,fun r=>((),(r,())),none⟩
abbrev qbF:SG:=⟨[(0,.v (.int .u64)),(1,.v (.int .i64)),(5,.v (.int .i64))],[],[],[]⟩
abbrev qb9:List (Ex×SG):=[(.exit 0,⟨[(0,.v (.int .u64))],[],[],[]⟩)]
def qaK (g:((Int×Int×Int×Unit)×Unit)->Option ((Int×Unit)×Unit)):((Int×Int×Int×Unit)×Unit)->Option ((Int×Unit)×Unit)
 | ((set_0,feature_1,i_5,_),_)=>bif (decide (i_5<feature_1)) then (g (((iquo .u64 set_0 2),feature_1,(iadd .i64 i_5 1),()),())) else (some ((set_0,()),()))
def qc3 (set_0:Int) (feature_1:Int):Option Bool :=
 (lp qaK K0 ((set_0,feature_1,0,()),())).bind fun t1=>some (decide ((irem t1.1.1 2)=1))
def c51:Ctr:=⟨[((.int .u64),.imm),((.int .i64),.imm)],[(.bool,false)],Bool,fun x=>qc3 x.1 x.2.1,fun r=>((),(r,())),none⟩
def qfY (n_0:NODE) (c_1:CELL):Option Bool :=
 bif c_1.1 then (some n_0.2.2.2.2.2.1) else ((qf1 c_1.2 n_0.2.2.1).bind fun r1=>some (decide (r1<0)))
def c63:Ctr:=⟨[(qat,.imm),(qh5,.imm)],[(.bool,false)],Bool,fun x=>qfY x.1 x.2.1,fun r=>((),(r,())),none⟩
def qfZ (n_0:NODE) (c_1:CELL):Option Bool :=
 bif (!n_0.1) then ((qfY n_0 c_1).bind fun r1=>some r1) else (some false)
def c52:Ctr:=⟨[(qat,.imm),(qh5,.imm)],[(.bool,false)],Bool,fun x=>qfZ x.1 x.2.1,fun r=>((),(r,())),none⟩
def qgS (a_0:WH):Option WH :=
 (qa7 a_0).bind fun r1=>(qce (!r1.1) r1.2).bind fun r2=>some r2
def c80:Ctr:=⟨[(tWH,.imm)],[(tWH,false)],WH,fun x=>qgS x.1,fun r=>((),(r,())),none⟩
def qf0 (num_0:WH) (den_1:WH):Option (RAT×Int) :=
 (qa7 num_0).bind fun r1=>(qa7 den_1).bind fun r2=>(qe4 r2).bind fun r3=>bif (decide (r3=0)) then (some (((false,[]),[]),2)) else (bif r2.1 then ((qgS r1).bind fun r4=>(qcK r4 r2.2).bind fun r5=>some (r5,0)) else ((qcK r1 r2.2).bind fun r6=>some (r6,0)))
def c75:Ctr:=⟨[(tWH,.imm),(tWH,.imm)],[(tRAT,false),((.int .i64),false)],RAT×Int,fun x=>qf0 x.1 x.2.1,fun r=>((),(r.1,r.2,())),none⟩
def qgW (a_0:RAT):Option (RAT×Int) :=
 (qa8 a_0).bind fun r1=>(qdr r1).bind fun r2=>(qf0 r2 r1.1).bind fun r3=>some (r3.1,r3.2)
def c64:Ctr:=⟨[(tRAT,.imm)],[(tRAT,false),((.int .i64),false)],RAT×Int,fun x=>qgW x.1,fun r=>((),(r.1,r.2,())),none⟩
def qgX (a_0:RAT) (b_1:RAT):Option (RAT×Int) :=
 (qgW b_1).bind fun r1=>bif (!decide (r1.2=0)) then (some (((false,[]),[]),r1.2)) else ((qaJ a_0 r1.1).bind fun r2=>some (r2,0))
def c53:Ctr:=⟨[(tRAT,.imm),(tRAT,.imm)],[(tRAT,false),((.int .i64),false)],RAT×Int,fun x=>qgX x.1 x.2.1,fun r=>((),(r.1,r.2,())),none⟩
def qaX (rec:(List NODE)->Int->(List CELL)->Int->Option RAT) (a_0:List NODE) (a_1:Int) (a_2:List CELL) (a_3:Int):Option RAT :=
 bif decide (0<=a_1) then (a_0[a_1.toNat]?).bind fun x1=>bif x1.1 then (some x1.2.2.2.2.2.2.1) else ((qc3 a_3 x1.2.1).bind fun r2=>bif r2 then (bif decide (0<=x1.2.1) then (a_2[x1.2.1.toNat]?).bind fun x3=>(qfZ x1 x3).bind fun r4=>bif r4 then ((rec a_0 x1.2.2.2.1 a_2 a_3).bind fun r5=>some r5) else ((rec a_0 x1.2.2.2.2.1 a_2 a_3).bind fun r6=>some r6) else none) else (bif decide (0<=x1.2.2.2.1) then (a_0[x1.2.2.2.1.toNat]?).bind fun x7=>(rec a_0 x1.2.2.2.1 a_2 a_3).bind fun r8=>(qaJ x7.2.2.2.2.2.2.2 r8).bind fun r9=>bif decide (0<=x1.2.2.2.2.1) then (a_0[x1.2.2.2.2.1.toNat]?).bind fun x10=>(rec a_0 x1.2.2.2.2.1 a_2 a_3).bind fun r11=>(qaJ x10.2.2.2.2.2.2.2 r11).bind fun r12=>(qeB r9 r12).bind fun r13=>(qgX r13 x1.2.2.2.2.2.2.2).bind fun r14=>some r14.1 else none else none)) else none
def qal:Nat->(List NODE)->Int->(List CELL)->Int->Option RAT
 | 0=>fun _ _ _ _=>none
 | n+1=>qaX (qal n)
def c29 (n:Nat):Ctr:=⟨[((.sl qat),.imm),((.int .i64),.imm),((.sl qh5),.imm),((.int .u64),.imm)],[(tRAT,false)],RAT,fun x=>qal n x.1 x.2.1 x.2.2.1 x.2.2.2.1,fun r=>((),(r,())),none⟩
abbrev qbe:SG:=⟨[(1,.v (.sl qh5)),(2,.v (.int .u64)),(3,.p 24 0 0),(6,.p 48 0 0),(7,.p 56 0 0),(8,.v (.int .i64))],[(24,[.v (.int .i64),.v (.sl (.sl qat))]),(48,[.v .bool,.o (.int .u64) 50,.o (.int .u64) 51]),(56,[.v .bool,.v (.sl (.int .u64)),.v (.sl (.int .u64))])],[],[]⟩
abbrev qbE:List (Ex×SG):=[(.exit 0,⟨[(6,.p 48 0 0),(7,.p 56 0 0)],[(48,[.v .bool,.o (.int .u64) 50,.o (.int .u64) 51]),(56,[.v .bool,.v (.sl (.int .u64)),.v (.sl (.int .u64))])],[],[]⟩)]
abbrev qeb:=(((List CELL)×Int×Int×Unit)×((Int×(List (List NODE))×Unit)×(Bool×(List Int)×(List Int)×Unit)×(Bool×(List Int)×(List Int)×Unit)×Unit))
abbrev qea:=(Unit×((Bool×(List Int)×(List Int)×Unit)×(Bool×(List Int)×(List Int)×Unit)×Unit))
def qai (g:qeb->Option qea):qeb->Option qea
 | ((row_1,set_2,i_8,_),((b24_0,b24_1,_),(b48_0,b48_1,b48_2,_),(b56_0,b56_1,b56_2,_),_))=>bif (decide (i_8<(b24_1.length:Int))) then (bif decide (0<=i_8) then (b24_1[i_8.toNat]?).bind fun x2=>(qal R0 x2 0 row_1 set_2).bind fun r3=>(qeB ((b56_0,b56_1),b56_2) r3).bind fun r4=>g ((row_1,set_2,(iadd .i64 i_8 1),()),((b24_0,b24_1,()),(b48_0,b48_1,b48_2,()),(r4.1.1,r4.1.2,r4.2,()),())) else none) else (some ((()),((b48_0,b48_1,b48_2,()),(b56_0,b56_1,b56_2,()),())))
def qab (m_0:qak) (row_1:List CELL) (set_2:Int):Option RAT :=
 (qe6 ).bind fun r1=>(lp qai K0 ((row_1,set_2,0,()),((m_0.1,m_0.2,()),(false,[],[],()),(r1.1.1,r1.1.2,r1.2,()),()))).bind fun t5=>some ((t5.2.2.1.1,t5.2.2.1.2.1),t5.2.2.1.2.2.1)
def c12:Ctr:=⟨[(qdq,.imm),((.sl qh5),.imm),((.int .u64),.imm)],[(tRAT,false)],RAT,fun x=>qab x.1 x.2.1 x.2.2.1,fun r=>((),(r,())),none⟩
def qbq (a_0:qak) (a_1:List CELL) (a_2:Int) (a_3:RAT):Option Bool :=
 (qbG a_0 a_1).bind fun r1=>(qa6 ([(false,a_3)]:List CELL) 1).bind fun r2=>bif decide ((0:Int)<(r2.length:Int)) then (r2[0]?).bind fun x3=>(qdD r1.1 x3.2).bind fun r4=>(qb1 r1.1 x3.2).bind fun r5=>(qdF x3.2).bind fun r6=>bif (decide (r6<=0)) then (bif (!decide (r5.2=8)) then (some false) else (bif (!decide (r5.2=0)) then ((qaj r5.1 (0,[])).bind fun r7=>bif (!r7) then (some false) else ((qaB r1.1).bind fun r8=>bif (!r8) then (bif (decide (r4.2=1)) then ((qaj r4.1 (0,[])).bind fun r9=>bif r9 then ((qaa ).bind fun r10=>some r10) else (some false)) else (some false)) else (bif (!decide (r4.2=0)) then (some false) else ((qaB r4.1).bind fun r11=>bif (!r11) then (some false) else (bif (decide (r5.2=0)) then ((qaB r5.1).bind fun r12=>bif (!r12) then (some false) else (bif (!decide ((r1.2.length:Int)=r1.1.1)) then ((qaa ).bind fun r13=>some r13) else ((qab r1.1 r1.2 a_2).bind fun r14=>(qab r4.1 r1.2 a_2).bind fun r15=>(qaJ r14 x3.2).bind fun r16=>(qah r15 r16).bind fun r17=>bif r17 then (bif (!decide (r5.2=0)) then ((qaa ).bind fun r18=>some r18) else ((qab r5.1 r1.2 a_2).bind fun r19=>(qah r19 r14).bind fun r20=>bif r20 then ((qaa ).bind fun r21=>some r21) else (some false))) else (some false)))) else (bif (!decide ((r1.2.length:Int)=r1.1.1)) then ((qaa ).bind fun r22=>some r22) else ((qab r1.1 r1.2 a_2).bind fun r23=>(qab r4.1 r1.2 a_2).bind fun r24=>(qaJ r23 x3.2).bind fun r25=>(qah r24 r25).bind fun r26=>bif r26 then (bif (!decide (r5.2=0)) then ((qaa ).bind fun r27=>some r27) else ((qab r5.1 r1.2 a_2).bind fun r28=>(qah r28 r23).bind fun r29=>bif r29 then ((qaa ).bind fun r30=>some r30) else (some false))) else (some false)))))))) else ((qaB r1.1).bind fun r31=>bif (!r31) then (bif (decide (r4.2=1)) then ((qaj r4.1 (0,[])).bind fun r32=>bif r32 then ((qaa ).bind fun r33=>some r33) else (some false)) else (some false)) else (bif (!decide (r4.2=0)) then (some false) else ((qaB r4.1).bind fun r34=>bif (!r34) then (some false) else (bif (decide (r5.2=0)) then ((qaB r5.1).bind fun r35=>bif (!r35) then (some false) else (bif (!decide ((r1.2.length:Int)=r1.1.1)) then ((qaa ).bind fun r36=>some r36) else ((qab r1.1 r1.2 a_2).bind fun r37=>(qab r4.1 r1.2 a_2).bind fun r38=>(qaJ r37 x3.2).bind fun r39=>(qah r38 r39).bind fun r40=>bif r40 then (bif (!decide (r5.2=0)) then ((qaa ).bind fun r41=>some r41) else ((qab r5.1 r1.2 a_2).bind fun r42=>(qah r42 r37).bind fun r43=>bif r43 then ((qaa ).bind fun r44=>some r44) else (some false))) else (some false)))) else (bif (!decide ((r1.2.length:Int)=r1.1.1)) then ((qaa ).bind fun r45=>some r45) else ((qab r1.1 r1.2 a_2).bind fun r46=>(qab r4.1 r1.2 a_2).bind fun r47=>(qaJ r46 x3.2).bind fun r48=>(qah r47 r48).bind fun r49=>bif r49 then (bif (!decide (r5.2=0)) then ((qaa ).bind fun r50=>some r50) else ((qab r5.1 r1.2 a_2).bind fun r51=>(qah r51 r46).bind fun r52=>bif r52 then ((qaa ).bind fun r53=>some r53) else (some false))) else (some false))))))))) else ((qaB r1.1).bind fun r54=>bif (!r54) then (bif (!decide (r5.2=1)) then (some false) else (bif (!decide (r5.2=0)) then ((qaj r5.1 (0,[])).bind fun r55=>bif (!r55) then (some false) else ((qaB r1.1).bind fun r56=>bif (!r56) then (bif (decide (r4.2=1)) then ((qaj r4.1 (0,[])).bind fun r57=>bif r57 then ((qaa ).bind fun r58=>some r58) else (some false)) else (some false)) else (bif (!decide (r4.2=0)) then (some false) else ((qaB r4.1).bind fun r59=>bif (!r59) then (some false) else (bif (decide (r5.2=0)) then ((qaB r5.1).bind fun r60=>bif (!r60) then (some false) else (bif (!decide ((r1.2.length:Int)=r1.1.1)) then ((qaa ).bind fun r61=>some r61) else ((qab r1.1 r1.2 a_2).bind fun r62=>(qab r4.1 r1.2 a_2).bind fun r63=>(qaJ r62 x3.2).bind fun r64=>(qah r63 r64).bind fun r65=>bif r65 then (bif (!decide (r5.2=0)) then ((qaa ).bind fun r66=>some r66) else ((qab r5.1 r1.2 a_2).bind fun r67=>(qah r67 r62).bind fun r68=>bif r68 then ((qaa ).bind fun r69=>some r69) else (some false))) else (some false)))) else (bif (!decide ((r1.2.length:Int)=r1.1.1)) then ((qaa ).bind fun r70=>some r70) else ((qab r1.1 r1.2 a_2).bind fun r71=>(qab r4.1 r1.2 a_2).bind fun r72=>(qaJ r71 x3.2).bind fun r73=>(qah r72 r73).bind fun r74=>bif r74 then (bif (!decide (r5.2=0)) then ((qaa ).bind fun r75=>some r75) else ((qab r5.1 r1.2 a_2).bind fun r76=>(qah r76 r71).bind fun r77=>bif r77 then ((qaa ).bind fun r78=>some r78) else (some false))) else (some false)))))))) else ((qaB r1.1).bind fun r79=>bif (!r79) then (bif (decide (r4.2=1)) then ((qaj r4.1 (0,[])).bind fun r80=>bif r80 then ((qaa ).bind fun r81=>some r81) else (some false)) else (some false)) else (bif (!decide (r4.2=0)) then (some false) else ((qaB r4.1).bind fun r82=>bif (!r82) then (some false) else (bif (decide (r5.2=0)) then ((qaB r5.1).bind fun r83=>bif (!r83) then (some false) else (bif (!decide ((r1.2.length:Int)=r1.1.1)) then ((qaa ).bind fun r84=>some r84) else ((qab r1.1 r1.2 a_2).bind fun r85=>(qab r4.1 r1.2 a_2).bind fun r86=>(qaJ r85 x3.2).bind fun r87=>(qah r86 r87).bind fun r88=>bif r88 then (bif (!decide (r5.2=0)) then ((qaa ).bind fun r89=>some r89) else ((qab r5.1 r1.2 a_2).bind fun r90=>(qah r90 r85).bind fun r91=>bif r91 then ((qaa ).bind fun r92=>some r92) else (some false))) else (some false)))) else (bif (!decide ((r1.2.length:Int)=r1.1.1)) then ((qaa ).bind fun r93=>some r93) else ((qab r1.1 r1.2 a_2).bind fun r94=>(qab r4.1 r1.2 a_2).bind fun r95=>(qaJ r94 x3.2).bind fun r96=>(qah r95 r96).bind fun r97=>bif r97 then (bif (!decide (r5.2=0)) then ((qaa ).bind fun r98=>some r98) else ((qab r5.1 r1.2 a_2).bind fun r99=>(qah r99 r94).bind fun r100=>bif r100 then ((qaa ).bind fun r101=>some r101) else (some false))) else (some false))))))))) else (bif (!decide (r5.2=0)) then (some false) else (bif (!decide (r5.2=0)) then ((qaj r5.1 (0,[])).bind fun r102=>bif (!r102) then (some false) else ((qaB r1.1).bind fun r103=>bif (!r103) then (bif (decide (r4.2=1)) then ((qaj r4.1 (0,[])).bind fun r104=>bif r104 then ((qaa ).bind fun r105=>some r105) else (some false)) else (some false)) else (bif (!decide (r4.2=0)) then (some false) else ((qaB r4.1).bind fun r106=>bif (!r106) then (some false) else (bif (decide (r5.2=0)) then ((qaB r5.1).bind fun r107=>bif (!r107) then (some false) else (bif (!decide ((r1.2.length:Int)=r1.1.1)) then ((qaa ).bind fun r108=>some r108) else ((qab r1.1 r1.2 a_2).bind fun r109=>(qab r4.1 r1.2 a_2).bind fun r110=>(qaJ r109 x3.2).bind fun r111=>(qah r110 r111).bind fun r112=>bif r112 then (bif (!decide (r5.2=0)) then ((qaa ).bind fun r113=>some r113) else ((qab r5.1 r1.2 a_2).bind fun r114=>(qah r114 r109).bind fun r115=>bif r115 then ((qaa ).bind fun r116=>some r116) else (some false))) else (some false)))) else (bif (!decide ((r1.2.length:Int)=r1.1.1)) then ((qaa ).bind fun r117=>some r117) else ((qab r1.1 r1.2 a_2).bind fun r118=>(qab r4.1 r1.2 a_2).bind fun r119=>(qaJ r118 x3.2).bind fun r120=>(qah r119 r120).bind fun r121=>bif r121 then (bif (!decide (r5.2=0)) then ((qaa ).bind fun r122=>some r122) else ((qab r5.1 r1.2 a_2).bind fun r123=>(qah r123 r118).bind fun r124=>bif r124 then ((qaa ).bind fun r125=>some r125) else (some false))) else (some false)))))))) else ((qaB r1.1).bind fun r126=>bif (!r126) then (bif (decide (r4.2=1)) then ((qaj r4.1 (0,[])).bind fun r127=>bif r127 then ((qaa ).bind fun r128=>some r128) else (some false)) else (some false)) else (bif (!decide (r4.2=0)) then (some false) else ((qaB r4.1).bind fun r129=>bif (!r129) then (some false) else (bif (decide (r5.2=0)) then ((qaB r5.1).bind fun r130=>bif (!r130) then (some false) else (bif (!decide ((r1.2.length:Int)=r1.1.1)) then ((qaa ).bind fun r131=>some r131) else ((qab r1.1 r1.2 a_2).bind fun r132=>(qab r4.1 r1.2 a_2).bind fun r133=>(qaJ r132 x3.2).bind fun r134=>(qah r133 r134).bind fun r135=>bif r135 then (bif (!decide (r5.2=0)) then ((qaa ).bind fun r136=>some r136) else ((qab r5.1 r1.2 a_2).bind fun r137=>(qah r137 r132).bind fun r138=>bif r138 then ((qaa ).bind fun r139=>some r139) else (some false))) else (some false)))) else (bif (!decide ((r1.2.length:Int)=r1.1.1)) then ((qaa ).bind fun r140=>some r140) else ((qab r1.1 r1.2 a_2).bind fun r141=>(qab r4.1 r1.2 a_2).bind fun r142=>(qaJ r141 x3.2).bind fun r143=>(qah r142 r143).bind fun r144=>bif r144 then (bif (!decide (r5.2=0)) then ((qaa ).bind fun r145=>some r145) else ((qab r5.1 r1.2 a_2).bind fun r146=>(qah r146 r141).bind fun r147=>bif r147 then ((qaa ).bind fun r148=>some r148) else (some false))) else (some false)))))))))) else none
def c3:Ctr:=⟨[(qdq,.imm),((.sl qh5),.imm),((.int .u64),.imm),(tRAT,.imm)],[(.bool,false)],Bool,fun x=>qbq x.1 x.2.1 x.2.2.1 x.2.2.2.1,fun r=>((),(r,())),none⟩
end Go.Proofs.YtlagkhlolphmdaaDoor.X
