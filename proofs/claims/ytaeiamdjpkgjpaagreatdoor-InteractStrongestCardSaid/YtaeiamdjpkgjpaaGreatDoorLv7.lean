/- Own work: part of the proof; the first line of each part says what it tells. -/
import Derived.Test.YtaeiamdjpkgjpaaGreatDoorLv5
import Derived.Test.YtaeiamdjpkgjpaaGreatDoorProg


namespace Go.Proofs.YtaeiamdjpkgjpaaGreatDoor.X
open Go
set_option linter.unusedVariables false
set_option linter.unusedSimpArgs false
set_option maxRecDepth 100000
def tb:Tb:=[(2,.sc (.int .i64)),(3,.sc (.int .i64)),(4,.sc .bool),(5,.sc (.int .u8)),(6,.sc (.int .u8)),(7,.stc (.pair (.int .i64) (.pair (.int .i64) (.pair .bool (.int .u8)))) [(0,2),(1,3),(2,4),(3,6)] false),(22,.slc 63 (.sl qbB) 24),(24,.stc qfz [(0,3),(1,22)] false),(25,.slc 65 qaE 64),(28,.sc (.int .i64)),(32,.slc 84 (.int .u64) 8),(34,.stc tWH [(0,4),(1,32)] false),(36,.stc tRAT [(0,34),(2,32)] false),(39,.slc 42 (.sl tRAT) 24),(42,.slc 36 tRAT 56),(61,.stc qbB [(0,4),(1,3),(2,36),(5,3),(6,3),(7,4),(8,36),(11,36)] false),(63,.slc 61 qbB 208),(65,.stc qaE [(0,4),(1,36)] false),(69,.slc 4 .bool 1),(72,.slc 3 (.int .i64) 8),(73,.slc 3 (.int .i64) 8),(75,.stc (.pair .bool (.sl (.int .i64))) [(0,4),(1,73)] false),(77,.stc (.pair (.pair .bool (.sl (.int .i64))) (.sl (.int .i64))) [(0,75),(2,73)] false),(84,.sc (.int .u64)),(90,.stc (.pair (.int .i64) (.pair (.int .i64) (.pair (.int .i64) (.int .i64)))) [(0,28),(1,3),(2,3),(3,3)] true),(106,.pt 109 (.pair (.sl qbB) (.pair (.sl qaE) (.pair (.int .i64) (.pair .bool (.pair (.sl tRAT) (.sl (.pair (.int .i64) (.pair (.op (.pair (.os (.pair (.int .i64) (.pair tRAT qaE))) .unit)) (.pair tRAT qkP)))))))))),(107,.slc 134 (.pair (.int .i64) (.pair (.op (.pair (.os (.pair (.int .i64) (.pair tRAT qaE))) .unit)) (.pair tRAT qkP))) 144),(109,.stc (.pair (.sl qbB) (.pair (.sl qaE) (.pair (.int .i64) (.pair .bool (.pair (.sl tRAT) (.sl (.pair (.int .i64) (.pair (.op (.pair (.os (.pair (.int .i64) (.pair tRAT qaE))) .unit)) (.pair tRAT qkP))))))))) [(0,63),(1,25),(2,3),(3,4),(4,42),(5,107)] false),(110,.sc (.int .u64)),(131,.pt 158 (.pair (.os (.pair (.int .i64) (.pair tRAT qaE))) .unit)),(134,.stc (.pair (.int .i64) (.pair (.op (.pair (.os (.pair (.int .i64) (.pair tRAT qaE))) .unit)) (.pair tRAT qkP))) [(0,3),(1,131),(2,36),(5,3),(6,36),(9,4)] false),(136,.arr 4 .bool),(155,.stc (.pair (.int .i64) (.pair tRAT qaE)) [(0,3),(1,36),(4,4),(5,36)] false),(156,.slc 155 (.pair (.int .i64) (.pair tRAT qaE)) 128),(158,.stc (.pair (.sl (.pair (.int .i64) (.pair tRAT qaE))) .unit) [(0,156)] false),(159,.pt 134 (.pair (.int .i64) (.pair (.op (.pair (.os (.pair (.int .i64) (.pair tRAT qaE))) .unit)) (.pair tRAT qkP)))),(162,.stc qkP [(0,3),(1,36),(4,4)] false),(163,.slc 162 qkP 72),(173,.sc (.int .u32))]
def tbO:Tb:=[(3,.sc (.int .i64)),(4,.sc .bool),(22,.slc 63 (.os qbB) 24),(24,.stc (.pair (.int .i64) (.sl (.os qbB))) [(0,3),(1,22)] false),(25,.slc 65 qaE 64),(28,.sc (.int .i64)),(32,.slc 84 (.int .u64) 8),(34,.stc tWH [(0,4),(1,32)] false),(36,.stc tRAT [(0,34),(2,32)] false),(39,.slc 42 (.os tRAT) 24),(42,.slc 36 tRAT 56),(61,.stc qbB [(0,4),(1,3),(2,36),(5,3),(6,3),(7,4),(8,36),(11,36)] false),(63,.slc 61 qbB 208),(65,.stc qaE [(0,4),(1,36)] false),(69,.slc 4 .bool 1),(84,.sc (.int .u64))]
def qbO (a_0:RAT):Option RAT :=
 bif (decide ((a_0.1.2.length:Int)>4)) then (bif decide ((4:Int)<=(a_0.1.2.length:Int)) then bif (decide ((a_0.2.length:Int)>4)) then (bif decide ((4:Int)<=(a_0.2.length:Int)) then some ((a_0.1.1,(a_0.1.2.take 4)),(a_0.2.take 4)) else none) else (some ((a_0.1.1,(a_0.1.2.take 4)),a_0.2)) else none) else (bif (decide ((a_0.2.length:Int)>4)) then (bif decide ((4:Int)<=(a_0.2.length:Int)) then some (a_0.1,(a_0.2.take 4)) else none) else (some a_0))
def c48:Ctr:=⟨[(tRAT,.imm)],[(tRAT,false)],RAT,fun x=>qbO x.1,fun r=>((),(r,())),none⟩
abbrev qcA:SG:=⟨[(1,.p 8 0 0),(2,.p 16 0 0),(3,.p 24 0 0),(4,.v (.int .i64)),(5,.o qbB 47),(6,.v (.int .i64))],[(8,[.v (.int .i64),.v (.sl (.sl qbB))]),(16,[.v (.int .i64),.o (.sl qbB) 18]),(24,[.v (.int .i64),.o (.sl qbB) 26])],[],[]⟩
abbrev qds:List (Ex×SG):=[(.exit 2,⟨[(1,.p 8 0 0),(2,.p 16 0 0),(3,.p 24 0 0),(4,.v (.int .i64)),(5,.o qbB 47)],[(8,[.v (.int .i64),.v (.sl (.sl qbB))]),(16,[.v (.int .i64),.o (.sl qbB) 18]),(24,[.v (.int .i64),.o (.sl qbB) 26])],[],[]⟩)]
abbrev qhL:=((Int×(List NODE)×Int×Unit)×((Int×(List (List NODE))×Unit)×(Int×(List (List NODE))×Unit)×(Int×(List (List NODE))×Unit)×Unit))
abbrev qhK:=((Int×(List NODE)×Unit)×((Int×(List (List NODE))×Unit)×(Int×(List (List NODE))×Unit)×(Int×(List (List NODE))×Unit)×Unit))
def qaV (g:qhL->Option qhK):qhL->Option qhK
 | ((v_4,v_5,v_6,_),((b8_0,b8_1,_),(b16_0,b16_1,_),(b24_0,b24_1,_),_))=>bif decide (0<=v_4) then (b8_1[v_4.toNat]?).bind fun x1=>bif (decide (v_6<(x1.length:Int))) then (bif (decide (v_6<15)) then (bif decide (0<=v_4) then (b8_1[v_4.toNat]?).bind fun x2=>bif decide (0<=v_6) then (x2[v_6.toNat]?).bind fun x3=>(qbO x3.2.2.1).bind fun r4=>(qbO x3.2.2.2.2.2.2.1).bind fun r5=>(qbO x3.2.2.2.2.2.2.2).bind fun r6=>bif Nat.ble ((v_5.length+1)*208) 140737488355328&&!false then g ((v_4,(v_5++([(x3.1,(x3.2.1,(r4,(x3.2.2.2.1,(x3.2.2.2.2.1,(x3.2.2.2.2.2.1,(r5,r6)))))))]:List NODE)),(iadd .i64 v_6 1),()),((b8_0,b8_1,()),(b16_0,b16_1,()),(b24_0,b24_1,()),())) else none else none else none) else (some ((v_4,v_5,()),((b8_0,b8_1,()),(b16_0,b16_1,()),(b24_0,b24_1,()),())))) else (some ((v_4,v_5,()),((b8_0,b8_1,()),(b16_0,b16_1,()),(b24_0,b24_1,()),()))) else none
abbrev qcB:SG:=⟨[(1,.p 8 0 0),(2,.p 16 0 0),(3,.p 24 0 0),(4,.v (.int .i64))],[(8,[.v (.int .i64),.v (.sl (.sl qbB))]),(16,[.v (.int .i64),.o (.sl qbB) 18]),(24,[.v (.int .i64),.o (.sl qbB) 26])],[],[]⟩
abbrev qdt:List (Ex×SG):=[(.exit 0,⟨[(2,.p 16 0 0),(3,.p 24 0 0)],[(16,[.v (.int .i64),.o (.sl qbB) 18]),(24,[.v (.int .i64),.o (.sl qbB) 26])],[],[]⟩)]
abbrev qhN:=((Int×Unit)×((Int×(List (List NODE))×Unit)×(Int×(List (List NODE))×Unit)×(Int×(List (List NODE))×Unit)×Unit))
abbrev qhM:=(Unit×((Int×(List (List NODE))×Unit)×(Int×(List (List NODE))×Unit)×Unit))
def qaW (g:qhN->Option qhM):qhN->Option qhM
 | ((v_4,_),((b8_0,b8_1,_),(b16_0,b16_1,_),(b24_0,b24_1,_),_))=>bif (decide (v_4<(b8_1.length:Int))) then (bif (decide (v_4<6)) then ((lp qaV K0 ((v_4,[],0,()),((b8_0,b8_1,()),(b16_0,b16_1,()),(b24_0,b24_1,()),()))).bind fun t7=>bif Nat.ble ((t7.2.2.2.1.2.1.length+1)*24) 140737488355328&&!false then g (((iadd .i64 t7.1.1 1),()),((t7.2.1.1,t7.2.1.2.1,()),(t7.2.2.1.1,t7.2.2.1.2.1,()),(t7.2.2.2.1.1,(t7.2.2.2.1.2.1++([t7.1.2.1]:List (List NODE))),()),())) else none) else (some ((()),((b16_0,b16_1,()),(b24_0,b24_1,()),())))) else (some ((()),((b16_0,b16_1,()),(b24_0,b24_1,()),())))
def qeu (a_0:qaL):Option qaL :=
 (lp qaW K0 ((0,()),((a_0.1,a_0.2,()),(0,[],()),(a_0.1,[],()),()))).bind fun t8=>some (t8.2.2.1.1,t8.2.2.1.2.1)
def c23:Ctr:=⟨[(qfz,.imm)],[(qfz,false)],qaL,fun x=>qeu x.1,fun r=>((),(r,())),none⟩
def qdq (a_0:RAT):Option RAT :=
 bif (decide ((a_0.1.2.length:Int)>3)) then (bif decide ((3:Int)<=(a_0.1.2.length:Int)) then bif (decide ((a_0.2.length:Int)>3)) then (bif decide ((3:Int)<=(a_0.2.length:Int)) then some ((a_0.1.1,(a_0.1.2.take 3)),(a_0.2.take 3)) else none) else (some ((a_0.1.1,(a_0.1.2.take 3)),a_0.2)) else none) else (bif (decide ((a_0.2.length:Int)>3)) then (bif decide ((3:Int)<=(a_0.2.length:Int)) then some (a_0.1,(a_0.2.take 3)) else none) else (some a_0))
def c49:Ctr:=⟨[(tRAT,.imm)],[(tRAT,false)],RAT,fun x=>qdq x.1,fun r=>((),(r,())),none⟩
abbrev qcz:SG:=⟨[(0,.v (.sl qaE)),(1,.v (.int .i64)),(5,.o qaE 47),(6,.v (.int .i64))],[],[],[]⟩
abbrev qdr:List (Ex×SG):=[(.exit 0,⟨[(5,.o qaE 47)],[],[],[]⟩)]
def qa6 (g:(((List CELL)×Int×(List CELL)×Int×Unit)×Unit)->Option (((List CELL)×Unit)×Unit)):(((List CELL)×Int×(List CELL)×Int×Unit)×Unit)->Option (((List CELL)×Unit)×Unit)
 | ((l_0,n_1,out_5,i_6,_),_)=>bif (decide (i_6<(l_0.length:Int))) then (bif (decide (i_6<n_1)) then (bif decide (0<=i_6) then (l_0[i_6.toNat]?).bind fun x1=>(qdq x1.2).bind fun r2=>bif Nat.ble ((out_5.length+1)*64) 140737488355328&&!false then g ((l_0,n_1,(out_5++([(x1.1,r2)]:List CELL)),(iadd .i64 i_6 1),()),()) else none else none) else (some ((out_5,()),()))) else (some ((out_5,()),()))
def qcX (l_0:List CELL) (n_1:Int):Option (List CELL) :=
 (lp qa6 K0 ((l_0,n_1,[],0,()),())).bind fun t3=>some t3.1.1
def c24:Ctr:=⟨[((.sl qaE),.imm),((.int .i64),.imm)],[((.sl qaE),true)],(List CELL),fun x=>qcX x.1 x.2.1,fun r=>((),(r,())),none⟩
def qcU (m_0:qaL) (row_1:List CELL):Option (qaL×(List CELL)) :=
 (qeu m_0).bind fun r1=>bif (decide ((r1.2.length:Int)>3)) then (bif decide ((3:Int)<=(r1.2.length:Int)) then (qcX row_1 70).bind fun r2=>some ((r1.1,(r1.2.take 3)),r2) else none) else ((qcX row_1 70).bind fun r3=>some (r1,r3))
def c6:Ctr:=⟨[(qfz,.imm),((.sl qaE),.imm)],[(qfz,false),((.sl qaE),true)],qaL×(List CELL),fun x=>qcU x.1 x.2.1,fun r=>((),(r.1,r.2,())),none⟩
abbrev qfi:SG:=⟨[(22,.v (.sl (.sl qbB))),(23,.v (.int .i64)),(24,.v (.int .i64)),(36,.v (.sl qbB)),(37,.v (.int .i64)),(38,.v (.int .i64))],[],[],[]⟩
abbrev qgr:List (Ex×SG):=[(.exit 2,⟨[(22,.v (.sl (.sl qbB))),(23,.v (.int .i64)),(24,.v (.int .i64))],[],[],[]⟩),(.ret,⟨[(2,.v .bool)],[],[],[]⟩)]
abbrev qli:=(((List (List NODE))×Int×Int×(List NODE)×Int×Int×Unit)×Unit)
abbrev qlh:=((((List (List NODE))×Int×Int×Unit)×Unit) ⊕ ((Bool×Unit)×Unit))
def qck (g:qli->Option qlh):qli->Option qlh
 | ((v_22,v_23,v_24,v_36,v_37,v_38,_),_)=>bif (decide (v_38<v_37)) then (bif decide (0<=v_38) then (v_36[v_38.toNat]?).bind fun x2=>bif (decide (x2.2.1<0)) then (some (.inr ((false,()),()))) else (bif (decide (x2.2.1>64)) then (some (.inr ((false,()),()))) else (bif (decide (x2.2.2.2.1<0)) then (some (.inr ((false,()),()))) else (bif (decide (x2.2.2.2.1>255)) then (some (.inr ((false,()),()))) else (bif (decide (x2.2.2.2.2.1<0)) then (some (.inr ((false,()),()))) else (bif (decide (x2.2.2.2.2.1>255)) then (some (.inr ((false,()),()))) else (g ((v_22,v_23,v_24,v_36,v_37,(iadd .i64 v_38 1),()),()))))))) else none) else (some (.inl ((v_22,v_23,v_24,()),())))
abbrev qfj:SG:=⟨[(22,.v (.sl (.sl qbB))),(23,.v (.int .i64)),(24,.v (.int .i64))],[],[],[]⟩
abbrev qgs:List (Ex×SG):=[(.exit 0,⟨[],[],[],[]⟩),(.ret,⟨[(2,.v .bool)],[],[],[]⟩)]
def qby (g:(((List (List NODE))×Int×Int×Unit)×Unit)->Option ((Unit×Unit) ⊕ ((Bool×Unit)×Unit))):(((List (List NODE))×Int×Int×Unit)×Unit)->Option ((Unit×Unit) ⊕ ((Bool×Unit)×Unit))
 | ((v_22,v_23,v_24,_),_)=>bif (decide (v_24<v_23)) then (bif decide (0<=v_24) then (v_22[v_24.toNat]?).bind fun x1=>bif (decide ((x1.length:Int)<1)) then (some (.inr ((false,()),()))) else (bif (decide ((x1.length:Int)>255)) then (some (.inr ((false,()),()))) else ((lp qck K0 ((v_22,v_23,v_24,x1,(x1.length:Int),0,()),())).bind fun t3=>(match t3 with | .inl t4=>g ((t4.1.1,t4.1.2.1,(iadd .i64 t4.1.2.2.1 1),()),()) | .inr t5=>some (.inr ((t5.1.1,()),()))))) else none) else (some (.inl ((()),())))
def qjN (a_0:qaL):Option Bool :=
 bif (decide (a_0.1<0)) then (some false) else (bif (decide (a_0.1>64)) then (some false) else (bif (decide ((a_0.2.length:Int)>64)) then (some false) else ((lp qby K0 ((a_0.2,(a_0.2.length:Int),0,()),())).bind fun t6=>(match t6 with | .inl t7=>some true | .inr t8=>some t8.1.1))))
def c74:Ctr:=⟨[(qfz,.imm)],[(.bool,false)],Bool,fun x=>qjN x.1,fun r=>((),(r,())),none⟩
abbrev qdY:SG:=⟨[(0,.v (.sl qbB)),(1,.v (.int .i64)),(8,.v (.sl qbB)),(9,.v (.int .i64)),(10,.v (.int .i64))],[],[],[]⟩
abbrev qeR:List (Ex×SG):=[(.exit 0,⟨[],[],[],[]⟩),(.ret,⟨[(4,.v (.int .i64)),(5,.v (.int .i64))],[],[],[]⟩)]
abbrev qje:=(((List NODE)×Int×(List NODE)×Int×Int×Unit)×Unit)
abbrev qjd:=((Unit×Unit) ⊕ ((Int×Int×Unit)×Unit))
def qbo (g:qje->Option qjd):qje->Option qjd
 | ((t_0,features_1,v_8,v_9,v_10,_),_)=>bif (decide (v_10<v_9)) then (bif decide (0<=v_10) then (v_8[v_10.toNat]?).bind fun x1=>bif x1.1 then (g ((t_0,features_1,v_8,v_9,(iadd .i64 v_10 1),()),())) else (bif (decide (x1.2.1<0)) then (some (.inr ((v_10,8,()),()))) else (bif (decide (x1.2.1>=features_1)) then (some (.inr ((v_10,8,()),()))) else (bif (decide (x1.2.2.2.1<1)) then (some (.inr ((v_10,8,()),()))) else (bif (decide (x1.2.2.2.1>=(t_0.length:Int))) then (some (.inr ((v_10,8,()),()))) else (bif (decide (x1.2.2.2.2.1<1)) then (some (.inr ((v_10,8,()),()))) else (bif (decide (x1.2.2.2.2.1>=(t_0.length:Int))) then (some (.inr ((v_10,8,()),()))) else (g ((t_0,features_1,v_8,v_9,(iadd .i64 v_10 1),()),())))))))) else none) else (some (.inl ((()),())))
def qfU (t_0:List NODE) (features_1:Int):Option (Int×Int) :=
 (lp qbo K0 ((t_0,features_1,t_0,(t_0.length:Int),0,()),())).bind fun t2=>(match t2 with | .inl t3=>some (0,0) | .inr t4=>some (t4.1.1,t4.1.2.1))
def c75:Ctr:=⟨[((.sl qbB),.imm),((.int .i64),.imm)],[((.int .i64),false),((.int .i64),false)],Int×Int,fun x=>qfU x.1 x.2.1,fun r=>((),(r.1,r.2,())),none⟩
abbrev qey:SG:=⟨[(0,.v (.sl qbB)),(4,.o (.int .i64) 39),(18,.v (.sl qbB)),(19,.v (.int .i64)),(20,.v (.int .i64))],[],[],[]⟩
abbrev qfv:List (Ex×SG):=[(.exit 0,⟨[(0,.v (.sl qbB)),(4,.o (.int .i64) 39)],[],[],[]⟩)]
abbrev qkt:=(((List NODE)×(List Int)×(List NODE)×Int×Int×Unit)×Unit)
abbrev qks:=(((List NODE)×(List Int)×Unit)×Unit)
def qb8 (g:qkt->Option qks):qkt->Option qks
 | ((v_0,v_4,v_18,v_19,v_20,_),_)=>bif (decide (v_20<v_19)) then (bif decide (0<=v_20) then (v_18[v_20.toNat]?).bind fun x1=>bif (!x1.1) then (bif decide (0<=x1.2.2.2.1)&&decide (x1.2.2.2.1<(v_4.length:Int)) then (v_4[x1.2.2.2.1.toNat]?).bind fun x2=>bif decide (0<=x1.2.2.2.1)&&decide (x1.2.2.2.1<(v_4.length:Int)) then (v_4[x1.2.2.2.1.toNat]?).bind fun _=>bif decide (0<=x1.2.2.2.2.1)&&decide (x1.2.2.2.2.1<((v_4.set x1.2.2.2.1.toNat (iadd .i64 x2 1)).length:Int)) then ((v_4.set x1.2.2.2.1.toNat (iadd .i64 x2 1))[x1.2.2.2.2.1.toNat]?).bind fun x4=>bif decide (0<=x1.2.2.2.2.1)&&decide (x1.2.2.2.2.1<((v_4.set x1.2.2.2.1.toNat (iadd .i64 x2 1)).length:Int)) then ((v_4.set x1.2.2.2.1.toNat (iadd .i64 x2 1))[x1.2.2.2.2.1.toNat]?).bind fun _=>g ((v_0,((v_4.set x1.2.2.2.1.toNat (iadd .i64 x2 1)).set x1.2.2.2.2.1.toNat (iadd .i64 x4 1)),v_18,v_19,(iadd .i64 v_20 1),()),()) else none else none else none else none) else (g ((v_0,v_4,v_18,v_19,(iadd .i64 v_20 1),()),())) else none) else (some ((v_0,v_4,()),()))
abbrev qdX:SG:=⟨[(0,.v (.sl qbB)),(42,.o (.int .i64) 343),(43,.v (.int .i64)),(44,.v (.int .i64))],[],[],[]⟩
abbrev qeQ:List (Ex×SG):=[(.exit 2,⟨[(0,.v (.sl qbB))],[],[],[]⟩),(.ret,⟨[(2,.v (.int .i64)),(3,.v (.int .i64))],[],[],[]⟩)]
def qa8 (g:(((List NODE)×(List Int)×Int×Int×Unit)×Unit)->Option ((((List NODE)×Unit)×Unit) ⊕ ((Int×Int×Unit)×Unit))):(((List NODE)×(List Int)×Int×Int×Unit)×Unit)->Option ((((List NODE)×Unit)×Unit) ⊕ ((Int×Int×Unit)×Unit))
 | ((v_0,v_42,v_43,v_44,_),_)=>bif (decide (v_44<v_43)) then (bif decide (0<=v_44)&&decide (v_44<(v_42.length:Int)) then (v_42[v_44.toNat]?).bind fun x7=>bif (decide (v_44>0)) then (bif (!decide (x7=1)) then (some (.inr ((v_44,11,()),()))) else (g ((v_0,v_42,v_43,(iadd .i64 v_44 1),()),()))) else (g ((v_0,v_42,v_43,(iadd .i64 v_44 1),()),())) else none) else (some (.inl ((v_0,()),())))
abbrev qdW:SG:=⟨[(0,.v (.sl qbB)),(9,.o .bool 79),(10,.o (.int .i64) 87)],[],[],[]⟩
abbrev qeP:List (Ex×SG):=[(.exit 4,⟨[(9,.o .bool 79)],[],[],[]⟩)]
def qb9 (g:(((List NODE)×(List Bool)×(List Int)×Unit)×Unit)->Option (((List Bool)×Unit)×Unit)):(((List NODE)×(List Bool)×(List Int)×Unit)×Unit)->Option (((List Bool)×Unit)×Unit)
 | ((v_0,v_9,v_10,_),_)=>bif (decide ((v_10.length:Int)>0)) then (bif decide (0<=(isub .i64 (v_10.length:Int) 1))&&decide ((isub .i64 (v_10.length:Int) 1)<(v_10.length:Int)) then (v_10[(isub .i64 (v_10.length:Int) 1).toNat]?).bind fun x11=>bif decide ((0:Int)<=(isub .i64 (v_10.length:Int) 1))&&decide (((isub .i64 (v_10.length:Int) 1):Int)<=(isub .i64 (v_10.length:Int) 1))&&decide (((isub .i64 (v_10.length:Int) 1):Int)<=(v_10.length:Int)) then bif decide (0<=x11)&&decide (x11<(v_9.length:Int)) then (v_9[x11.toNat]?).bind fun _=>bif decide (0<=x11) then (v_0[x11.toNat]?).bind fun x13=>bif (!x13.1) then (bif Nat.ble (((v_10.take (((isub .i64 (v_10.length:Int) 1)-0).toNat)).length+2)*8) 140737488355328&&!false then g ((v_0,(v_9.set x11.toNat true),((v_10.take (((isub .i64 (v_10.length:Int) 1)-0).toNat))++([x13.2.2.2.1,x13.2.2.2.2.1]:List Int)),()),()) else none) else (g ((v_0,(v_9.set x11.toNat true),(v_10.take (((isub .i64 (v_10.length:Int) 1)-0).toNat)),()),())) else none else none else none else none) else (some ((v_9,()),()))
abbrev qdV:SG:=⟨[(92,.o .bool 743),(93,.v (.int .i64)),(94,.v (.int .i64))],[],[],[]⟩
abbrev qeO:List (Ex×SG):=[(.exit 6,⟨[],[],[],[]⟩),(.ret,⟨[(2,.v (.int .i64)),(3,.v (.int .i64))],[],[],[]⟩)]
def qbn (g:(((List Bool)×Int×Int×Unit)×Unit)->Option ((Unit×Unit) ⊕ ((Int×Int×Unit)×Unit))):(((List Bool)×Int×Int×Unit)×Unit)->Option ((Unit×Unit) ⊕ ((Int×Int×Unit)×Unit))
 | ((v_92,v_93,v_94,_),_)=>bif (decide (v_94<v_93)) then (bif decide (0<=v_94)&&decide (v_94<(v_92.length:Int)) then (v_92[v_94.toNat]?).bind fun x15=>bif (!x15) then (some (.inr ((v_94,11,()),()))) else (g ((v_92,v_93,(iadd .i64 v_94 1),()),())) else none) else (some (.inl ((()),())))
def qim (a_0:List NODE):Option (Int×Int) :=
 bif decide ((a_0.length:Int)=(a_0.length:Int))&&decide (0<=(a_0.length:Int))&&decide (((8:Nat):Int)*(a_0.length:Int)<=281474976710656)&&decide ((a_0.length:Int)<=9223372036854775807) then (lp qb8 K0 ((a_0,(List.replicate (a_0.length:Int).toNat (0:Int)),a_0,(a_0.length:Int),0,()),())).bind fun t6=>(lp qa8 K0 ((t6.1.1,t6.1.2.1,(t6.1.2.1.length:Int),0,()),())).bind fun t8=>(match t8 with | .inl t9=>bif decide ((t9.1.1.length:Int)=(t9.1.1.length:Int))&&decide (0<=(t9.1.1.length:Int))&&decide (((1:Nat):Int)*(t9.1.1.length:Int)<=281474976710656)&&decide ((t9.1.1.length:Int)<=9223372036854775807) then (lp qb9 K0 ((t9.1.1,(List.replicate (t9.1.1.length:Int).toNat (false:Bool)),([0]:List Int),()),())).bind fun t14=>(lp qbn K0 ((t14.1.1,(t14.1.1.length:Int),0,()),())).bind fun t16=>(match t16 with | .inl t17=>some (0,0) | .inr t18=>some (t18.1.1,t18.1.2.1)) else none | .inr t10=>some (t10.1.1,t10.1.2.1)) else none
def c76:Ctr:=⟨[((.sl qbB),.imm)],[((.int .i64),false),((.int .i64),false)],Int×Int,fun x=>qim x.1,fun r=>((),(r.1,r.2,())),none⟩
abbrev qg7:SG:=⟨[(0,.o (.int .u64) 7),(3,.v (.int .i64))],[],[],[]⟩
abbrev qix:List (Ex×SG):=[(.exit 0,⟨[(0,.o (.int .u64) 7),(3,.v (.int .i64))],[],[],[]⟩)]
def qen (g:(((List Int)×Int×Unit)×Unit)->Option (((List Int)×Int×Unit)×Unit)):(((List Int)×Int×Unit)×Unit)->Option (((List Int)×Int×Unit)×Unit)
 | ((a_0,n_3,_),_)=>bif (decide (n_3>0)) then (bif decide (0<=(isub .i64 n_3 1))&&decide ((isub .i64 n_3 1)<(a_0.length:Int)) then (a_0[(isub .i64 n_3 1).toNat]?).bind fun x1=>bif (decide (x1=0)) then (g ((a_0,(isub .i64 n_3 1),()),())) else (some ((a_0,n_3,()),())) else none) else (some ((a_0,n_3,()),()))
def qeI (a_0:List Int):Option (List Int) :=
 (lp qen K0 ((a_0,(a_0.length:Int),()),())).bind fun t2=>bif (decide (t2.1.2.1=0)) then (some ([])) else (bif decide ((0:Int)<=t2.1.2.1)&&decide ((t2.1.2.1:Int)<=t2.1.2.1)&&decide ((t2.1.2.1:Int)<=(t2.1.1.length:Int)) then some (t2.1.1.take ((t2.1.2.1-0).toNat)) else none)
def c66:Ctr:=⟨[((.sl (.int .u64)),.own)],[((.sl (.int .u64)),true)],(List Int),fun x=>qeI x.1,fun r=>((),(r,())),none⟩
def qle (n_0:Int):Option (List Int) :=
 (qeI ([(iand .u64 n_0 4294967295),(shrV .u64 n_0 32)]:List Int)).bind fun r1=>some r1
def c40:Ctr:=⟨[((.int .u64),.imm)],[((.sl (.int .u64)),true)],(List Int),fun x=>qle x.1,fun r=>((),(r,())),none⟩
def qeD :Option RAT :=
 (qle 1).bind fun r1=>some ((false,[]),r1)
def c16:Ctr:=⟨[],[(tRAT,false)],RAT,fun x=>qeD ,fun r=>((),(r,())),none⟩
abbrev qf9:SG:=⟨[(3,.o (.int .u64) 31),(9,.v (.sl (.int .u64))),(10,.v (.int .i64)),(11,.v (.int .i64))],[],[],[]⟩
abbrev qhw:List (Ex×SG):=[(.exit 0,⟨[(3,.o (.int .u64) 31)],[],[],[]⟩)]
def qdC (g:(((List Int)×(List Int)×Int×Int×Unit)×Unit)->Option (((List Int)×Unit)×Unit)):(((List Int)×(List Int)×Int×Int×Unit)×Unit)->Option (((List Int)×Unit)×Unit)
 | ((out_3,v_9,v_10,v_11,_),_)=>bif (decide (v_11<v_10)) then (bif decide (0<=v_11) then (v_9[v_11.toNat]?).bind fun x1=>bif decide (0<=v_11)&&decide (v_11<(out_3.length:Int)) then (out_3[v_11.toNat]?).bind fun _=>g (((out_3.set v_11.toNat (iand .u64 x1 4294967295)),v_9,v_10,(iadd .i64 v_11 1),()),()) else none else none) else (some ((out_3,()),()))
def qcj (a_0:List Int):Option (List Int) :=
 bif decide ((a_0.length:Int)=(a_0.length:Int))&&decide (0<=(a_0.length:Int))&&decide (((8:Nat):Int)*(a_0.length:Int)<=281474976710656)&&decide ((a_0.length:Int)<=9223372036854775807) then (lp qdC K0 (((List.replicate (a_0.length:Int).toNat (0:Int)),a_0,(a_0.length:Int),0,()),())).bind fun t3=>(qeI t3.1.1).bind fun r4=>some r4 else none
def c60:Ctr:=⟨[((.sl (.int .u64)),.imm)],[((.sl (.int .u64)),true)],(List Int),fun x=>qcj x.1,fun r=>((),(r,())),none⟩
abbrev qf5:SG:=⟨[(0,.v (.sl (.int .u64))),(1,.v (.sl (.int .u64))),(5,.v (.int .i64))],[],[],[]⟩
abbrev qhs:List (Ex×SG):=[(.exit 1,⟨[],[],[],[]⟩),(.ret,⟨[(4,.v (.int .i64))],[],[],[]⟩)]
def qc6 (g:(((List Int)×(List Int)×Int×Unit)×Unit)->Option ((Unit×Unit) ⊕ ((Int×Unit)×Unit))):(((List Int)×(List Int)×Int×Unit)×Unit)->Option ((Unit×Unit) ⊕ ((Int×Unit)×Unit))
 | ((a_0,b_1,i_5,_),_)=>bif (decide (i_5>=0)) then (bif decide (0<=i_5) then (a_0[i_5.toNat]?).bind fun x1=>bif decide (0<=i_5) then (b_1[i_5.toNat]?).bind fun x2=>bif (decide (x1<x2)) then (some (.inr (((-1),()),()))) else (bif decide (0<=i_5) then (a_0[i_5.toNat]?).bind fun x3=>bif decide (0<=i_5) then (b_1[i_5.toNat]?).bind fun x4=>bif (decide (x3>x4)) then (some (.inr ((1,()),()))) else (g ((a_0,b_1,(isub .i64 i_5 1),()),())) else none else none) else none else none) else (some (.inl ((()),())))
def qht (a_0:List Int) (b_1:List Int):Option Int :=
 bif (decide ((a_0.length:Int)<(b_1.length:Int))) then (some (-1)) else (bif (decide ((a_0.length:Int)>(b_1.length:Int))) then (some 1) else ((lp qc6 K0 ((a_0,b_1,(isub .i64 (a_0.length:Int) 1),()),())).bind fun t5=>(match t5 with | .inl t6=>some 0 | .inr t7=>some t7.1.1)))
def c92:Ctr:=⟨[((.sl (.int .u64)),.imm),((.sl (.int .u64)),.imm)],[((.int .i64),false)],Int,fun x=>qht x.1 x.2.1,fun r=>((),(r,())),none⟩
def qrd (a_0:List Int):Option (Int×Bool) :=
 (qcj a_0).bind fun r1=>bif (decide ((r1.length:Int)=0)) then (some (0,true)) else (bif (decide ((r1.length:Int)=1)) then (bif decide ((0:Int)<(r1.length:Int)) then (r1[0]?).bind fun x2=>some (x2,true) else none) else (bif (decide ((r1.length:Int)=2)) then (bif decide ((1:Int)<(r1.length:Int)) then (r1[1]?).bind fun x3=>bif decide ((0:Int)<(r1.length:Int)) then (r1[0]?).bind fun x4=>some ((ior .u64 (shlV .u64 x3 32) x4),true) else none else none) else (some (0,false))))
def c121:Ctr:=⟨[((.sl (.int .u64)),.imm)],[((.int .u64),false),(.bool,false)],Int×Bool,fun x=>qrd x.1,fun r=>((),(r.1,r.2,())),none⟩
abbrev qff:SG:=⟨[(5,.v (.int .u64)),(7,.v (.int .u64))],[],[],[]⟩
abbrev qgq:List (Ex×SG):=[(.exit 0,⟨[(5,.v (.int .u64))],[],[],[]⟩)]
def qdB (g:((Int×Int×Unit)×Unit)->Option ((Int×Unit)×Unit)):((Int×Int×Unit)×Unit)->Option ((Int×Unit)×Unit)
 | ((x_5,y_7,_),_)=>bif (!decide (y_7=0)) then (bif decide (y_7=0) then none else (g ((y_7,(irem x_5 y_7),()),()))) else (some ((x_5,()),()))
def qjI (a_0:List Int) (b_1:List Int):Option (List Int) :=
 (qrd a_0).bind fun r1=>(qrd b_1).bind fun r2=>(lp qdB K0 ((r1.1,r2.1,()),())).bind fun t3=>(qle t3.1.1).bind fun r4=>some r4
def c97:Ctr:=⟨[((.sl (.int .u64)),.imm),((.sl (.int .u64)),.imm)],[((.sl (.int .u64)),true)],(List Int),fun x=>qjI x.1 x.2.1,fun r=>((),(r,())),none⟩
def tz64 (a0:Int):Option Int:=bif decide (0<a0)&&decide (a0<18446744073709551616) then some ((tzN 64 a0.toNat:Nat):Int) else none
def c122:Ctr:=⟨[((.int .u64),.imm)],[((.int .i64),false)],Int,fun x=>tz64 x.1,fun r=>((),(r,())),none⟩
abbrev qf3:SG:=⟨[(3,.v (.int .i64)),(6,.v (.sl (.int .u64))),(7,.v (.int .i64)),(8,.v (.int .i64))],[],[],[]⟩
abbrev qhq:List (Ex×SG):=[(.exit 0,⟨[(3,.v (.int .i64))],[],[],[]⟩),(.ret,⟨[(2,.v (.int .i64))],[],[],[]⟩)]
def qeh (g:((Int×(List Int)×Int×Int×Unit)×Unit)->Option (((Int×Unit)×Unit) ⊕ ((Int×Unit)×Unit))):((Int×(List Int)×Int×Int×Unit)×Unit)->Option (((Int×Unit)×Unit) ⊕ ((Int×Unit)×Unit))
 | ((n_3,v_6,v_7,v_8,_),_)=>bif (decide (v_8<v_7)) then (bif decide (0<=v_8) then (v_6[v_8.toNat]?).bind fun x1=>bif (!decide (x1=0)) then ((tz64 x1).bind fun r2=>some (.inr (((iadd .i64 (imul .i64 32 v_8) r2),()),()))) else (g (((iadd .i64 n_3 32),v_6,v_7,(iadd .i64 v_8 1),()),())) else none) else (some (.inl ((n_3,()),())))
def qcu (a_0:List Int):Option Int :=
 (lp qeh K0 ((0,a_0,(a_0.length:Int),0,()),())).bind fun t3=>(match t3 with | .inl t4=>some t4.1.1 | .inr t5=>some t5.1.1)
def c98:Ctr:=⟨[((.sl (.int .u64)),.imm)],[((.int .i64),false)],Int,fun x=>qcu x.1,fun r=>((),(r,())),none⟩
def qhh (a_0:List Int) (i_1:Int):Option Int :=
 bif (decide (i_1<(a_0.length:Int))) then (bif decide (0<=i_1) then (a_0[i_1.toNat]?).bind fun x1=>some x1 else none) else (some 0)
def c105:Ctr:=⟨[((.sl (.int .u64)),.imm),((.int .i64),.imm)],[((.int .u64),false)],Int,fun x=>qhh x.1 x.2.1,fun r=>((),(r,())),none⟩
abbrev qig:SG:=⟨[(0,.v (.sl (.int .u64))),(5,.v (.int .i64)),(6,.v (.int .i64)),(7,.o (.int .u64) 63),(23,.v (.int .i64)),(24,.v (.int .i64))],[],[],[]⟩
abbrev qjG:List (Ex×SG):=[(.exit 0,⟨[(7,.o (.int .u64) 63)],[],[],[]⟩)]
abbrev qoX:=(((List Int)×Int×Int×(List Int)×Int×Int×Unit)×Unit)
abbrev qoW:=(((List Int)×Unit)×Unit)
def qfd (g:qoX->Option qoW):qoX->Option qoW
 | ((a_0,words_5,s_6,out_7,v_23,v_24,_),_)=>bif (decide (v_24<v_23)) then ((qhh a_0 (iadd .i64 (iadd .i64 v_24 words_5) 1)).bind fun r1=>bif decide (0<=(iadd .i64 v_24 words_5)) then (a_0[(iadd .i64 v_24 words_5).toNat]?).bind fun x2=>bif decide (s_6<0) then none else (bif decide (0<=v_24)&&decide (v_24<(out_7.length:Int)) then (out_7[v_24.toNat]?).bind fun _=>g ((a_0,words_5,s_6,(out_7.set v_24.toNat (iand .u64 (shrV .u64 (ior .u64 (shlV .u64 r1 32) x2) s_6) 4294967295)),v_23,(iadd .i64 v_24 1),()),()) else none) else none) else (some ((out_7,()),()))
def qeo (a_0:List Int) (n_1:Int):Option (List Int) :=
 bif (decide ((iquo .i64 n_1 32)>=(a_0.length:Int))) then (some ([])) else (bif decide ((isub .i64 (a_0.length:Int) (iquo .i64 n_1 32))=(isub .i64 (a_0.length:Int) (iquo .i64 n_1 32)))&&decide (0<=(isub .i64 (a_0.length:Int) (iquo .i64 n_1 32)))&&decide (((8:Nat):Int)*(isub .i64 (a_0.length:Int) (iquo .i64 n_1 32))<=281474976710656)&&decide ((isub .i64 (a_0.length:Int) (iquo .i64 n_1 32))<=9223372036854775807) then (lp qfd K0 ((a_0,(iquo .i64 n_1 32),(irem n_1 32),(List.replicate (isub .i64 (a_0.length:Int) (iquo .i64 n_1 32)).toNat (0:Int)),((List.replicate (isub .i64 (a_0.length:Int) (iquo .i64 n_1 32)).toNat (0:Int)).length:Int),0,()),())).bind fun t4=>(qeI t4.1.1).bind fun r5=>some r5 else none)
def c99:Ctr:=⟨[((.sl (.int .u64)),.imm),((.int .i64),.imm)],[((.sl (.int .u64)),true)],(List Int),fun x=>qeo x.1 x.2.1,fun r=>((),(r,())),none⟩
abbrev qih:SG:=⟨[(5,.v (.int .i64)),(6,.v (.int .i64)),(7,.o (.int .u64) 63),(20,.v (.sl (.int .u64))),(21,.v (.int .i64)),(22,.v (.int .i64))],[],[],[]⟩
abbrev qjH:List (Ex×SG):=[(.exit 0,⟨[(7,.o (.int .u64) 63)],[],[],[]⟩)]
abbrev qoZ:=((Int×Int×(List Int)×(List Int)×Int×Int×Unit)×Unit)
abbrev qoY:=(((List Int)×Unit)×Unit)
def qfe (g:qoZ->Option qoY):qoZ->Option qoY
 | ((words_5,s_6,out_7,v_20,v_21,v_22,_),_)=>bif (decide (v_22<v_21)) then (bif decide (0<=v_22) then (v_20[v_22.toNat]?).bind fun x1=>bif decide (s_6<0) then none else (bif decide (0<=(iadd .i64 v_22 words_5))&&decide ((iadd .i64 v_22 words_5)<(out_7.length:Int)) then (out_7[(iadd .i64 v_22 words_5).toNat]?).bind fun x2=>bif decide (0<=(iadd .i64 v_22 words_5))&&decide ((iadd .i64 v_22 words_5)<(out_7.length:Int)) then (out_7[(iadd .i64 v_22 words_5).toNat]?).bind fun _=>bif decide (0<=(iadd .i64 (iadd .i64 v_22 words_5) 1))&&decide ((iadd .i64 (iadd .i64 v_22 words_5) 1)<((out_7.set ((iadd .i64 v_22 words_5).toNat) (ior .u64 x2 (iand .u64 (shlV .u64 x1 s_6) 4294967295))).length:Int)) then ((out_7.set ((iadd .i64 v_22 words_5).toNat) (ior .u64 x2 (iand .u64 (shlV .u64 x1 s_6) 4294967295)))[(iadd .i64 (iadd .i64 v_22 words_5) 1).toNat]?).bind fun _=>g ((words_5,s_6,((out_7.set ((iadd .i64 v_22 words_5).toNat) (ior .u64 x2 (iand .u64 (shlV .u64 x1 s_6) 4294967295))).set ((iadd .i64 (iadd .i64 v_22 words_5) 1).toNat) (shrV .u64 (shlV .u64 x1 s_6) 32)),v_20,v_21,(iadd .i64 v_22 1),()),()) else none else none else none) else none) else (some ((out_7,()),()))
def qiz (a_0:List Int) (n_1:Int):Option (List Int) :=
 bif decide ((iadd .i64 (iadd .i64 (a_0.length:Int) (iquo .i64 n_1 32)) 1)=(iadd .i64 (iadd .i64 (a_0.length:Int) (iquo .i64 n_1 32)) 1))&&decide (0<=(iadd .i64 (iadd .i64 (a_0.length:Int) (iquo .i64 n_1 32)) 1))&&decide (((8:Nat):Int)*(iadd .i64 (iadd .i64 (a_0.length:Int) (iquo .i64 n_1 32)) 1)<=281474976710656)&&decide ((iadd .i64 (iadd .i64 (a_0.length:Int) (iquo .i64 n_1 32)) 1)<=9223372036854775807) then (lp qfe K0 (((iquo .i64 n_1 32),(irem n_1 32),(List.replicate (iadd .i64 (iadd .i64 (a_0.length:Int) (iquo .i64 n_1 32)) 1).toNat (0:Int)),a_0,(a_0.length:Int),0,()),())).bind fun t5=>(qeI t5.1.1).bind fun r6=>some r6 else none
def c100:Ctr:=⟨[((.sl (.int .u64)),.imm),((.int .i64),.imm)],[((.sl (.int .u64)),true)],(List Int),fun x=>qiz x.1 x.2.1,fun r=>((),(r,())),none⟩
abbrev qf4:SG:=⟨[(0,.v (.sl (.int .u64))),(1,.v (.int .u64)),(6,.o (.int .u64) 55),(7,.v (.int .u64)),(8,.v (.int .i64))],[],[],[]⟩
abbrev qhr:List (Ex×SG):=[(.exit 0,⟨[(6,.o (.int .u64) 55),(7,.v (.int .u64))],[],[],[]⟩)]
def qei (g:(((List Int)×Int×(List Int)×Int×Int×Unit)×Unit)->Option (((List Int)×Int×Unit)×Unit)):(((List Int)×Int×(List Int)×Int×Int×Unit)×Unit)->Option (((List Int)×Int×Unit)×Unit)
 | ((a_0,d_1,out_6,rest_7,i_8,_),_)=>bif (decide (i_8>=0)) then (bif decide (0<=i_8) then (a_0[i_8.toNat]?).bind fun x1=>bif decide (d_1=0) then none else (bif decide (0<=i_8)&&decide (i_8<(out_6.length:Int)) then (out_6[i_8.toNat]?).bind fun _=>bif decide (d_1=0) then none else (g ((a_0,d_1,(out_6.set i_8.toNat (iquo .u64 (ior .u64 (shlV .u64 rest_7 32) x1) d_1)),(irem (ior .u64 (shlV .u64 rest_7 32) x1) d_1),(isub .i64 i_8 1),()),())) else none) else none) else (some ((out_6,rest_7,()),()))
def qk9 (a_0:List Int) (d_1:Int):Option ((List Int)×Int) :=
 bif decide ((a_0.length:Int)=(a_0.length:Int))&&decide (0<=(a_0.length:Int))&&decide (((8:Nat):Int)*(a_0.length:Int)<=281474976710656)&&decide ((a_0.length:Int)<=9223372036854775807) then (lp qei K0 ((a_0,d_1,(List.replicate (a_0.length:Int).toNat (0:Int)),0,(isub .i64 (a_0.length:Int) 1),()),())).bind fun t3=>(qeI t3.1.1).bind fun r4=>some (r4,t3.1.2.1) else none
def c103:Ctr:=⟨[((.sl (.int .u64)),.imm),((.int .u64),.imm)],[((.sl (.int .u64)),true),((.int .u64),false)],(List Int)×Int,fun x=>qk9 x.1 x.2.1,fun r=>((),(r.1,r.2,())),none⟩
def qwS (a0:Int):Option Int:=bif decide (0<=a0)&&decide (a0<4294967296) then some ((lenN a0.toNat:Nat):Int) else none
def c129:Ctr:=⟨[((.int .u32),.imm)],[((.int .i64),false)],Int,fun x=>qwS x.1,fun r=>((),(r,())),none⟩
def qdu (x_0:Int):Option Int :=
 (qwS x_0).bind fun r1=>some (isub .i64 32 r1)
def c123:Ctr:=⟨[((.int .u32),.imm)],[((.int .i64),false)],Int,fun x=>qdu x.1,fun r=>((),(r,())),none⟩
abbrev qg8:SG:=⟨[(0,.l (.int .u64) 0),(1,.v (.sl (.int .u64))),(2,.v (.int .u64)),(7,.v (.int .u64)),(8,.v (.int .u64)),(12,.v (.int .i64)),(13,.v (.int .i64))],[],[],[]⟩
abbrev qiy:List (Ex×SG):=[(.exit 0,⟨[(0,.l (.int .u64) 0),(8,.v (.int .u64))],[],[],[]⟩)]
abbrev qnz:=(((List Int)×(List Int)×Int×Int×Int×Int×Int×Unit)×Unit)
abbrev qny:=(((List Int)×Int×Unit)×Unit)
def qe0 (g:qnz->Option qny):qnz->Option qny
 | ((u_0,v_1,times_2,carry_7,debt_8,v_12,v_13,_),_)=>bif (decide (v_13<v_12)) then ((qhh v_1 v_13).bind fun r1=>bif decide (0<=v_13)&&decide (v_13<(u_0.length:Int)) then (u_0[v_13.toNat]?).bind fun x2=>bif decide (0<=v_13)&&decide (v_13<(u_0.length:Int)) then (u_0[v_13.toNat]?).bind fun _=>g (((u_0.set v_13.toNat (iand .u64 (isub .u64 (isub .u64 (iadd .u64 4294967296 x2) (iand .u64 (iadd .u64 carry_7 (imul .u64 times_2 r1)) 4294967295)) debt_8) 4294967295)),v_1,times_2,(shrV .u64 (iadd .u64 carry_7 (imul .u64 times_2 r1)) 32),(isub .u64 1 (shrV .u64 (isub .u64 (isub .u64 (iadd .u64 4294967296 x2) (iand .u64 (iadd .u64 carry_7 (imul .u64 times_2 r1)) 4294967295)) debt_8) 32)),v_12,(iadd .i64 v_13 1),()),()) else none else none) else (some ((u_0,debt_8,()),()))
def qnA (u_0:List Int) (v_1:List Int) (times_2:Int):Option ((List Int)×Bool) :=
 (lp qe0 K0 ((u_0,v_1,times_2,0,0,(u_0.length:Int),0,()),())).bind fun t4=>(bif Nat.beq t4.1.1.length u_0.length then some (t4.1.1,()) else none).bind fun l5=>some (l5.1,(decide (t4.1.2.1=1)))
def c130:Ctr:=⟨[((.sl (.int .u64)),.lent),((.sl (.int .u64)),.imm),((.int .u64),.imm)],[(.bool,false)],(List Int)×Bool,fun x=>qnA x.1 x.2.1 x.2.2.1,fun r=>((r.1,()),(r.2,())),none⟩
abbrev qha:SG:=⟨[(0,.l (.int .u64) 0),(1,.v (.sl (.int .u64))),(4,.v (.int .u64)),(7,.v (.int .i64)),(8,.v (.int .i64))],[],[],[]⟩
abbrev qiB:List (Ex×SG):=[(.exit 0,⟨[(0,.l (.int .u64) 0)],[],[],[]⟩)]
def qe1 (g:(((List Int)×(List Int)×Int×Int×Int×Unit)×Unit)->Option (((List Int)×Unit)×Unit)):(((List Int)×(List Int)×Int×Int×Int×Unit)×Unit)->Option (((List Int)×Unit)×Unit)
 | ((u_0,v_1,carry_4,v_7,v_8,_),_)=>bif (decide (v_8<v_7)) then (bif decide (0<=v_8)&&decide (v_8<(u_0.length:Int)) then (u_0[v_8.toNat]?).bind fun x1=>(qhh v_1 v_8).bind fun r2=>bif decide (0<=v_8)&&decide (v_8<(u_0.length:Int)) then (u_0[v_8.toNat]?).bind fun _=>g (((u_0.set v_8.toNat (iand .u64 (iadd .u64 carry_4 (iadd .u64 x1 r2)) 4294967295)),v_1,(shrV .u64 (iadd .u64 carry_4 (iadd .u64 x1 r2)) 32),v_7,(iadd .i64 v_8 1),()),()) else none else none) else (some ((u_0,()),()))
def qnE (u_0:List Int) (v_1:List Int):Option (List Int) :=
 (lp qe1 K0 ((u_0,v_1,0,(u_0.length:Int),0,()),())).bind fun t4=>(bif Nat.beq t4.1.1.length u_0.length then some (t4.1.1,()) else none).bind fun l5=>some l5.1
def c131:Ctr:=⟨[((.sl (.int .u64)),.lent),((.sl (.int .u64)),.imm)],[],(List Int),fun x=>qnE x.1 x.2.1,fun r=>((r,()),()),none⟩
abbrev qf7:SG:=⟨[(0,.l (.int .u64) 0),(1,.v (.sl (.int .u64))),(5,.v (.int .i64)),(7,.v (.int .u64)),(8,.v (.int .u64))],[],[],[]⟩
abbrev qhv:List (Ex×SG):=[(.exit 0,⟨[(0,.l (.int .u64) 0),(1,.v (.sl (.int .u64))),(7,.v (.int .u64))],[],[],[]⟩)]
def qbV (g:(((List Int)×(List Int)×Int×Int×Int×Unit)×Unit)->Option (((List Int)×(List Int)×Int×Unit)×Unit)):(((List Int)×(List Int)×Int×Int×Int×Unit)×Unit)->Option (((List Int)×(List Int)×Int×Unit)×Unit)
 | ((v_0,v_1,v_5,v_7,v_8,_),_)=>bif (decide (v_7>=4294967296)) then (bif decide (0<=(isub .i64 v_5 1)) then (v_1[(isub .i64 v_5 1).toNat]?).bind fun x5=>bif (decide ((iadd .u64 v_8 x5)>=4294967296)) then (some ((v_0,v_1,(isub .u64 v_7 1),()),())) else (g ((v_0,v_1,v_5,(isub .u64 v_7 1),(iadd .u64 v_8 x5),()),())) else none) else (bif decide (0<=(isub .i64 v_5 2)) then (v_1[(isub .i64 v_5 2).toNat]?).bind fun x6=>bif decide (0<=(isub .i64 v_5 2))&&decide ((isub .i64 v_5 2)<(v_0.length:Int)) then (v_0[(isub .i64 v_5 2).toNat]?).bind fun x7=>bif (decide ((imul .u64 v_7 x6)>(ior .u64 (shlV .u64 v_8 32) x7))) then (bif decide (0<=(isub .i64 v_5 1)) then (v_1[(isub .i64 v_5 1).toNat]?).bind fun x8=>bif (decide ((iadd .u64 v_8 x8)>=4294967296)) then (some ((v_0,v_1,(isub .u64 v_7 1),()),())) else (g ((v_0,v_1,v_5,(isub .u64 v_7 1),(iadd .u64 v_8 x8),()),())) else none) else (some ((v_0,v_1,v_7,()),())) else none else none)
def qjJ (a_0:List Int) (a_1:List Int):Option ((List Int)×Int) :=
 bif decide (0<=(a_1.length:Int))&&decide ((a_1.length:Int)<(a_0.length:Int)) then (a_0[(a_1.length:Int).toNat]?).bind fun x1=>bif decide (0<=(isub .i64 (a_1.length:Int) 1))&&decide ((isub .i64 (a_1.length:Int) 1)<(a_0.length:Int)) then (a_0[(isub .i64 (a_1.length:Int) 1).toNat]?).bind fun x2=>bif decide (0<=(isub .i64 (a_1.length:Int) 1)) then (a_1[(isub .i64 (a_1.length:Int) 1).toNat]?).bind fun x3=>bif decide (x3=0) then none else (bif decide (0<=(isub .i64 (a_1.length:Int) 1)) then (a_1[(isub .i64 (a_1.length:Int) 1).toNat]?).bind fun x4=>bif decide (x4=0) then none else ((lp qbV K0 ((a_0,a_1,(a_1.length:Int),(iquo .u64 (ior .u64 (shlV .u64 x1 32) x2) x3),(irem (ior .u64 (shlV .u64 x1 32) x2) x4),()),())).bind fun t9=>(qnA t9.1.1 t9.1.2.1 t9.1.2.2.1).bind fun r10=>bif r10.2 then ((qnE (over t9.1.1 0 r10.1) t9.1.2.1).bind fun r11=>(bif Nat.beq (over (over t9.1.1 0 r10.1) 0 r11).length a_0.length then some ((over (over t9.1.1 0 r10.1) 0 r11),()) else none).bind fun l12=>some (l12.1,(isub .u64 t9.1.2.2.1 1))) else ((bif Nat.beq (over t9.1.1 0 r10.1).length a_0.length then some ((over t9.1.1 0 r10.1),()) else none).bind fun l13=>some (l13.1,t9.1.2.2.1))) else none) else none else none else none
def c124:Ctr:=⟨[((.sl (.int .u64)),.lent),((.sl (.int .u64)),.imm)],[((.int .u64),false)],(List Int)×Int,fun x=>qjJ x.1 x.2.1,fun r=>((r.1,()),(r.2,())),none⟩
abbrev qg9:SG:=⟨[(6,.v (.int .i64)),(7,.v (.sl (.int .u64))),(8,.o (.int .u64) 71),(9,.v (.int .i64)),(10,.o (.int .u64) 87),(11,.v (.int .i64))],[],[],[]⟩
abbrev qiA:List (Ex×SG):=[(.exit 0,⟨[(6,.v (.int .i64)),(8,.o (.int .u64) 71),(10,.o (.int .u64) 87)],[],[],[]⟩)]
abbrev qnC:=((Int×(List Int)×(List Int)×Int×(List Int)×Int×Unit)×Unit)
abbrev qnB:=((Int×(List Int)×(List Int)×Unit)×Unit)
def qep (g:qnC->Option qnB):qnC->Option qnB
 | ((s_6,v_7,u_8,n_9,q_10,j_11,_),_)=>bif (decide (j_11>=0)) then (bif decide (0<=j_11)&&decide ((j_11:Int)<=(iadd .i64 (iadd .i64 j_11 n_9) 1))&&decide (((iadd .i64 (iadd .i64 j_11 n_9) 1):Int)<=(iadd .i64 (iadd .i64 j_11 n_9) 1))&&decide (((iadd .i64 (iadd .i64 j_11 n_9) 1):Int)<=(u_8.length:Int)) then (qjJ ((u_8.drop j_11.toNat).take (((iadd .i64 (iadd .i64 j_11 n_9) 1)-j_11).toNat)) v_7).bind fun r5=>bif decide (0<=j_11)&&decide (j_11<(q_10.length:Int)) then (q_10[j_11.toNat]?).bind fun _=>g ((s_6,v_7,(over u_8 j_11.toNat r5.1),n_9,(q_10.set j_11.toNat r5.2),(isub .i64 j_11 1),()),()) else none else none) else (some ((s_6,u_8,q_10,()),()))
def qnD (a_0:List Int) (b_1:List Int):Option ((List Int)×(List Int)) :=
 bif decide (0<=(isub .i64 (b_1.length:Int) 1)) then (b_1[(isub .i64 (b_1.length:Int) 1).toNat]?).bind fun x1=>(qdu (IntKind.wrap .u32 x1)).bind fun r2=>(qiz b_1 r2).bind fun r3=>(qiz a_0 r2).bind fun r4=>bif Nat.ble ((r4.length+2)*8) 140737488355328&&!false then bif decide ((0:Int)<=(iadd .i64 (a_0.length:Int) 1))&&decide (((iadd .i64 (a_0.length:Int) 1):Int)<=(iadd .i64 (a_0.length:Int) 1))&&decide (((iadd .i64 (a_0.length:Int) 1):Int)<=((r4++([0,0]:List Int)).length:Int)) then bif decide ((isub .i64 (((iadd .i64 (a_0.length:Int) 1)-0).toNat:Int) (r3.length:Int))=(isub .i64 (((iadd .i64 (a_0.length:Int) 1)-0).toNat:Int) (r3.length:Int)))&&decide (0<=(isub .i64 (((iadd .i64 (a_0.length:Int) 1)-0).toNat:Int) (r3.length:Int)))&&decide (((8:Nat):Int)*(isub .i64 (((iadd .i64 (a_0.length:Int) 1)-0).toNat:Int) (r3.length:Int))<=281474976710656)&&decide ((isub .i64 (((iadd .i64 (a_0.length:Int) 1)-0).toNat:Int) (r3.length:Int))<=9223372036854775807) then (lp qep K0 ((r2,r3,((r4++([0,0]:List Int)).take (((iadd .i64 (a_0.length:Int) 1)-0).toNat)),(r3.length:Int),(List.replicate (isub .i64 (((iadd .i64 (a_0.length:Int) 1)-0).toNat:Int) (r3.length:Int)).toNat (0:Int)),(isub .i64 ((List.replicate (isub .i64 (((iadd .i64 (a_0.length:Int) 1)-0).toNat:Int) (r3.length:Int)).toNat (0:Int)).length:Int) 1),()),())).bind fun t7=>(qeI t7.1.2.2.1).bind fun r8=>(qeI t7.1.2.1).bind fun r9=>(qeo r9 t7.1.1).bind fun r10=>some (r8,r10) else none else none else none else none
def c104:Ctr:=⟨[((.sl (.int .u64)),.imm),((.sl (.int .u64)),.imm)],[((.sl (.int .u64)),true),((.sl (.int .u64)),true)],(List Int)×(List Int),fun x=>qnD x.1 x.2.1,fun r=>((),(r.1,r.2,())),none⟩
def qfh (a_0:List Int) (b_1:List Int):Option ((List Int)×(List Int)×Int) :=
 (qcj a_0).bind fun r1=>(qcj b_1).bind fun r2=>bif (decide ((r2.length:Int)=0)) then (some ([],[],2)) else ((qht r1 r2).bind fun r3=>bif (decide (r3<0)) then (some ([],r1,0)) else (bif (decide ((r2.length:Int)=1)) then (bif decide ((0:Int)<(r2.length:Int)) then (r2[0]?).bind fun x4=>(qk9 r1 x4).bind fun r5=>(qle r5.2).bind fun r6=>some (r5.1,r6,0) else none) else ((qnD r1 r2).bind fun r7=>some (r7.1,r7.2,0))))
def c68:Ctr:=⟨[((.sl (.int .u64)),.imm),((.sl (.int .u64)),.imm)],[((.sl (.int .u64)),true),((.sl (.int .u64)),false),((.int .i64),false)],(List Int)×(List Int)×Int,fun x=>qfh x.1 x.2.1,fun r=>((),(r.1,r.2.1,r.2.2,())),none⟩
def qiU (a_0:List Int) (b_1:List Int):Option ((List Int)×(List Int)) :=
 (qfh a_0 b_1).bind fun r1=>some (r1.1,r1.2.1)
def c101:Ctr:=⟨[((.sl (.int .u64)),.imm),((.sl (.int .u64)),.imm)],[((.sl (.int .u64)),true),((.sl (.int .u64)),false)],(List Int)×(List Int),fun x=>qiU x.1 x.2.1,fun r=>((),(r.1,r.2,())),none⟩
abbrev qf6:SG:=⟨[(0,.v (.sl (.int .u64))),(1,.v (.sl (.int .u64))),(5,.o (.int .u64) 47),(6,.v (.int .u64)),(13,.v (.int .i64)),(14,.v (.int .i64))],[],[],[]⟩
abbrev qhu:List (Ex×SG):=[(.exit 0,⟨[(5,.o (.int .u64) 47)],[],[],[]⟩)]
abbrev qmE:=(((List Int)×(List Int)×(List Int)×Int×Int×Int×Unit)×Unit)
abbrev qmD:=(((List Int)×Unit)×Unit)
def qej (g:qmE->Option qmD):qmE->Option qmD
 | ((a_0,b_1,out_5,debt_6,v_13,v_14,_),_)=>bif (decide (v_14<v_13)) then (bif decide (0<=v_14) then (a_0[v_14.toNat]?).bind fun x1=>(qhh b_1 v_14).bind fun r2=>bif decide (0<=v_14)&&decide (v_14<(out_5.length:Int)) then (out_5[v_14.toNat]?).bind fun _=>g ((a_0,b_1,(out_5.set v_14.toNat (iand .u64 (isub .u64 (isub .u64 (iadd .u64 4294967296 x1) r2) debt_6) 4294967295)),(isub .u64 1 (shrV .u64 (isub .u64 (isub .u64 (iadd .u64 4294967296 x1) r2) debt_6) 32)),v_13,(iadd .i64 v_14 1),()),()) else none else none) else (some ((out_5,()),()))
def qgp (a_0:List Int) (b_1:List Int):Option (List Int) :=
 bif decide ((a_0.length:Int)=(a_0.length:Int))&&decide (0<=(a_0.length:Int))&&decide (((8:Nat):Int)*(a_0.length:Int)<=281474976710656)&&decide ((a_0.length:Int)<=9223372036854775807) then (lp qej K0 ((a_0,b_1,(List.replicate (a_0.length:Int).toNat (0:Int)),0,((List.replicate (a_0.length:Int).toNat (0:Int)).length:Int),0,()),())).bind fun t4=>(qeI t4.1.1).bind fun r5=>some r5 else none
def c102:Ctr:=⟨[((.sl (.int .u64)),.imm),((.sl (.int .u64)),.imm)],[((.sl (.int .u64)),true)],(List Int),fun x=>qgp x.1 x.2.1,fun r=>((),(r,())),none⟩
abbrev qhb:SG:=⟨[(0,.o (.int .u64) 7),(1,.v (.sl (.int .u64))),(5,.v (.int .i64)),(6,.v (.int .i64))],[],[],[]⟩
abbrev qiC:List (Ex×SG):=[(.ret,⟨[(4,.o (.int .u64) 39)],[],[],[]⟩)]
def qci (g:(((List Int)×(List Int)×Int×Int×Unit)×Unit)->Option (((List Int)×Unit)×Unit)):(((List Int)×(List Int)×Int×Int×Unit)×Unit)->Option (((List Int)×Unit)×Unit)
 | ((v_0,v_1,v_5,v_6,_),_)=>(qht v_0 v_1).bind fun r8=>bif (decide (r8=0)) then ((qiz v_0 (mn v_5 v_6)).bind fun r9=>some ((r9,()),())) else (bif (decide (r8<0)) then (bif (decide ((v_1.length:Int)>(iadd .i64 (v_0.length:Int) 1))) then ((qiU v_1 v_0).bind fun r10=>bif (decide ((r10.2.length:Int)=0)) then ((qiz v_0 (mn v_5 v_6)).bind fun r11=>some ((r11,()),())) else ((qcu r10.2).bind fun r12=>(qeo r10.2 r12).bind fun r13=>g ((r13,v_0,v_5,v_6,()),()))) else ((qgp v_1 v_0).bind fun r14=>(qcu r14).bind fun r15=>(qeo r14 r15).bind fun r16=>g ((r16,v_0,v_5,v_6,()),()))) else (bif (decide ((v_0.length:Int)>(iadd .i64 (v_1.length:Int) 1))) then ((qiU v_0 v_1).bind fun r17=>bif (decide ((r17.2.length:Int)=0)) then ((qiz v_1 (mn v_5 v_6)).bind fun r18=>some ((r18,()),())) else ((qcu r17.2).bind fun r19=>(qeo r17.2 r19).bind fun r20=>g ((r20,v_1,v_5,v_6,()),()))) else ((qgp v_0 v_1).bind fun r21=>(qcu r21).bind fun r22=>(qeo r21 r22).bind fun r23=>g ((r23,v_1,v_5,v_6,()),()))))
def qqe (a_0:List Int) (a_1:List Int):Option (List Int) :=
 (qcj a_0).bind fun r1=>(qcj a_1).bind fun r2=>bif (decide ((r1.length:Int)=0)) then (some r2) else (bif (decide ((r2.length:Int)=0)) then (some r1) else (bif (decide ((r1.length:Int)<=2)) then (bif (decide ((r2.length:Int)<=2)) then ((qjI r1 r2).bind fun r3=>some r3) else ((qcu r1).bind fun r4=>(qcu r2).bind fun r5=>(qeo r1 r4).bind fun r6=>(qeo r2 r5).bind fun r7=>(lp qci K0 ((r6,r7,r4,r5,()),())).bind fun t24=>some t24.1.1)) else ((qcu r1).bind fun r25=>(qcu r2).bind fun r26=>(qeo r1 r25).bind fun r27=>(qeo r2 r26).bind fun r28=>(lp qci K0 ((r27,r28,r25,r26,()),())).bind fun t29=>some t29.1.1)))
def c67:Ctr:=⟨[((.sl (.int .u64)),.imm),((.sl (.int .u64)),.imm)],[((.sl (.int .u64)),true)],(List Int),fun x=>qqe x.1 x.2.1,fun r=>((),(r,())),none⟩
def qeC (num_0:WH) (den_1:List Int):Option RAT :=
 bif (decide ((num_0.2.length:Int)=0)) then ((qle 1).bind fun r1=>some ((false,[]),r1)) else ((qqe num_0.2 den_1).bind fun r2=>bif (decide ((r2.length:Int)=1)) then (bif decide ((0:Int)<(r2.length:Int)) then (r2[0]?).bind fun x3=>bif (decide (x3=1)) then (some (num_0,den_1)) else ((qfh num_0.2 r2).bind fun r4=>(qfh den_1 r2).bind fun r5=>some ((num_0.1,r4.1),r5.1)) else none) else ((qfh num_0.2 r2).bind fun r6=>(qfh den_1 r2).bind fun r7=>some ((num_0.1,r6.1),r7.1)))
def c41:Ctr:=⟨[(tWH,.imm),((.sl (.int .u64)),.imm)],[(tRAT,false)],RAT,fun x=>qeC x.1 x.2.1,fun r=>((),(r,())),none⟩
def qdU (neg_0:Bool) (abs_1:List Int):Option WH :=
 bif neg_0 then (some ((decide ((abs_1.length:Int)>0)),abs_1)) else (some (false,abs_1))
def c63:Ctr:=⟨[(.bool,.imm),((.sl (.int .u64)),.imm)],[(tWH,false)],WH,fun x=>qdU x.1 x.2.1,fun r=>((),(r,())),none⟩
def qbM (a_0:WH):Option WH :=
 (qcj a_0.2).bind fun r1=>(qdU a_0.1 r1).bind fun r2=>some r2
def c61:Ctr:=⟨[(tWH,.imm)],[(tWH,false)],WH,fun x=>qbM x.1,fun r=>((),(r,())),none⟩
def qbC (a_0:RAT):Option RAT :=
 (qcj a_0.2).bind fun r1=>bif (decide ((r1.length:Int)=0)) then ((qeD ).bind fun r2=>some r2) else ((qbM a_0.1).bind fun r3=>(qeC r3 r1).bind fun r4=>some r4)
def c35:Ctr:=⟨[(tRAT,.imm)],[(tRAT,false)],RAT,fun x=>qbC x.1,fun r=>((),(r,())),none⟩
def qh9 (a_0:WH):Option Int :=
 (qbM a_0).bind fun r1=>bif r1.1 then (some (-1)) else (bif (decide ((r1.2.length:Int)=0)) then (some 0) else (some 1))
def c80:Ctr:=⟨[(tWH,.imm)],[((.int .i64),false)],Int,fun x=>qh9 x.1,fun r=>((),(r,())),none⟩
def qic (a_0:RAT):Option Int :=
 (qbC a_0).bind fun r1=>(qh9 r1.1).bind fun r2=>some r2
def c110:Ctr:=⟨[(tRAT,.imm)],[((.int .i64),false)],Int,fun x=>qic x.1,fun r=>((),(r,())),none⟩
abbrev qdZ:SG:=⟨[(6,.v (.sl qbB)),(7,.v (.int .i64)),(8,.v (.int .i64))],[],[],[]⟩
abbrev qeS:List (Ex×SG):=[(.exit 0,⟨[],[],[],[]⟩),(.ret,⟨[(2,.v (.int .i64)),(3,.v (.int .i64))],[],[],[]⟩)]
def qbp (g:(((List NODE)×Int×Int×Unit)×Unit)->Option ((Unit×Unit) ⊕ ((Int×Int×Unit)×Unit))):(((List NODE)×Int×Int×Unit)×Unit)->Option ((Unit×Unit) ⊕ ((Int×Int×Unit)×Unit))
 | ((v_6,v_7,v_8,_),_)=>bif (decide (v_8<v_7)) then (bif decide (0<=v_8) then (v_6[v_8.toNat]?).bind fun x1=>(qic x1.2.2.2.2.2.2.2).bind fun r2=>bif (decide (r2<=0)) then (some (.inr ((v_8,12,()),()))) else (g ((v_6,v_7,(iadd .i64 v_8 1),()),())) else none) else (some (.inl ((()),())))
def qfV (t_0:List NODE):Option (Int×Int) :=
 (lp qbp K0 ((t_0,(t_0.length:Int),0,()),())).bind fun t3=>(match t3 with | .inl t4=>some (0,0) | .inr t5=>some (t5.1.1,t5.1.2.1))
def c77:Ctr:=⟨[((.sl qbB),.imm)],[((.int .i64),false),((.int .i64),false)],Int×Int,fun x=>qfV x.1,fun r=>((),(r.1,r.2,())),none⟩
def qhP (a_0:List Int) (b_1:List Int):Option Int :=
 (qcj a_0).bind fun r1=>(qcj b_1).bind fun r2=>(qht r1 r2).bind fun r3=>some r3
def c62:Ctr:=⟨[((.sl (.int .u64)),.imm),((.sl (.int .u64)),.imm)],[((.int .i64),false)],Int,fun x=>qhP x.1 x.2.1,fun r=>((),(r,())),none⟩
def qkN (a_0:WH) (b_1:WH):Option Int :=
 (qbM a_0).bind fun r1=>(qbM b_1).bind fun r2=>bif (!(r1.1 == r2.1)) then (bif r1.1 then (some (-1)) else (bif (!(r1.1 == r2.1)) then (some 1) else (bif r1.1 then ((qhP r2.2 r1.2).bind fun r3=>some r3) else ((qhP r1.2 r2.2).bind fun r4=>some r4)))) else (bif (!(r1.1 == r2.1)) then (some 1) else (bif r1.1 then ((qhP r2.2 r1.2).bind fun r5=>some r5) else ((qhP r1.2 r2.2).bind fun r6=>some r6)))
def c36:Ctr:=⟨[(tWH,.imm),(tWH,.imm)],[((.int .i64),false)],Int,fun x=>qkN x.1 x.2.1,fun r=>((),(r,())),none⟩
abbrev qii:SG:=⟨[(1,.v (.sl (.int .u64))),(5,.o (.int .u64) 47),(6,.v (.int .i64)),(7,.v (.int .u64)),(8,.v (.int .u64)),(21,.o (.int .u64) 175),(22,.v (.int .i64)),(23,.v (.int .i64)),(28,.v (.sl (.int .u64))),(29,.v (.int .i64)),(30,.v (.int .i64))],[],[],[]⟩
abbrev qjK:List (Ex×SG):=[(.exit 2,⟨[(1,.v (.sl (.int .u64))),(5,.o (.int .u64) 47),(6,.v (.int .i64)),(8,.v (.int .u64)),(21,.o (.int .u64) 175),(22,.v (.int .i64)),(23,.v (.int .i64))],[],[],[]⟩)]
abbrev qo1:=(((List Int)×(List Int)×Int×Int×Int×(List Int)×Int×Int×(List Int)×Int×Int×Unit)×Unit)
abbrev qo0:=(((List Int)×(List Int)×Int×Int×(List Int)×Int×Int×Unit)×Unit)
def qfg (g:qo1->Option qo0):qo1->Option qo0
 | ((v_1,v_5,v_6,v_7,v_8,v_21,v_22,v_23,v_28,v_29,v_30,_),_)=>bif (decide (v_30<v_29)) then (bif decide (0<=v_30) then (v_28[v_30.toNat]?).bind fun x4=>bif decide (0<=(iadd .i64 v_6 v_30))&&decide ((iadd .i64 v_6 v_30)<(v_5.length:Int)) then (v_5[(iadd .i64 v_6 v_30).toNat]?).bind fun x5=>bif decide (0<=(iadd .i64 v_6 v_30))&&decide ((iadd .i64 v_6 v_30)<(v_5.length:Int)) then (v_5[(iadd .i64 v_6 v_30).toNat]?).bind fun _=>g ((v_1,(v_5.set ((iadd .i64 v_6 v_30).toNat) (iand .u64 (iadd .u64 v_8 (iadd .u64 x5 (imul .u64 v_7 x4))) 4294967295)),v_6,v_7,(shrV .u64 (iadd .u64 v_8 (iadd .u64 x5 (imul .u64 v_7 x4))) 32),v_21,v_22,v_23,v_28,v_29,(iadd .i64 v_30 1),()),()) else none else none else none) else (some ((v_1,v_5,v_6,v_8,v_21,v_22,v_23,()),()))
abbrev qij:SG:=⟨[(1,.v (.sl (.int .u64))),(5,.o (.int .u64) 47),(21,.o (.int .u64) 175),(22,.v (.int .i64)),(23,.v (.int .i64))],[],[],[]⟩
abbrev qjL:List (Ex×SG):=[(.exit 0,⟨[(5,.o (.int .u64) 47)],[],[],[]⟩)]
abbrev qo3:=(((List Int)×(List Int)×(List Int)×Int×Int×Unit)×Unit)
abbrev qo2:=(((List Int)×Unit)×Unit)
def qf8 (g:qo3->Option qo2):qo3->Option qo2
 | ((v_1,v_5,v_21,v_22,v_23,_),_)=>bif (decide (v_23<v_22)) then (bif decide (0<=v_23)&&decide (v_23<(v_21.length:Int)) then (v_21[v_23.toNat]?).bind fun x3=>(lp qfg K0 ((v_1,v_5,v_23,x3,0,v_21,v_22,v_23,v_1,(v_1.length:Int),0,()),())).bind fun t7=>bif decide (0<=(iadd .i64 t7.1.2.2.1 (t7.1.1.length:Int)))&&decide ((iadd .i64 t7.1.2.2.1 (t7.1.1.length:Int))<(t7.1.2.1.length:Int)) then (t7.1.2.1[(iadd .i64 t7.1.2.2.1 (t7.1.1.length:Int)).toNat]?).bind fun _=>g ((t7.1.1,(t7.1.2.1.set ((iadd .i64 t7.1.2.2.1 (t7.1.1.length:Int)).toNat) t7.1.2.2.2.1),t7.1.2.2.2.2.1,t7.1.2.2.2.2.2.1,(iadd .i64 t7.1.2.2.2.2.2.2.1 1),()),()) else none else none) else (some ((v_5,()),()))
def qlf (a_0:List Int) (a_1:List Int):Option (List Int) :=
 (qcj a_0).bind fun r1=>(qcj a_1).bind fun r2=>bif decide ((iadd .i64 (r1.length:Int) (r2.length:Int))=(iadd .i64 (r1.length:Int) (r2.length:Int)))&&decide (0<=(iadd .i64 (r1.length:Int) (r2.length:Int)))&&decide (((8:Nat):Int)*(iadd .i64 (r1.length:Int) (r2.length:Int))<=281474976710656)&&decide ((iadd .i64 (r1.length:Int) (r2.length:Int))<=9223372036854775807) then (lp qf8 K0 ((r2,(List.replicate (iadd .i64 (r1.length:Int) (r2.length:Int)).toNat (0:Int)),r1,(r1.length:Int),0,()),())).bind fun t9=>(qeI t9.1.1).bind fun r10=>some r10 else none
def c43:Ctr:=⟨[((.sl (.int .u64)),.imm),((.sl (.int .u64)),.imm)],[((.sl (.int .u64)),true)],(List Int),fun x=>qlf x.1 x.2.1,fun r=>((),(r,())),none⟩
def qfu (a_0:WH) (b_1:WH):Option WH :=
 (qbM a_0).bind fun r1=>(qbM b_1).bind fun r2=>(qlf r1.2 r2.2).bind fun r3=>(qdU (!(r1.1 == r2.1)) r3).bind fun r4=>some r4
def c37:Ctr:=⟨[(tWH,.imm),(tWH,.imm)],[(tWH,false)],WH,fun x=>qfu x.1 x.2.1,fun r=>((),(r,())),none⟩
def qfA (a_0:RAT):Option WH :=
 some (false,a_0.2)
def c38:Ctr:=⟨[(tRAT,.imm)],[(tWH,false)],WH,fun x=>qfA x.1,fun r=>((),(r,())),none⟩
def qhn (a_0:RAT) (b_1:RAT):Option Int :=
 (qbC a_0).bind fun r1=>(qbC b_1).bind fun r2=>(qfA r2).bind fun r3=>(qfu r1.1 r3).bind fun r4=>(qfA r1).bind fun r5=>(qfu r2.1 r5).bind fun r6=>(qkN r4 r6).bind fun r7=>some r7
def c13:Ctr:=⟨[(tRAT,.imm),(tRAT,.imm)],[((.int .i64),false)],Int,fun x=>qhn x.1 x.2.1,fun r=>((),(r,())),none⟩
def qid (a_0:RAT) (b_1:RAT):Option Bool :=
 (qhn a_0 b_1).bind fun r1=>some (decide (r1=0))
def c17:Ctr:=⟨[(tRAT,.imm),(tRAT,.imm)],[(.bool,false)],Bool,fun x=>qid x.1 x.2.1,fun r=>((),(r,())),none⟩
abbrev qik:SG:=⟨[(0,.v (.sl (.int .u64))),(1,.v (.sl (.int .u64))),(5,.o (.int .u64) 47),(6,.v (.int .u64)),(20,.v (.int .i64)),(21,.v (.int .i64))],[],[],[]⟩
abbrev qjM:List (Ex×SG):=[(.exit 0,⟨[(5,.o (.int .u64) 47)],[],[],[]⟩)]
abbrev qo5:=(((List Int)×(List Int)×(List Int)×Int×Int×Int×Unit)×Unit)
abbrev qo4:=(((List Int)×Unit)×Unit)
def qga (g:qo5->Option qo4):qo5->Option qo4
 | ((a_0,b_1,out_5,carry_6,v_20,v_21,_),_)=>bif (decide (v_21<v_20)) then ((qhh a_0 v_21).bind fun r3=>(qhh b_1 v_21).bind fun r4=>bif decide (0<=v_21)&&decide (v_21<(out_5.length:Int)) then (out_5[v_21.toNat]?).bind fun _=>g ((a_0,b_1,(out_5.set v_21.toNat (iand .u64 (iadd .u64 carry_6 (iadd .u64 r3 r4)) 4294967295)),(shrV .u64 (iadd .u64 carry_6 (iadd .u64 r3 r4)) 32),v_20,(iadd .i64 v_21 1),()),()) else none) else (some ((out_5,()),()))
def qog (a_0:List Int) (b_1:List Int):Option (List Int) :=
 (qcj a_0).bind fun r1=>(qcj b_1).bind fun r2=>bif decide ((iadd .i64 (mx (r1.length:Int) (r2.length:Int)) 1)=(iadd .i64 (mx (r1.length:Int) (r2.length:Int)) 1))&&decide (0<=(iadd .i64 (mx (r1.length:Int) (r2.length:Int)) 1))&&decide (((8:Nat):Int)*(iadd .i64 (mx (r1.length:Int) (r2.length:Int)) 1)<=281474976710656)&&decide ((iadd .i64 (mx (r1.length:Int) (r2.length:Int)) 1)<=9223372036854775807) then (lp qga K0 ((r1,r2,(List.replicate (iadd .i64 (mx (r1.length:Int) (r2.length:Int)) 1).toNat (0:Int)),0,((List.replicate (iadd .i64 (mx (r1.length:Int) (r2.length:Int)) 1).toNat (0:Int)).length:Int),0,()),())).bind fun t6=>(qeI t6.1.1).bind fun r7=>some r7 else none
def c69:Ctr:=⟨[((.sl (.int .u64)),.imm),((.sl (.int .u64)),.imm)],[((.sl (.int .u64)),true)],(List Int),fun x=>qog x.1 x.2.1,fun r=>((),(r,())),none⟩
def qld (a_0:List Int) (b_1:List Int):Option ((List Int)×Int) :=
 (qcj a_0).bind fun r1=>(qcj b_1).bind fun r2=>(qht r1 r2).bind fun r3=>bif (decide (r3<0)) then (some ([],3)) else ((qgp r1 r2).bind fun r4=>some (r4,0))
def c70:Ctr:=⟨[((.sl (.int .u64)),.imm),((.sl (.int .u64)),.imm)],[((.sl (.int .u64)),true),((.int .i64),false)],(List Int)×Int,fun x=>qld x.1 x.2.1,fun r=>((),(r.1,r.2,())),none⟩
def qkO (a_0:WH) (b_1:WH):Option WH :=
 (qbM a_0).bind fun r1=>(qbM b_1).bind fun r2=>bif (r1.1 == r2.1) then ((qog r1.2 r2.2).bind fun r3=>(qdU r1.1 r3).bind fun r4=>some r4) else ((qhP r1.2 r2.2).bind fun r5=>bif (decide (r5<0)) then ((qld r2.2 r1.2).bind fun r6=>(qdU r2.1 r6.1).bind fun r7=>some r7) else ((qld r1.2 r2.2).bind fun r8=>(qdU r1.1 r8.1).bind fun r9=>some r9))
def c42:Ctr:=⟨[(tWH,.imm),(tWH,.imm)],[(tWH,false)],WH,fun x=>qkO x.1 x.2.1,fun r=>((),(r,())),none⟩
def qdz (a_0:RAT) (b_1:RAT):Option RAT :=
 (qbC a_0).bind fun r1=>(qbC b_1).bind fun r2=>(qfA r2).bind fun r3=>(qfu r1.1 r3).bind fun r4=>(qfA r1).bind fun r5=>(qfu r2.1 r5).bind fun r6=>(qkO r4 r6).bind fun r7=>(qlf r1.2 r2.2).bind fun r8=>(qeC r7 r8).bind fun r9=>some r9
def c19:Ctr:=⟨[(tRAT,.imm),(tRAT,.imm)],[(tRAT,false)],RAT,fun x=>qdz x.1 x.2.1,fun r=>((),(r,())),none⟩
abbrev qe9:SG:=⟨[(0,.v (.sl qbB)),(6,.v (.sl qbB)),(7,.v (.int .i64)),(8,.v (.int .i64))],[],[],[]⟩
abbrev qgg:List (Ex×SG):=[(.exit 0,⟨[],[],[],[]⟩),(.ret,⟨[(2,.v (.int .i64)),(3,.v (.int .i64))],[],[],[]⟩)]
def qbL (g:(((List NODE)×(List NODE)×Int×Int×Unit)×Unit)->Option ((Unit×Unit) ⊕ ((Int×Int×Unit)×Unit))):(((List NODE)×(List NODE)×Int×Int×Unit)×Unit)->Option ((Unit×Unit) ⊕ ((Int×Int×Unit)×Unit))
 | ((t_0,v_6,v_7,v_8,_),_)=>bif (decide (v_8<v_7)) then (bif decide (0<=v_8) then (v_6[v_8.toNat]?).bind fun x1=>bif (!x1.1) then (bif decide (0<=x1.2.2.2.1) then (t_0[x1.2.2.2.1.toNat]?).bind fun x2=>bif decide (0<=x1.2.2.2.2.1) then (t_0[x1.2.2.2.2.1.toNat]?).bind fun x3=>(qdz x2.2.2.2.2.2.2.2 x3.2.2.2.2.2.2.2).bind fun r4=>(qid x1.2.2.2.2.2.2.2 r4).bind fun r5=>bif (!r5) then (some (.inr ((v_8,13,()),()))) else (g ((t_0,v_6,v_7,(iadd .i64 v_8 1),()),())) else none else none) else (g ((t_0,v_6,v_7,(iadd .i64 v_8 1),()),())) else none) else (some (.inl ((()),())))
def qia (t_0:List NODE):Option (Int×Int) :=
 (lp qbL K0 ((t_0,t_0,(t_0.length:Int),0,()),())).bind fun t6=>(match t6 with | .inl t7=>some (0,0) | .inr t8=>some (t8.1.1,t8.1.2.1))
def c78:Ctr:=⟨[((.sl qbB),.imm)],[((.int .i64),false),((.int .i64),false)],Int×Int,fun x=>qia x.1,fun r=>((),(r.1,r.2,())),none⟩
def qfP (e_0:Int) (tree_1:Int) (node_2:Int):Option (Int×Int×Int×Int) :=
 some (e_0,(0,(tree_1,node_2)))
def c79:Ctr:=⟨[((.int .i64),.imm),((.int .i64),.imm),((.int .i64),.imm)],[((.pair (.int .i64) (.pair (.int .i64) (.pair (.int .i64) (.int .i64)))),false)],(Int×Int×Int×Int),fun x=>qfP x.1 x.2.1 x.2.2.1,fun r=>((),(r,())),none⟩
abbrev qez:SG:=⟨[(1,.p 8 0 0),(2,.p 16 0 0),(3,.v (.int .i64)),(12,.v (.int .i64)),(16,.v (.sl (.sl qbB))),(17,.v (.int .i64)),(18,.v (.int .i64))],[(8,[.v (.int .i64),.v (.sl (.sl qbB))]),(16,[.v (.int .i64),.v (.int .i64),.v (.int .i64),.v (.int .i64)])],[],[]⟩
abbrev qfw:List (Ex×SG):=[(.exit 2,⟨[(1,.p 8 0 0),(2,.p 16 0 0),(12,.v (.int .i64))],[(8,[.v (.int .i64),.v (.sl (.sl qbB))]),(16,[.v (.int .i64),.v (.int .i64),.v (.int .i64),.v (.int .i64)])],[],[]⟩),(.ret,⟨[(2,.p 16 0 0)],[(16,[.v (.int .i64),.v (.int .i64),.v (.int .i64),.v (.int .i64)])],[],[]⟩)]
abbrev qkv:=((Int×Int×(List (List NODE))×Int×Int×Unit)×((Int×(List (List NODE))×Unit)×(Int×Int×Int×Int×Unit)×Unit))
abbrev qku:=(((Int×Unit)×((Int×(List (List NODE))×Unit)×(Int×Int×Int×Int×Unit)×Unit)) ⊕ (Unit×((Int×Int×Int×Int×Unit)×Unit)))
def qaH (g:qkv->Option qku):qkv->Option qku
 | ((rule_3,v_12,v_16,v_17,v_18,_),((b8_0,b8_1,_),(b16_0,b16_1,b16_2,b16_3,_),_))=>bif (decide (v_18<v_17)) then (bif decide (0<=v_18) then (v_16[v_18.toNat]?).bind fun x2=>bif (decide (rule_3=0)) then ((qfU x2 b8_0).bind fun r3=>bif (!decide (r3.2=0)) then ((qfP r3.2 v_18 r3.1).bind fun r4=>some (.inr ((()),((r4.1,r4.2.1,r4.2.2.1,r4.2.2.2,()),())))) else (g ((rule_3,v_12,v_16,v_17,(iadd .i64 v_18 1),()),((b8_0,b8_1,()),(b16_0,b16_1,b16_2,b16_3,()),())))) else (bif (decide (rule_3=1)) then ((qim x2).bind fun r5=>bif (!decide (r5.2=0)) then ((qfP r5.2 v_18 r5.1).bind fun r6=>some (.inr ((()),((r6.1,r6.2.1,r6.2.2.1,r6.2.2.2,()),())))) else (g ((rule_3,v_12,v_16,v_17,(iadd .i64 v_18 1),()),((b8_0,b8_1,()),(b16_0,b16_1,b16_2,b16_3,()),())))) else (bif (decide (rule_3=2)) then ((qfV x2).bind fun r7=>bif (!decide (r7.2=0)) then ((qfP r7.2 v_18 r7.1).bind fun r8=>some (.inr ((()),((r8.1,r8.2.1,r8.2.2.1,r8.2.2.2,()),())))) else (g ((rule_3,v_12,v_16,v_17,(iadd .i64 v_18 1),()),((b8_0,b8_1,()),(b16_0,b16_1,b16_2,b16_3,()),())))) else (bif (decide (rule_3=3)) then ((qia x2).bind fun r9=>bif (!decide (r9.2=0)) then ((qfP r9.2 v_18 r9.1).bind fun r10=>some (.inr ((()),((r10.1,r10.2.1,r10.2.2.1,r10.2.2.2,()),())))) else (g ((rule_3,v_12,v_16,v_17,(iadd .i64 v_18 1),()),((b8_0,b8_1,()),(b16_0,b16_1,b16_2,b16_3,()),())))) else (bif (!decide ((0:Int)=0)) then ((qfP 0 v_18 0).bind fun r11=>some (.inr ((()),((r11.1,r11.2.1,r11.2.2.1,r11.2.2.2,()),())))) else (g ((rule_3,v_12,v_16,v_17,(iadd .i64 v_18 1),()),((b8_0,b8_1,()),(b16_0,b16_1,b16_2,b16_3,()),()))))))) else none) else (some (.inl ((v_12,()),((b8_0,b8_1,()),(b16_0,b16_1,b16_2,b16_3,()),()))))
abbrev qeA:SG:=⟨[(1,.p 8 0 0),(2,.p 16 0 0),(12,.v (.int .i64))],[(8,[.v (.int .i64),.v (.sl (.sl qbB))]),(16,[.v (.int .i64),.v (.int .i64),.v (.int .i64),.v (.int .i64)])],[],[]⟩
abbrev qfx:List (Ex×SG):=[(.exit 0,⟨[(2,.p 16 0 0)],[(16,[.v (.int .i64),.v (.int .i64),.v (.int .i64),.v (.int .i64)])],[],[]⟩),(.ret,⟨[(2,.p 16 0 0)],[(16,[.v (.int .i64),.v (.int .i64),.v (.int .i64),.v (.int .i64)])],[],[]⟩)]
abbrev qkx:=((Int×Unit)×((Int×(List (List NODE))×Unit)×(Int×Int×Int×Int×Unit)×Unit))
abbrev qkw:=((Unit×((Int×Int×Int×Int×Unit)×Unit)) ⊕ (Unit×((Int×Int×Int×Int×Unit)×Unit)))
def qbJ (g:qkx->Option qkw):qkx->Option qkw
 | ((v_12,_),((b8_0,b8_1,_),(b16_0,b16_1,b16_2,b16_3,_),_))=>bif (decide (v_12<4)) then ((lp qaH K0 ((v_12,v_12,b8_1,(b8_1.length:Int),0,()),((b8_0,b8_1,()),(b16_0,b16_1,b16_2,b16_3,()),()))).bind fun t12=>(match t12 with | .inl t13=>g (((iadd .i64 t13.1.1 1),()),((t13.2.1.1,t13.2.1.2.1,()),(t13.2.2.1.1,t13.2.2.1.2.1,t13.2.2.1.2.2.1,t13.2.2.1.2.2.2.1,()),())) | .inr t14=>some (.inr ((()),((t14.2.1.1,t14.2.1.2.1,t14.2.1.2.2.1,t14.2.1.2.2.2.1,()),()))))) else (some (.inl ((()),((b16_0,b16_1,b16_2,b16_3,()),()))))
def qg2 (m_0:qaL):Option (Int×Int×Int×Int) :=
 (qjN m_0).bind fun r1=>bif (!r1) then (some (1,(0,(0,0)))) else ((lp qbJ K0 ((0,()),((m_0.1,m_0.2,()),(0,0,0,0,()),()))).bind fun t15=>(match t15 with | .inl t16=>some (0,(0,(0,0))) | .inr t17=>some (t17.2.1.1,(t17.2.1.2.1,(t17.2.1.2.2.1,t17.2.1.2.2.2.1)))))
def c50:Ctr:=⟨[(qfz,.imm)],[((.pair (.int .i64) (.pair (.int .i64) (.pair (.int .i64) (.int .i64)))),false)],(Int×Int×Int×Int),fun x=>qg2 x.1,fun r=>((),(r,())),none⟩
def qeG (m_0:qaL):Option Bool :=
 (qg2 m_0).bind fun r1=>some (decide (r1.1=0)&&(decide (r1.2.1=0)&&(decide (r1.2.2.1=0)&&(decide (r1.2.2.2=0)&&true))))
def c25:Ctr:=⟨[(qfz,.imm)],[(.bool,false)],Bool,fun x=>qeG x.1,fun r=>((),(r,())),none⟩
def qpf (m_0:qaL) (row_1:List CELL):Option Int :=
 (qeG m_0).bind fun r1=>bif (!r1) then (some 1) else (bif (!decide ((row_1.length:Int)=m_0.1)) then (some 14) else (some 0))
def qeB (m_0:qaL) (row_1:List CELL):Option Int :=
 (qeG m_0).bind fun r1=>bif (!r1) then (some 1) else (bif (!decide ((row_1.length:Int)=m_0.1)) then (some 14) else (some 0))
def c44:Ctr:=⟨[(qfz,.imm),((.sl qaE),.imm)],[((.int .i64),false)],Int,fun x=>qeB x.1 x.2.1,fun r=>((),(r,())),none⟩
def qcO (m_0:qaL) (row_1:List CELL):Option Int :=
 (qeB m_0 row_1).bind fun r1=>some r1
def c29:Ctr:=⟨[(qfz,.imm),((.sl qaE),.imm)],[((.int .i64),false)],Int,fun x=>qcO x.1 x.2.1,fun r=>((),(r,())),none⟩
def qjc (a_0:WH):Option WH :=
 (qbM a_0).bind fun r1=>(qdU (!r1.1) r1.2).bind fun r2=>some r2
def c73:Ctr:=⟨[(tWH,.imm)],[(tWH,false)],WH,fun x=>qjc x.1,fun r=>((),(r,())),none⟩
def qis (a_0:RAT):Option RAT :=
 (qbC a_0).bind fun r1=>(qjc r1.1).bind fun r2=>some (r2,r1.2)
def c47:Ctr:=⟨[(tRAT,.imm)],[(tRAT,false)],RAT,fun x=>qis x.1,fun r=>((),(r,())),none⟩
def qhm (a_0:RAT) (b_1:RAT):Option RAT :=
 (qis b_1).bind fun r1=>(qdz a_0 r1).bind fun r2=>some r2
def c22:Ctr:=⟨[(tRAT,.imm),(tRAT,.imm)],[(tRAT,false)],RAT,fun x=>qhm x.1 x.2.1,fun r=>((),(r,())),none⟩
def qiO (n_0:Int):Option WH :=
 bif (decide (n_0<0)) then ((qle (ineg .u64 (IntKind.wrap .u64 n_0))).bind fun r1=>(qdU true r1).bind fun r2=>some r2) else ((qle (IntKind.wrap .u64 n_0)).bind fun r3=>(qdU false r3).bind fun r4=>some r4)
def c51:Ctr:=⟨[((.int .i64),.imm)],[(tWH,false)],WH,fun x=>qiO x.1,fun r=>((),(r,())),none⟩
def qie (num_0:WH) (den_1:WH):Option (RAT×Int) :=
 (qbM num_0).bind fun r1=>(qbM den_1).bind fun r2=>(qh9 r2).bind fun r3=>bif (decide (r3=0)) then (some (((false,[]),[]),2)) else (bif r2.1 then ((qjc r1).bind fun r4=>(qeC r4 r2.2).bind fun r5=>some (r5,0)) else ((qeC r1 r2.2).bind fun r6=>some (r6,0)))
def c52:Ctr:=⟨[(tWH,.imm),(tWH,.imm)],[(tRAT,false),((.int .i64),false)],RAT×Int,fun x=>qie x.1 x.2.1,fun r=>((),(r.1,r.2,())),none⟩
def qdc (n_0:Int) (d_1:Int):Option RAT :=
 (qiO n_0).bind fun r1=>(qiO d_1).bind fun r2=>(qie r1 r2).bind fun r3=>(qbC r3.1).bind fun r4=>some r4
def c28:Ctr:=⟨[((.int .i64),.imm),((.int .i64),.imm)],[(tRAT,false)],RAT,fun x=>qdc x.1 x.2.1,fun r=>((),(r,())),none⟩
abbrev qdd:SG:=⟨[(3,.o tRAT 31),(4,.v (.int .i64)),(5,.v (.int .i64))],[],[],[]⟩
abbrev qd2:List (Ex×SG):=[(.exit 0,⟨[(3,.o tRAT 31)],[],[],[]⟩)]
def qbt (g:(((List RAT)×Int×Int×Unit)×Unit)->Option (((List RAT)×Unit)×Unit)):(((List RAT)×Int×Int×Unit)×Unit)->Option (((List RAT)×Unit)×Unit)
 | ((out_3,v_4,v_5,_),_)=>bif (decide (v_5<v_4)) then ((qeD ).bind fun r1=>bif Nat.ble ((out_3.length+1)*56) 140737488355328&&!false then g (((out_3++([r1]:List RAT)),v_4,(iadd .i64 v_5 1),()),()) else none) else (some ((out_3,()),()))
def qfB (n_0:Int):Option (List RAT) :=
 (lp qbt K0 (([],n_0,0,()),())).bind fun t2=>some t2.1.1
def c64:Ctr:=⟨[((.int .i64),.imm)],[((.sl tRAT),true)],(List RAT),fun x=>qfB x.1,fun r=>((),(r,())),none⟩
def qiQ (n_0:Int):Option RAT :=
 (qiO n_0).bind fun r1=>(qle 1).bind fun r2=>some (r1,r2)
def c27:Ctr:=⟨[((.int .i64),.imm)],[(tRAT,false)],RAT,fun x=>qiQ x.1,fun r=>((),(r,())),none⟩
def qgk :Option RAT :=
 (qiQ 1).bind fun r1=>some r1
def c26:Ctr:=⟨[],[(tRAT,false)],RAT,fun x=>qgk ,fun r=>((),(r,())),none⟩
def qhp :Option (List (Int×RAT×CELL)) :=
 (qgk ).bind fun r1=>(qgk ).bind fun r2=>some ([((-1),(r1,(true,r2)))]:List (Int×RAT×CELL))
abbrev w93:Wir:=⟨[],[],0,some 1,[],[],0⟩
def c93:Ctr:=⟨[],[((.sl (.pair (.int .i64) (.pair tRAT qaE))),true)],(List (Int×RAT×CELL)),fun x=>qhp ,fun r=>((),(r,())),some w93⟩
def qaw (a_0:RAT) (b_1:RAT):Option RAT :=
 (qbC a_0).bind fun r1=>(qbC b_1).bind fun r2=>(qfu r1.1 r2.1).bind fun r3=>(qlf r1.2 r2.2).bind fun r4=>(qeC r3 r4).bind fun r5=>some r5
def c54:Ctr:=⟨[(tRAT,.imm),(tRAT,.imm)],[(tRAT,false)],RAT,fun x=>qaw x.1 x.2.1,fun r=>((),(r,())),none⟩
abbrev qbT:SG:=⟨[(0,.p 232 0 0),(1,.v (.int .i64)),(13,.v (.int .i64)),(14,.v (.int .i64))],[(232,[.o (.pair (.int .i64) (.pair tRAT qaE)) 1232])],[(12,(232,0))],[]⟩
abbrev qcC:List (Ex×SG):=[(.exit 0,⟨[(0,.p 232 0 0)],[(232,[.o (.pair (.int .i64) (.pair tRAT qaE)) 1232])],[],[]⟩),(.ret,⟨[(0,.p 232 0 0),(4,.v (.int .i64))],[(232,[.o (.pair (.int .i64) (.pair tRAT qaE)) 1232])],[],[]⟩)]
abbrev qgn:=((Int×Int×Int×Unit)×(((List (Int×RAT×CELL))×Unit)×Unit))
abbrev qgm:=((Unit×(((List (Int×RAT×CELL))×Unit)×Unit)) ⊕ ((Int×Unit)×(((List (Int×RAT×CELL))×Unit)×Unit)))
def qam (g:qgn->Option qgm):qgn->Option qgm
 | ((feature_1,v_13,v_14,_),((b232_0,_),_))=>bif (decide (v_14<v_13)) then (bif decide (0<=v_14)&&decide (v_14<(b232_0.length:Int)) then (b232_0[v_14.toNat]?).bind fun x1=>bif (decide (v_14>0)) then (bif (decide (x1.1=feature_1)) then (some (.inr ((v_14,()),((b232_0,()),())))) else (g ((feature_1,v_13,(iadd .i64 v_14 1),()),((b232_0,()),())))) else (g ((feature_1,v_13,(iadd .i64 v_14 1),()),((b232_0,()),()))) else none) else (some (.inl ((()),((b232_0,()),()))))
def qbE (feature_0:Int) (b_1:List (Int×RAT×CELL)):Option (Int×(List (Int×RAT×CELL))) :=
 (lp qam K0 ((feature_0,(b_1.length:Int),0,()),((b_1,()),()))).bind fun t2=>(match t2 with | .inl t3=>some (0,t3.2.1.1) | .inr t4=>some (t4.1.1,t4.2.1.1))
abbrev w114:Wir:=⟨[.b,.x],[[.x]],1,none,[],[],0⟩
def c114:Ctr:=⟨[((.int .i64),.imm),((.sl (.pair (.int .i64) (.pair tRAT qaE))),.own)],[((.int .i64),false),((.sl (.pair (.int .i64) (.pair tRAT qaE))),true)],Int×(List (Int×RAT×CELL)),fun x=>qbE x.1 x.2.1,fun r=>((),(r.1,r.2,())),some w114⟩
abbrev qbI:SG:=⟨[(0,.p 256 0 0),(3,.o qkP 31),(12,.v (.int .i64)),(13,.v (.int .i64))],[(256,[.o (.pair (.int .i64) (.pair tRAT qaE)) 1256])],[(11,(256,0))],[]⟩
abbrev qct:List (Ex×SG):=[(.exit 0,⟨[(0,.p 256 0 0),(3,.o qkP 31)],[(256,[.o (.pair (.int .i64) (.pair tRAT qaE)) 1256])],[],[]⟩)]
abbrev qf0:=(((List PART)×Int×Int×Unit)×(((List (Int×RAT×CELL))×Unit)×Unit))
abbrev qfZ:=(((List PART)×Unit)×(((List (Int×RAT×CELL))×Unit)×Unit))
def qaF (g:qf0->Option qfZ):qf0->Option qfZ
 | ((out_3,v_12,v_13,_),((b256_0,_),_))=>bif (decide (v_13<v_12)) then (bif decide (0<=v_13)&&decide (v_13<(b256_0.length:Int)) then (b256_0[v_13.toNat]?).bind fun x1=>bif (decide (v_13>0)) then (bif Nat.ble ((out_3.length+1)*72) 140737488355328&&!false then g (((out_3++([(x1.1,(x1.2.1,x1.2.2.1))]:List PART)),v_12,(iadd .i64 v_13 1),()),((b256_0,()),())) else none) else (g ((out_3,v_12,(iadd .i64 v_13 1),()),((b256_0,()),()))) else none) else (some ((out_3,()),((b256_0,()),())))
def qcv (b_0:List (Int×RAT×CELL)):Option ((List PART)×(List (Int×RAT×CELL))) :=
 (lp qaF K0 (([],(b_0.length:Int),0,()),((b_0,()),()))).bind fun t2=>some (t2.1.1,t2.2.1.1)
abbrev w115:Wir:=⟨[.b],[[.x]],1,none,[],[],0⟩
def c115:Ctr:=⟨[((.sl (.pair (.int .i64) (.pair tRAT qaE))),.own)],[((.sl qkP),true),((.sl (.pair (.int .i64) (.pair tRAT qaE))),true)],(List PART)×(List (Int×RAT×CELL)),fun x=>qcv x.1,fun r=>((),(r.1,r.2,())),some w115⟩
def qjs (a_0:RAT):Option (RAT×Int) :=
 (qbC a_0).bind fun r1=>(qfA r1).bind fun r2=>(qie r2 r1.1).bind fun r3=>some (r3.1,r3.2)
def c128:Ctr:=⟨[(tRAT,.imm)],[(tRAT,false),((.int .i64),false)],RAT×Int,fun x=>qjs x.1,fun r=>((),(r.1,r.2,())),none⟩
abbrev qbk:SG:=⟨[(0,.p 832 0 0),(5,.v (.int .i64)),(6,.p 48 0 0),(7,.o tRAT 63),(8,.p 64 0 0),(10,.p 80 0 0),(11,.v (.int .i64))],[(48,[.v (.int .i64),.v .bool,.v (.sl (.int .u64)),.v (.sl (.int .u64)),.v .bool,.v .bool,.v (.sl (.int .u64)),.v (.sl (.int .u64))]),(64,[.v .bool,.v (.sl (.int .u64)),.v (.sl (.int .u64))]),(80,[.v .bool,.v (.sl (.int .u64)),.v (.sl (.int .u64))]),(832,[.o (.pair (.int .i64) (.pair tRAT qaE)) 1832])],[],[]⟩
abbrev qbR:List (Ex×SG):=[(.exit 0,⟨[(0,.p 832 0 0),(7,.o tRAT 63)],[(832,[.o (.pair (.int .i64) (.pair tRAT qaE)) 1832])],[],[]⟩)]
abbrev qfn:=((Int×(List RAT)×Int×Unit)×((Int×Bool×(List Int)×(List Int)×Bool×Bool×(List Int)×(List Int)×Unit)×(Bool×(List Int)×(List Int)×Unit)×(Bool×(List Int)×(List Int)×Unit)×((List (Int×RAT×CELL))×Unit)×Unit))
abbrev qfm:=(((List RAT)×Unit)×(((List (Int×RAT×CELL))×Unit)×Unit))
def qap (g:qfn->Option qfm):qfn->Option qfm
 | ((v_5,v_7,v_11,_),((b48_0,b48_1,b48_2,b48_3,b48_4,b48_5,b48_6,b48_7,_),(b64_0,b64_1,b64_2,_),(b80_0,b80_1,b80_2,_),(b832_0,_),_))=>bif (decide (v_11>=0)) then (bif (!b48_4) then (bif decide (0<=v_11)&&decide (v_11<(b832_0.length:Int)) then (b832_0[v_11.toNat]?).bind fun x4=>(qdc (iadd .i64 v_5 1) (isub .i64 v_5 v_11)).bind fun r5=>(qaw x4.2.2.2 r5).bind fun r6=>(qaw r6 ((b64_0,b64_1),b64_2)).bind fun r7=>bif decide (0<=v_11)&&decide (v_11<(v_7.length:Int)) then (v_7[v_11.toNat]?).bind fun _=>g ((v_5,(v_7.set v_11.toNat r7),(isub .i64 v_11 1),()),((b48_0,b48_1,b48_2,b48_3,b48_4,b48_5,b48_6,b48_7,()),(b64_0,b64_1,b64_2,()),(b80_0,b80_1,b80_2,()),(b832_0,()),())) else none else none) else ((qdc (iadd .i64 v_5 1) (iadd .i64 v_11 1)).bind fun r9=>(qaw ((b80_0,b80_1),b80_2) r9).bind fun r10=>bif decide (0<=v_11)&&decide (v_11<(v_7.length:Int)) then (v_7[v_11.toNat]?).bind fun _=>bif decide (0<=v_11)&&decide (v_11<(b832_0.length:Int)) then (b832_0[v_11.toNat]?).bind fun x12=>bif decide (0<=v_11)&&decide (v_11<((v_7.set v_11.toNat r10).length:Int)) then ((v_7.set v_11.toNat r10)[v_11.toNat]?).bind fun x13=>(qaw x13 ((b48_1,b48_2),b48_3)).bind fun r14=>(qdc (isub .i64 v_5 v_11) (iadd .i64 v_5 1)).bind fun r15=>(qaw r14 r15).bind fun r16=>(qhm x12.2.2.2 r16).bind fun r17=>g ((v_5,(v_7.set v_11.toNat r10),(isub .i64 v_11 1),()),((b48_0,b48_1,b48_2,b48_3,b48_4,b48_5,b48_6,b48_7,()),(b64_0,b64_1,b64_2,()),(r17.1.1,r17.1.2,r17.2,()),(b832_0,()),())) else none else none else none)) else (some ((v_7,()),((b832_0,()),())))
def qbS (a_0:Int) (b_1:List (Int×RAT×CELL)):Option ((List RAT)×(List (Int×RAT×CELL))) :=
 bif decide (0<=a_0)&&decide (a_0<(b_1.length:Int)) then (b_1[a_0.toNat]?).bind fun x1=>bif decide ((isub .i64 (b_1.length:Int) 1)=(isub .i64 (b_1.length:Int) 1))&&decide (0<=(isub .i64 (b_1.length:Int) 1))&&decide (((56:Nat):Int)*(isub .i64 (b_1.length:Int) 1)<=281474976710656)&&decide ((isub .i64 (b_1.length:Int) 1)<=9223372036854775807) then (qjs x1.2.1).bind fun r2=>bif decide (0<=(isub .i64 (b_1.length:Int) 1))&&decide ((isub .i64 (b_1.length:Int) 1)<(b_1.length:Int)) then (b_1[(isub .i64 (b_1.length:Int) 1).toNat]?).bind fun x3=>(lp qap K0 (((isub .i64 (b_1.length:Int) 1),(List.replicate (isub .i64 (b_1.length:Int) 1).toNat (((false,[]),[]):RAT)),(isub .i64 (isub .i64 (b_1.length:Int) 1) 1),()),((x1.1,x1.2.1.1.1,x1.2.1.1.2,x1.2.1.2,x1.2.2.1,x1.2.2.2.1.1,x1.2.2.2.1.2,x1.2.2.2.2,()),(r2.1.1.1,r2.1.1.2,r2.1.2,()),(x3.2.2.2.1.1,x3.2.2.2.1.2,x3.2.2.2.2,()),(b_1,()),()))).bind fun t18=>some (t18.1.1,t18.2.1.1) else none else none else none
abbrev w127:Wir:=⟨[.b,.x],[[.x]],1,none,[],[],0⟩
def c127:Ctr:=⟨[((.int .i64),.imm),((.sl (.pair (.int .i64) (.pair tRAT qaE))),.own)],[((.sl tRAT),true),((.sl (.pair (.int .i64) (.pair tRAT qaE))),true)],(List RAT)×(List (Int×RAT×CELL)),fun x=>qbS x.1 x.2.1,fun r=>((),(r.1,r.2,())),some w127⟩
abbrev qbx:SG:=⟨[(0,.p 528 0 0),(5,.o tRAT 47),(6,.o (.pair (.int .i64) (.pair tRAT qaE)) 55),(49,.v (.int .i64)),(50,.v (.int .i64))],[(528,[.o (.pair (.int .i64) (.pair tRAT qaE)) 1528])],[],[]⟩
abbrev qcg:List (Ex×SG):=[(.exit 0,⟨[(0,.p 528 0 0),(6,.o (.pair (.int .i64) (.pair tRAT qaE)) 55)],[(528,[.o (.pair (.int .i64) (.pair tRAT qaE)) 1528])],[],[]⟩)]
abbrev qfJ:=(((List RAT)×(List (Int×RAT×CELL))×Int×Int×Unit)×(((List (Int×RAT×CELL))×Unit)×Unit))
abbrev qfI:=(((List (Int×RAT×CELL))×Unit)×(((List (Int×RAT×CELL))×Unit)×Unit))
def qaA (g:qfJ->Option qfI):qfJ->Option qfI
 | ((v_5,v_6,v_49,v_50,_),((b528_0,_),_))=>bif (decide (v_50<v_49)) then (bif decide (0<=v_50)&&decide (v_50<(v_5.length:Int)) then (v_5[v_50.toNat]?).bind fun x2=>bif decide (0<=v_50)&&decide (v_50<(v_6.length:Int)) then (v_6[v_50.toNat]?).bind fun x3=>g ((v_5,(v_6.set v_50.toNat (x3.1,(x3.2.1,(x3.2.2.1,x2)))),v_49,(iadd .i64 v_50 1),()),((b528_0,()),())) else none else none) else (some ((v_6,()),((b528_0,()),())))
def qcn (a_0:Int) (b_1:List (Int×RAT×CELL)):Option (Int×(List (Int×RAT×CELL))) :=
 bif (decide ((b_1.length:Int)=0)) then (some (18,b_1)) else (bif (decide (a_0<1)) then (some (8,b_1)) else (bif (decide (a_0>=(b_1.length:Int))) then (some (8,b_1)) else ((qbS a_0 b_1).bind fun r1=>bif decide ((0:Int)<=a_0)&&decide ((a_0:Int)<=a_0)&&decide ((a_0:Int)<=(r1.2.length:Int)) then bif Nat.ble ((([]:List (Int×RAT×CELL)).length+(r1.2.take ((a_0-0).toNat)).length)*128) 140737488355328&&!false then bif decide (0<=(iadd .i64 a_0 1))&&decide (((iadd .i64 a_0 1):Int)<=(r1.2.length:Int)) then bif Nat.ble (((([]:List (Int×RAT×CELL))++(r1.2.take ((a_0-0).toNat))).length+(r1.2.drop ((iadd .i64 a_0 1).toNat)).length)*128) 140737488355328&&!false then (lp qaA K0 ((r1.1,((([]:List (Int×RAT×CELL))++(r1.2.take ((a_0-0).toNat)))++(r1.2.drop ((iadd .i64 a_0 1).toNat))),(((([]:List (Int×RAT×CELL))++(r1.2.take ((a_0-0).toNat)))++(r1.2.drop ((iadd .i64 a_0 1).toNat))).length:Int),0,()),((r1.2,()),()))).bind fun t4=>some (0,t4.1.1) else none else none else none else none)))
abbrev w116:Wir:=⟨[.b,.x],[[.x]],1,none,[],[],0⟩
def c116:Ctr:=⟨[((.int .i64),.imm),((.sl (.pair (.int .i64) (.pair tRAT qaE))),.own)],[((.int .i64),false),((.sl (.pair (.int .i64) (.pair tRAT qaE))),true)],Int×(List (Int×RAT×CELL)),fun x=>qcn x.1 x.2.1,fun r=>((),(r.1,r.2,())),some w116⟩
abbrev qbl:SG:=⟨[(0,.p 904 0 0),(3,.v .bool),(6,.p 48 0 0),(9,.v (.int .i64)),(10,.v (.int .i64))],[(48,[.v .bool,.v (.sl (.int .u64)),.v (.sl (.int .u64))]),(904,[.o (.pair (.int .i64) (.pair tRAT qaE)) 1904])],[],[]⟩
abbrev qbU:List (Ex×SG):=[(.exit 1,⟨[(0,.p 904 0 0)],[(904,[.o (.pair (.int .i64) (.pair tRAT qaE)) 1904])],[],[]⟩)]
abbrev qfp:=((Bool×Int×Int×Unit)×((Bool×(List Int)×(List Int)×Unit)×((List (Int×RAT×CELL))×Unit)×Unit))
abbrev qfo:=(Unit×(((List (Int×RAT×CELL))×Unit)×Unit))
def qaq (g:qfp->Option qfo):qfp->Option qfo
 | ((v_3,v_9,v_10,_),((b48_0,b48_1,b48_2,_),(b904_0,_),_))=>bif (decide (v_10>=0)) then (bif decide (0<=v_10)&&decide (v_10<(b904_0.length:Int)) then (b904_0[v_10.toNat]?).bind fun x5=>bif v_3 then (bif decide (0<=(iadd .i64 v_10 1))&&decide ((iadd .i64 v_10 1)<(b904_0.length:Int)) then (b904_0[(iadd .i64 v_10 1).toNat]?).bind fun x6=>(qdc (iadd .i64 v_10 1) (iadd .i64 v_9 1)).bind fun r7=>(qaw x5.2.2.2 r7).bind fun r8=>(qdz x6.2.2.2 r8).bind fun r9=>bif decide (0<=(iadd .i64 v_10 1))&&decide ((iadd .i64 v_10 1)<(b904_0.length:Int)) then (b904_0[(iadd .i64 v_10 1).toNat]?).bind fun x10=>(qaw ((b48_0,b48_1),b48_2) x5.2.2.2).bind fun r11=>(qdc (isub .i64 v_9 v_10) (iadd .i64 v_9 1)).bind fun r12=>(qaw r11 r12).bind fun r13=>bif decide (0<=v_10)&&decide (v_10<((b904_0.set ((iadd .i64 v_10 1).toNat) (x10.1,(x10.2.1,(x10.2.2.1,r9)))).length:Int)) then ((b904_0.set ((iadd .i64 v_10 1).toNat) (x10.1,(x10.2.1,(x10.2.2.1,r9))))[v_10.toNat]?).bind fun x14=>g ((v_3,v_9,(isub .i64 v_10 1),()),((b48_0,b48_1,b48_2,()),(((b904_0.set ((iadd .i64 v_10 1).toNat) (x10.1,(x10.2.1,(x10.2.2.1,r9)))).set v_10.toNat (x14.1,(x14.2.1,(x14.2.2.1,r13)))),()),())) else none else none else none) else ((qaw ((b48_0,b48_1),b48_2) x5.2.2.2).bind fun r15=>(qdc (isub .i64 v_9 v_10) (iadd .i64 v_9 1)).bind fun r16=>(qaw r15 r16).bind fun r17=>bif decide (0<=v_10)&&decide (v_10<(b904_0.length:Int)) then (b904_0[v_10.toNat]?).bind fun x18=>g ((v_3,v_9,(isub .i64 v_10 1),()),((b48_0,b48_1,b48_2,()),((b904_0.set v_10.toNat (x18.1,(x18.2.1,(x18.2.2.1,r17)))),()),())) else none) else none) else (some ((()),((b904_0,()),())))
def qaX (a_0:Int) (a_1:RAT) (a_2:Bool) (b_3:List (Int×RAT×CELL)):Option (Int×(List (Int×RAT×CELL))) :=
 bif (decide ((b_3.length:Int)=0)) then (some (18,b_3)) else (bif (decide (a_0<0)) then (some (1,b_3)) else ((qbE a_0 b_3).bind fun r1=>bif (decide (r1.1>0)) then (some (1,r1.2)) else ((qic a_1).bind fun r2=>bif (decide (r2<=0)) then (some (8,r1.2)) else ((qbC a_1).bind fun r3=>(qeD ).bind fun r4=>bif Nat.ble ((r1.2.length+1)*128) 140737488355328&&!false then (lp qaq K0 ((a_2,(r1.2.length:Int),(isub .i64 (r1.2.length:Int) 1),()),((a_1.1.1,a_1.1.2,a_1.2,()),((r1.2++([(a_0,(r3,(a_2,r4)))]:List (Int×RAT×CELL))),()),()))).bind fun t19=>some (0,t19.2.1.1) else none))))
abbrev w117:Wir:=⟨[.b,.x,.x,.x],[[.x]],1,none,[],[],0⟩
def c117:Ctr:=⟨[((.int .i64),.imm),(tRAT,.imm),(.bool,.imm),((.sl (.pair (.int .i64) (.pair tRAT qaE))),.own)],[((.int .i64),false),((.sl (.pair (.int .i64) (.pair tRAT qaE))),true)],Int×(List (Int×RAT×CELL)),fun x=>qaX x.1 x.2.1 x.2.2.1 x.2.2.2.1,fun r=>((),(r.1,r.2,())),some w117⟩
def qa3 (b_0:Int) (b_1:Bool) (b_2:List Int) (b_3:List Int) (b_4:Int) (b_5:Bool) (b_6:List Int) (b_7:List Int) (b_8:Bool) (b_9:List (Int×RAT×CELL)):Option (Int×Bool×(List Int)×(List Int)×Int×Bool×(List Int)×(List Int)×Bool×(List (Int×RAT×CELL))) :=
 bif (decide (b_4<0)) then (some (b_0,b_1,b_2,b_3,b_4,b_5,b_6,b_7,b_8,b_9)) else ((qbE b_4 b_9).bind fun r1=>bif (decide (r1.1>0)) then ((qcv r1.2).bind fun r2=>bif decide (0<=(isub .i64 r1.1 1))&&decide ((isub .i64 r1.1 1)<(r2.1.length:Int)) then (r2.1[(isub .i64 r1.1 1).toNat]?).bind fun x3=>(qaw ((b_5,b_6),b_7) x3.2.1).bind fun r4=>bif b_8 then ((qcn r1.1 r2.2).bind fun r5=>(qaX b_4 r4 x3.2.2 r5.2).bind fun r6=>some (b_0,b_1,b_2,b_3,b_4,b_5,b_6,b_7,b_8,r6.2)) else ((qcn r1.1 r2.2).bind fun r7=>(qaX b_4 r4 false r7.2).bind fun r8=>some (b_0,b_1,b_2,b_3,b_4,b_5,b_6,b_7,b_8,r8.2)) else none) else ((qaX b_4 ((b_5,b_6),b_7) b_8 r1.2).bind fun r9=>some (b_0,b_1,b_2,b_3,b_4,b_5,b_6,b_7,b_8,r9.2)))
abbrev w94:Wir:=⟨[.b],[[.x,.b,.x,.x,.x,.x,.x,.x,.x,.x],[.x]],0,none,[],[],0⟩
def c94:Ctr:=⟨[((.int .i64),.imm),(.bool,.imm),((.sl (.int .u64)),.imm),((.sl (.int .u64)),.imm),((.int .i64),.imm),(.bool,.imm),((.sl (.int .u64)),.imm),((.sl (.int .u64)),.imm),(.bool,.imm),((.sl (.pair (.int .i64) (.pair tRAT qaE))),.own)],[((.int .i64),false),(.bool,false),((.sl (.int .u64)),false),((.sl (.int .u64)),false),((.int .i64),false),(.bool,false),((.sl (.int .u64)),false),((.sl (.int .u64)),false),(.bool,false),((.sl (.pair (.int .i64) (.pair tRAT qaE))),true)],Int×Bool×(List Int)×(List Int)×Int×Bool×(List Int)×(List Int)×Bool×(List (Int×RAT×CELL)),fun x=>qa3 x.1 x.2.1 x.2.2.1 x.2.2.2.1 x.2.2.2.2.1 x.2.2.2.2.2.1 x.2.2.2.2.2.2.1 x.2.2.2.2.2.2.2.1 x.2.2.2.2.2.2.2.2.1 x.2.2.2.2.2.2.2.2.2.1,fun r=>((),(r.1,r.2.1,r.2.2.1,r.2.2.2.1,r.2.2.2.2.1,r.2.2.2.2.2.1,r.2.2.2.2.2.2.1,r.2.2.2.2.2.2.2.1,r.2.2.2.2.2.2.2.2.1,r.2.2.2.2.2.2.2.2.2,())),some w94⟩
abbrev qfW:SG:=⟨[(2,.p 16 0 0),(3,.p 24 0 0),(7,.v (.sl tRAT)),(8,.v (.int .i64)),(9,.v (.int .i64))],[(16,[.v .bool,.o (.int .u64) 18,.o (.int .u64) 19]),(24,[.v .bool,.v (.sl (.int .u64)),.v (.sl (.int .u64))])],[],[]⟩
abbrev qhl:List (Ex×SG):=[(.exit 0,⟨[(2,.p 16 0 0),(3,.p 24 0 0)],[(16,[.v .bool,.o (.int .u64) 18,.o (.int .u64) 19]),(24,[.v .bool,.v (.sl (.int .u64)),.v (.sl (.int .u64))])],[],[]⟩)]
abbrev qmz:=(((List RAT)×Int×Int×Unit)×((Bool×(List Int)×(List Int)×Unit)×(Bool×(List Int)×(List Int)×Unit)×Unit))
abbrev qmy:=(Unit×((Bool×(List Int)×(List Int)×Unit)×(Bool×(List Int)×(List Int)×Unit)×Unit))
def qdy (g:qmz->Option qmy):qmz->Option qmy
 | ((v_7,v_8,v_9,_),((b16_0,b16_1,b16_2,_),(b24_0,b24_1,b24_2,_),_))=>bif (decide (v_9<v_8)) then (bif decide (0<=v_9) then (v_7[v_9.toNat]?).bind fun x2=>(qdz ((b24_0,b24_1),b24_2) x2).bind fun r3=>g ((v_7,v_8,(iadd .i64 v_9 1),()),((b16_0,b16_1,b16_2,()),(r3.1.1,r3.1.2,r3.2,()),())) else none) else (some ((()),((b16_0,b16_1,b16_2,()),(b24_0,b24_1,b24_2,()),())))
def qjr (l_0:List RAT):Option RAT :=
 (qeD ).bind fun r1=>(lp qdy K0 ((l_0,(l_0.length:Int),0,()),((false,[],[],()),(r1.1.1,r1.1.2,r1.2,()),()))).bind fun t4=>some ((t4.2.2.1.1,t4.2.2.1.2.1),t4.2.2.1.2.2.1)
def c18:Ctr:=⟨[((.sl tRAT),.imm)],[(tRAT,false)],RAT,fun x=>qjr x.1,fun r=>((),(r,())),none⟩
def qd5 (at_0:Int) (b_1:List (Int×RAT×CELL)):Option (RAT×Int×(List (Int×RAT×CELL))) :=
 bif (decide ((b_1.length:Int)=0)) then (some (((false,[]),[]),18,b_1)) else (bif (decide (at_0<1)) then (some (((false,[]),[]),8,b_1)) else (bif (decide (at_0>=(b_1.length:Int))) then (some (((false,[]),[]),8,b_1)) else ((qbS at_0 b_1).bind fun r1=>(qjr r1.1).bind fun r2=>some (r2,0,r1.2))))
abbrev w118:Wir:=⟨[.b,.x],[[.x]],2,none,[],[],0⟩
def c118:Ctr:=⟨[((.int .i64),.imm),((.sl (.pair (.int .i64) (.pair tRAT qaE))),.own)],[(tRAT,false),((.int .i64),false),((.sl (.pair (.int .i64) (.pair tRAT qaE))),true)],RAT×Int×(List (Int×RAT×CELL)),fun x=>qd5 x.1 x.2.1,fun r=>((),(r.1,r.2.1,r.2.2,())),some w118⟩
abbrev qbw:SG:=⟨[(0,.p 552 0 0),(3,.p 24 0 0),(4,.p 32 0 0),(13,.p 552 0 0),(24,.o qkP 199),(25,.v (.int .i64)),(26,.v (.int .i64))],[(24,[.v (.int .i64),.p 553 0 0,.v .bool,.v (.sl (.int .u64)),.v (.sl (.int .u64)),.v (.int .i64),.v .bool,.v (.sl (.int .u64)),.v (.sl (.int .u64)),.v .bool]),(32,[.v .bool,.v (.sl (.int .u64)),.v (.sl (.int .u64))]),(552,[.v (.sl qbB),.v (.sl qaE),.v (.int .i64),.v .bool,.f tRAT 104,.h]),(553,[.o (.pair (.int .i64) (.pair tRAT qaE)) 1572])],[],[]⟩
abbrev qce:List (Ex×SG):=[(.exit 0,⟨[(0,.p 552 0 0),(13,.p 552 0 0)],[(552,[.v (.sl qbB),.v (.sl qaE),.v (.int .i64),.v .bool,.f tRAT 104,.h]),(553,[.o (.pair (.int .i64) (.pair tRAT qaE)) 1572])],[],[]⟩)]
abbrev qfH:=(((List PART)×Int×Int×Unit)×((Int×Bool×(List Int)×(List Int)×Int×Bool×(List Int)×(List Int)×Bool×Unit)×(Bool×(List Int)×(List Int)×Unit)×((List NODE)×(List CELL)×Int×Bool×(List RAT)×Unit)×((List (Int×RAT×CELL))×Unit)×Unit))
abbrev qfG:=(Unit×(((List NODE)×(List CELL)×Int×Bool×(List RAT)×Unit)×((List (Int×RAT×CELL))×Unit)×Unit))
def qas (g:qfH->Option qfG):qfH->Option qfG
 | ((v_24,v_25,v_26,_),((b24_0,b24_2,b24_3,b24_4,b24_5,b24_6,b24_7,b24_8,b24_9,_),(b32_0,b32_1,b32_2,_),(b552_0,b552_1,b552_2,b552_3,b552_4,_),(b553_0,_),_))=>bif (decide (v_26<v_25)) then (bif decide (0<=v_26)&&decide (v_26<(v_24.length:Int)) then (v_24[v_26.toNat]?).bind fun x4=>(qd5 (iadd .i64 v_26 1) b553_0).bind fun r5=>(qis x4.2.1).bind fun r6=>bif x4.2.2 then ((qgk ).bind fun r7=>(qdz r7 r6).bind fun r8=>bif decide (0<=x4.1)&&decide (x4.1<(b552_4.length:Int)) then (b552_4[x4.1.toNat]?).bind fun x9=>(qaw r5.1 r8).bind fun r10=>(qaw r10 ((b32_0,b32_1),b32_2)).bind fun r11=>(qdz x9 r11).bind fun r12=>bif decide (0<=x4.1)&&decide (x4.1<(b552_4.length:Int)) then (b552_4[x4.1.toNat]?).bind fun _=>g ((v_24,v_25,(iadd .i64 v_26 1),()),((b24_0,b24_2,b24_3,b24_4,b24_5,b24_6,b24_7,b24_8,b24_9,()),(b32_0,b32_1,b32_2,()),(b552_0,b552_1,b552_2,b552_3,(b552_4.set x4.1.toNat r12),()),(r5.2.2,()),())) else none else none) else (bif decide (0<=x4.1)&&decide (x4.1<(b552_4.length:Int)) then (b552_4[x4.1.toNat]?).bind fun x14=>(qaw r5.1 r6).bind fun r15=>(qaw r15 ((b32_0,b32_1),b32_2)).bind fun r16=>(qdz x14 r16).bind fun r17=>bif decide (0<=x4.1)&&decide (x4.1<(b552_4.length:Int)) then (b552_4[x4.1.toNat]?).bind fun _=>g ((v_24,v_25,(iadd .i64 v_26 1),()),((b24_0,b24_2,b24_3,b24_4,b24_5,b24_6,b24_7,b24_8,b24_9,()),(b32_0,b32_1,b32_2,()),(b552_0,b552_1,b552_2,b552_3,(b552_4.set x4.1.toNat r17),()),(r5.2.2,()),())) else none else none) else none) else (some ((()),((b552_0,b552_1,b552_2,b552_3,b552_4,()),(b553_0,()),())))
def qbD (a_0:Int) (a_1:Bool) (a_2:List Int) (a_3:List Int) (a_4:Int) (a_5:Bool) (a_6:List Int) (a_7:List Int) (a_8:Bool) (b_9:List NODE) (b_10:List CELL) (b_11:Int) (b_12:Bool) (b_13:List RAT) (b_14:List (Int×RAT×CELL)):Option ((List RAT)×(List NODE)×(List CELL)×Int×Bool×(List (Int×RAT×CELL))) :=
 bif decide (0<=a_0) then (b_9[a_0.toNat]?).bind fun x1=>(qaw ((a_1,a_2),a_3) x1.2.2.2.2.2.2.1).bind fun r2=>(qcv b_14).bind fun r3=>(lp qas K0 ((r3.1,(r3.1.length:Int),0,()),((a_0,a_1,a_2,a_3,a_4,a_5,a_6,a_7,a_8,()),(r2.1.1,r2.1.2,r2.2,()),(b_9,b_10,b_11,b_12,b_13,()),(r3.2,()),()))).bind fun t19=>(bif Nat.beq t19.2.1.2.2.2.2.1.length b_13.length then some (t19.2.1.2.2.2.2.1,()) else none).bind fun l20=>some (l20.1,t19.2.1.1,t19.2.1.2.1,t19.2.1.2.2.1,t19.2.1.2.2.2.1,t19.2.2.1.1) else none
abbrev w95:Wir:=⟨[.b,.x,.b,.x,.x,.x,.x,.x,.x,.x,.x],[[.x,.x,.x,.x,.l,.h],[.x]],0,none,[.x,.g 10],[],0⟩
def c95:Ctr:=⟨[((.int .i64),.imm),(.bool,.imm),((.sl (.int .u64)),.imm),((.sl (.int .u64)),.imm),((.int .i64),.imm),(.bool,.imm),((.sl (.int .u64)),.imm),((.sl (.int .u64)),.imm),(.bool,.imm),((.sl qbB),.imm),((.sl qaE),.imm),((.int .i64),.imm),(.bool,.imm),((.sl tRAT),.lent),((.sl (.pair (.int .i64) (.pair tRAT qaE))),.own)],[((.sl qbB),false),((.sl qaE),false),((.int .i64),false),(.bool,false),((.sl (.pair (.int .i64) (.pair tRAT qaE))),true)],(List RAT)×(List NODE)×(List CELL)×Int×Bool×(List (Int×RAT×CELL)),fun x=>qbD x.1 x.2.1 x.2.2.1 x.2.2.2.1 x.2.2.2.2.1 x.2.2.2.2.2.1 x.2.2.2.2.2.2.1 x.2.2.2.2.2.2.2.1 x.2.2.2.2.2.2.2.2.1 x.2.2.2.2.2.2.2.2.2.1 x.2.2.2.2.2.2.2.2.2.2.1 x.2.2.2.2.2.2.2.2.2.2.2.1 x.2.2.2.2.2.2.2.2.2.2.2.2.1 x.2.2.2.2.2.2.2.2.2.2.2.2.2.1 x.2.2.2.2.2.2.2.2.2.2.2.2.2.2.1,fun r=>((r.1,()),(r.2.1,r.2.2.1,r.2.2.2.1,r.2.2.2.2.1,r.2.2.2.2.2,())),some w95⟩
def qjn (n_0:NODE) (c_1:CELL):Option Bool :=
 bif c_1.1 then (some n_0.2.2.2.2.2.1) else ((qhn c_1.2 n_0.2.2.1).bind fun r1=>some (decide (r1<0)))
def c106:Ctr:=⟨[(qbB,.imm),(qaE,.imm)],[(.bool,false)],Bool,fun x=>qjn x.1 x.2.1,fun r=>((),(r,())),none⟩
def qjo (n_0:NODE) (c_1:CELL):Option Bool :=
 bif (!n_0.1) then ((qjn n_0 c_1).bind fun r1=>some r1) else (some false)
def c109:Ctr:=⟨[(qbB,.imm),(qaE,.imm)],[(.bool,false)],Bool,fun x=>qjo x.1 x.2.1,fun r=>((),(r,())),none⟩
def qjt (a_0:RAT) (b_1:RAT):Option (RAT×Int) :=
 (qjs b_1).bind fun r1=>bif (!decide (r1.2=0)) then (some (((false,[]),[]),r1.2)) else ((qaw a_0 r1.1).bind fun r2=>some (r2,0))
def c119:Ctr:=⟨[(tRAT,.imm),(tRAT,.imm)],[(tRAT,false),((.int .i64),false)],RAT×Int,fun x=>qjt x.1 x.2.1,fun r=>((),(r.1,r.2,())),none⟩
def qdA (b_0:List (Int×RAT×CELL)):Option ((List (Int×RAT×CELL))×(List (Int×RAT×CELL))) :=
 bif Nat.ble ((([]:List (Int×RAT×CELL)).length+b_0.length)*128) 140737488355328&&!false then some (b_0,(([]:List (Int×RAT×CELL))++b_0)) else none
abbrev w120:Wir:=⟨[.b],[[.x]],0,some 1,[],[],0⟩
def c120:Ctr:=⟨[((.sl (.pair (.int .i64) (.pair tRAT qaE))),.own)],[((.sl (.pair (.int .i64) (.pair tRAT qaE))),true),((.sl (.pair (.int .i64) (.pair tRAT qaE))),true)],(List (Int×RAT×CELL))×(List (Int×RAT×CELL)),fun x=>qdA x.1,fun r=>((),(r.1,r.2,())),some w120⟩
def qbQ (a_0:Int) (a_1:Bool) (a_2:List Int) (a_3:List Int) (a_4:Int) (a_5:Bool) (a_6:List Int) (a_7:List Int) (a_8:Bool) (a_9:Int) (a_10:Bool) (b_11:List NODE) (b_12:List CELL) (b_13:Int) (b_14:Bool) (b_15:List RAT) (b_16:List (Int×RAT×CELL)):Option ((List RAT)×Int×Bool×(List Int)×(List Int)×Int×Bool×(List Int)×(List Int)×Bool×Bool×(List NODE)×(List CELL)×Int×Bool×(List (Int×RAT×CELL))×(List (Int×RAT×CELL))) :=
 bif decide (0<=a_0) then (b_11[a_0.toNat]?).bind fun x1=>bif decide (0<=a_9) then (b_11[a_9.toNat]?).bind fun x2=>(qjt x2.2.2.2.2.2.2.2 x1.2.2.2.2.2.2.2).bind fun r3=>bif decide (0<=x1.2.1) then (b_12[x1.2.1.toNat]?).bind fun x4=>(qjo x1 x4).bind fun r5=>(qdA b_16).bind fun r6=>bif (!decide (x1.2.1=b_13)) then ((bif Nat.beq b_15.length b_15.length then some (b_15,()) else none).bind fun l7=>some (l7.1,a_9,a_1,a_2,a_3,x1.2.1,r3.1.1.1,r3.1.1.2,r3.1.2,(r5 == a_10),true,b_11,b_12,b_13,b_14,r6.1,r6.2)) else (bif b_14 then ((bif Nat.beq b_15.length b_15.length then some (b_15,()) else none).bind fun l8=>some (l8.1,a_9,a_1,a_2,a_3,(-1),r3.1.1.1,r3.1.1.2,r3.1.2,(r5 == a_10),(r5 == a_10),b_11,b_12,b_13,b_14,r6.1,r6.2)) else ((qaw ((a_1,a_2),a_3) r3.1).bind fun r9=>(bif Nat.beq b_15.length b_15.length then some (b_15,()) else none).bind fun l10=>some (l10.1,a_9,r9.1.1,r9.1.2,r9.2,(-1),r3.1.1.1,r3.1.1.2,r3.1.2,(r5 == a_10),true,b_11,b_12,b_13,b_14,r6.1,r6.2))) else none else none else none
abbrev w96:Wir:=⟨[.b,.x,.b,.x,.x,.x,.x,.x,.x,.x,.x,.x,.x],[[.x,.x,.x,.x,.l,.h],[.x]],10,some 1,[.x,.g 10,.x,.x],[.g 10,.x],1⟩
def c96:Ctr:=⟨[((.int .i64),.imm),(.bool,.imm),((.sl (.int .u64)),.imm),((.sl (.int .u64)),.imm),((.int .i64),.imm),(.bool,.imm),((.sl (.int .u64)),.imm),((.sl (.int .u64)),.imm),(.bool,.imm),((.int .i64),.imm),(.bool,.imm),((.sl qbB),.imm),((.sl qaE),.imm),((.int .i64),.imm),(.bool,.imm),((.sl tRAT),.lent),((.sl (.pair (.int .i64) (.pair tRAT qaE))),.own)],[((.int .i64),false),(.bool,false),((.sl (.int .u64)),false),((.sl (.int .u64)),false),((.int .i64),false),(.bool,false),((.sl (.int .u64)),false),((.sl (.int .u64)),false),(.bool,false),(.bool,false),((.sl qbB),false),((.sl qaE),false),((.int .i64),false),(.bool,false),((.sl (.pair (.int .i64) (.pair tRAT qaE))),true),((.sl (.pair (.int .i64) (.pair tRAT qaE))),true)],(List RAT)×Int×Bool×(List Int)×(List Int)×Int×Bool×(List Int)×(List Int)×Bool×Bool×(List NODE)×(List CELL)×Int×Bool×(List (Int×RAT×CELL))×(List (Int×RAT×CELL)),fun x=>qbQ x.1 x.2.1 x.2.2.1 x.2.2.2.1 x.2.2.2.2.1 x.2.2.2.2.2.1 x.2.2.2.2.2.2.1 x.2.2.2.2.2.2.2.1 x.2.2.2.2.2.2.2.2.1 x.2.2.2.2.2.2.2.2.2.1 x.2.2.2.2.2.2.2.2.2.2.1 x.2.2.2.2.2.2.2.2.2.2.2.1 x.2.2.2.2.2.2.2.2.2.2.2.2.1 x.2.2.2.2.2.2.2.2.2.2.2.2.2.1 x.2.2.2.2.2.2.2.2.2.2.2.2.2.2.1 x.2.2.2.2.2.2.2.2.2.2.2.2.2.2.2.1 x.2.2.2.2.2.2.2.2.2.2.2.2.2.2.2.2.1,fun r=>((r.1,()),(r.2.1,r.2.2.1,r.2.2.2.1,r.2.2.2.2.1,r.2.2.2.2.2.1,r.2.2.2.2.2.2.1,r.2.2.2.2.2.2.2.1,r.2.2.2.2.2.2.2.2.1,r.2.2.2.2.2.2.2.2.2.1,r.2.2.2.2.2.2.2.2.2.2.1,r.2.2.2.2.2.2.2.2.2.2.2.1,r.2.2.2.2.2.2.2.2.2.2.2.2.1,r.2.2.2.2.2.2.2.2.2.2.2.2.2.1,r.2.2.2.2.2.2.2.2.2.2.2.2.2.2.1,r.2.2.2.2.2.2.2.2.2.2.2.2.2.2.2.1,r.2.2.2.2.2.2.2.2.2.2.2.2.2.2.2.2,())),some w96⟩
abbrev qbu:SG:=⟨[(0,.p 728 0 0),(2,.p 16 0 0),(3,.p 24 0 0),(62,.v (.pair .bool (.pair .bool .unit))),(63,.v (.int .i64))],[(16,[.v (.int .i64),.p 268 0 0,.v .bool,.v (.sl (.int .u64)),.v (.sl (.int .u64)),.v (.int .i64),.v .bool,.v (.sl (.int .u64)),.v (.sl (.int .u64)),.v .bool]),(24,[.v .bool,.v (.int .i64),.v .bool,.v (.sl (.int .u64)),.v (.sl (.int .u64)),.v (.int .i64),.v (.int .i64),.v .bool,.v .bool,.v (.sl (.int .u64)),.v (.sl (.int .u64)),.v .bool,.v (.sl (.int .u64)),.v (.sl (.int .u64))]),(268,[.o (.pair (.int .i64) (.pair tRAT qaE)) 269]),(728,[.v (.sl qbB),.v (.sl qaE),.v (.int .i64),.v .bool,.f tRAT 32,.o (.pair (.int .i64) (.pair (.op (.pair (.os (.pair (.int .i64) (.pair tRAT qaE))) .unit)) (.pair tRAT qkP))) 1733])],[],[]⟩
abbrev qcc:List (Ex×SG):=[(.exit 2,⟨[(0,.p 728 0 0)],[(728,[.v (.sl qbB),.v (.sl qaE),.v (.int .i64),.v .bool,.f tRAT 32,.o (.pair (.int .i64) (.pair (.op (.pair (.os (.pair (.int .i64) (.pair tRAT qaE))) .unit)) (.pair tRAT qkP))) 1733])],[],[]⟩)]
abbrev qfD:=(((Bool×Bool×Unit)×Int×Unit)×((Int×Bool×(List Int)×(List Int)×Int×Bool×(List Int)×(List Int)×Bool×Unit)×(Bool×Int×Bool×(List Int)×(List Int)×Int×Int×Bool×Bool×(List Int)×(List Int)×Bool×(List Int)×(List Int)×Unit)×((List (Int×RAT×CELL))×Unit)×((List NODE)×(List CELL)×Int×Bool×(List RAT)×(List (Int×(Option ((Option (List (Int×RAT×CELL)))×Unit))×RAT×PART))×Unit)×Unit))
abbrev qfC:=(Unit×(((List NODE)×(List CELL)×Int×Bool×(List RAT)×(List (Int×(Option ((Option (List (Int×RAT×CELL)))×Unit))×RAT×PART))×Unit)×Unit))
def qan (g:qfD->Option qfC):qfD->Option qfC
 | ((v_62,v_63,_),((b16_0,b16_2,b16_3,b16_4,b16_5,b16_6,b16_7,b16_8,b16_9,_),(b24_0,b24_1,b24_2,b24_3,b24_4,b24_5,b24_6,b24_7,b24_8,b24_9,b24_10,b24_11,b24_12,b24_13,_),(b268_0,_),(b728_0,b728_1,b728_2,b728_3,b728_4,b728_5,_),_))=>bif (decide (v_63<2)) then (bif decide (0<=v_63) then (([v_62.1,v_62.2.1]:List Bool)[v_63.toNat]?).bind fun x9=>bif x9 then ((qbQ b16_0 b16_2 b16_3 b16_4 b16_5 b16_6 b16_7 b16_8 b16_9 b24_5 x9 b728_0 b728_1 b728_2 b728_3 b728_4 b268_0).bind fun r10=>bif r10.2.2.2.2.2.2.2.2.2.2.1 then (bif Nat.ble ((b728_5.length+([(r10.2.1,((some ((some r10.2.2.2.2.2.2.2.2.2.2.2.2.2.2.2.2),())),(((r10.2.2.1,r10.2.2.2.1),r10.2.2.2.2.1),(r10.2.2.2.2.2.1,(((r10.2.2.2.2.2.2.1,r10.2.2.2.2.2.2.2.1),r10.2.2.2.2.2.2.2.2.1),r10.2.2.2.2.2.2.2.2.2.1)))))]).length)*144) 140737488355328&&!false then g (((v_62.1,(v_62.2.1,())),(iadd .i64 v_63 1),()),((b16_0,b16_2,b16_3,b16_4,b16_5,b16_6,b16_7,b16_8,b16_9,()),(b24_0,b24_1,b24_2,b24_3,b24_4,b24_5,b24_6,b24_7,b24_8,b24_9,b24_10,b24_11,b24_12,b24_13,()),(r10.2.2.2.2.2.2.2.2.2.2.2.2.2.2.2.1,()),(r10.2.2.2.2.2.2.2.2.2.2.2.1,r10.2.2.2.2.2.2.2.2.2.2.2.2.1,r10.2.2.2.2.2.2.2.2.2.2.2.2.2.1,r10.2.2.2.2.2.2.2.2.2.2.2.2.2.2.1,(over b728_4 0 r10.1),(b728_5++[(r10.2.1,((some ((some r10.2.2.2.2.2.2.2.2.2.2.2.2.2.2.2.2),())),(((r10.2.2.1,r10.2.2.2.1),r10.2.2.2.2.1),(r10.2.2.2.2.2.1,(((r10.2.2.2.2.2.2.1,r10.2.2.2.2.2.2.2.1),r10.2.2.2.2.2.2.2.2.1),r10.2.2.2.2.2.2.2.2.2.1)))))]),()),())) else none) else (g (((v_62.1,(v_62.2.1,())),(iadd .i64 v_63 1),()),((b16_0,b16_2,b16_3,b16_4,b16_5,b16_6,b16_7,b16_8,b16_9,()),(b24_0,b24_1,b24_2,b24_3,b24_4,b24_5,b24_6,b24_7,b24_8,b24_9,b24_10,b24_11,b24_12,b24_13,()),(r10.2.2.2.2.2.2.2.2.2.2.2.2.2.2.2.1,()),(r10.2.2.2.2.2.2.2.2.2.2.2.1,r10.2.2.2.2.2.2.2.2.2.2.2.2.1,r10.2.2.2.2.2.2.2.2.2.2.2.2.2.1,r10.2.2.2.2.2.2.2.2.2.2.2.2.2.2.1,(over b728_4 0 r10.1),b728_5,()),())))) else ((qbQ b16_0 b16_2 b16_3 b16_4 b16_5 b16_6 b16_7 b16_8 b16_9 b24_6 x9 b728_0 b728_1 b728_2 b728_3 b728_4 b268_0).bind fun r11=>bif r11.2.2.2.2.2.2.2.2.2.2.1 then (bif Nat.ble ((b728_5.length+([(r11.2.1,((some ((some r11.2.2.2.2.2.2.2.2.2.2.2.2.2.2.2.2),())),(((r11.2.2.1,r11.2.2.2.1),r11.2.2.2.2.1),(r11.2.2.2.2.2.1,(((r11.2.2.2.2.2.2.1,r11.2.2.2.2.2.2.2.1),r11.2.2.2.2.2.2.2.2.1),r11.2.2.2.2.2.2.2.2.2.1)))))]).length)*144) 140737488355328&&!false then g (((v_62.1,(v_62.2.1,())),(iadd .i64 v_63 1),()),((b16_0,b16_2,b16_3,b16_4,b16_5,b16_6,b16_7,b16_8,b16_9,()),(b24_0,b24_1,b24_2,b24_3,b24_4,b24_5,b24_6,b24_7,b24_8,b24_9,b24_10,b24_11,b24_12,b24_13,()),(r11.2.2.2.2.2.2.2.2.2.2.2.2.2.2.2.1,()),(r11.2.2.2.2.2.2.2.2.2.2.2.1,r11.2.2.2.2.2.2.2.2.2.2.2.2.1,r11.2.2.2.2.2.2.2.2.2.2.2.2.2.1,r11.2.2.2.2.2.2.2.2.2.2.2.2.2.2.1,(over b728_4 0 r11.1),(b728_5++[(r11.2.1,((some ((some r11.2.2.2.2.2.2.2.2.2.2.2.2.2.2.2.2),())),(((r11.2.2.1,r11.2.2.2.1),r11.2.2.2.2.1),(r11.2.2.2.2.2.1,(((r11.2.2.2.2.2.2.1,r11.2.2.2.2.2.2.2.1),r11.2.2.2.2.2.2.2.2.1),r11.2.2.2.2.2.2.2.2.2.1)))))]),()),())) else none) else (g (((v_62.1,(v_62.2.1,())),(iadd .i64 v_63 1),()),((b16_0,b16_2,b16_3,b16_4,b16_5,b16_6,b16_7,b16_8,b16_9,()),(b24_0,b24_1,b24_2,b24_3,b24_4,b24_5,b24_6,b24_7,b24_8,b24_9,b24_10,b24_11,b24_12,b24_13,()),(r11.2.2.2.2.2.2.2.2.2.2.2.2.2.2.2.1,()),(r11.2.2.2.2.2.2.2.2.2.2.2.1,r11.2.2.2.2.2.2.2.2.2.2.2.2.1,r11.2.2.2.2.2.2.2.2.2.2.2.2.2.1,r11.2.2.2.2.2.2.2.2.2.2.2.2.2.2.1,(over b728_4 0 r11.1),b728_5,()),())))) else none) else (some ((()),((b728_0,b728_1,b728_2,b728_3,b728_4,b728_5,()),())))
abbrev qbv:SG:=⟨[(0,.p 728 0 0)],[(728,[.v (.sl qbB),.v (.sl qaE),.v (.int .i64),.v .bool,.f tRAT 32,.o (.pair (.int .i64) (.pair (.op (.pair (.os (.pair (.int .i64) (.pair tRAT qaE))) .unit)) (.pair tRAT qkP))) 1733])],[],[]⟩
abbrev qcd:List (Ex×SG):=[(.exit 0,⟨[(0,.p 728 0 0)],[(728,[.v (.sl qbB),.v (.sl qaE),.v (.int .i64),.v .bool,.f tRAT 32,.o (.pair (.int .i64) (.pair (.op (.pair (.os (.pair (.int .i64) (.pair tRAT qaE))) .unit)) (.pair tRAT qkP))) 1733])],[],[]⟩)]
abbrev qfF:=(Unit×(((List NODE)×(List CELL)×Int×Bool×(List RAT)×(List (Int×(Option ((Option (List (Int×RAT×CELL)))×Unit))×RAT×PART))×Unit)×Unit))
abbrev qfE:=(Unit×(((List NODE)×(List CELL)×Int×Bool×(List RAT)×(List (Int×(Option ((Option (List (Int×RAT×CELL)))×Unit))×RAT×PART))×Unit)×Unit))
def qar (g:qfF->Option qfE):qfF->Option qfE
 | (_,((b728_0,b728_1,b728_2,b728_3,b728_4,b728_5,_),_))=>bif (decide ((b728_5.length:Int)>0)) then (bif decide (0<=(isub .i64 (b728_5.length:Int) 1))&&decide ((isub .i64 (b728_5.length:Int) 1)<(b728_5.length:Int)) then (b728_5[(isub .i64 (b728_5.length:Int) 1).toNat]?).bind fun x3=>(x3.2.1).bind fun x4=>(x4.1).bind fun x5=>bif decide ((0:Int)<=(isub .i64 ((b728_5.set ((isub .i64 (b728_5.length:Int) 1).toNat) (x3.1,(none,x3.2.2))).length:Int) 1))&&decide (((isub .i64 ((b728_5.set ((isub .i64 (b728_5.length:Int) 1).toNat) (x3.1,(none,x3.2.2))).length:Int) 1):Int)<=(isub .i64 ((b728_5.set ((isub .i64 (b728_5.length:Int) 1).toNat) (x3.1,(none,x3.2.2))).length:Int) 1))&&decide (((isub .i64 ((b728_5.set ((isub .i64 (b728_5.length:Int) 1).toNat) (x3.1,(none,x3.2.2))).length:Int) 1):Int)<=((b728_5.set ((isub .i64 (b728_5.length:Int) 1).toNat) (x3.1,(none,x3.2.2))).length:Int)) then (qa3 x3.1 x3.2.2.1.1.1 x3.2.2.1.1.2 x3.2.2.1.2 x3.2.2.2.1 x3.2.2.2.2.1.1.1 x3.2.2.2.2.1.1.2 x3.2.2.2.2.1.2 x3.2.2.2.2.2 x5).bind fun r6=>bif decide (0<=r6.1) then (b728_0[r6.1.toNat]?).bind fun x7=>bif x7.1 then ((qbD r6.1 r6.2.1 r6.2.2.1 r6.2.2.2.1 r6.2.2.2.2.1 r6.2.2.2.2.2.1 r6.2.2.2.2.2.2.1 r6.2.2.2.2.2.2.2.1 r6.2.2.2.2.2.2.2.2.1 b728_0 b728_1 b728_2 b728_3 b728_4 r6.2.2.2.2.2.2.2.2.2).bind fun r8=>g ((()),((r8.2.1,r8.2.2.1,r8.2.2.2.1,r8.2.2.2.2.1,(over b728_4 0 r8.1),((b728_5.set ((isub .i64 (b728_5.length:Int) 1).toNat) (x3.1,(none,x3.2.2))).take (((isub .i64 ((b728_5.set ((isub .i64 (b728_5.length:Int) 1).toNat) (x3.1,(none,x3.2.2))).length:Int) 1)-0).toNat)),()),()))) else ((lp qan K0 (((false,(true,())),0,()),((r6.1,r6.2.1,r6.2.2.1,r6.2.2.2.1,r6.2.2.2.2.1,r6.2.2.2.2.2.1,r6.2.2.2.2.2.2.1,r6.2.2.2.2.2.2.2.1,r6.2.2.2.2.2.2.2.2.1,()),(x7.1,x7.2.1,x7.2.2.1.1.1,x7.2.2.1.1.2,x7.2.2.1.2,x7.2.2.2.1,x7.2.2.2.2.1,x7.2.2.2.2.2.1,x7.2.2.2.2.2.2.1.1.1,x7.2.2.2.2.2.2.1.1.2,x7.2.2.2.2.2.2.1.2,x7.2.2.2.2.2.2.2.1.1,x7.2.2.2.2.2.2.2.1.2,x7.2.2.2.2.2.2.2.2,()),(r6.2.2.2.2.2.2.2.2.2,()),(b728_0,b728_1,b728_2,b728_3,b728_4,((b728_5.set ((isub .i64 (b728_5.length:Int) 1).toNat) (x3.1,(none,x3.2.2))).take (((isub .i64 ((b728_5.set ((isub .i64 (b728_5.length:Int) 1).toNat) (x3.1,(none,x3.2.2))).length:Int) 1)-0).toNat)),()),()))).bind fun t12=>g ((()),((t12.2.1.1,t12.2.1.2.1,t12.2.1.2.2.1,t12.2.1.2.2.2.1,t12.2.1.2.2.2.2.1,t12.2.1.2.2.2.2.2.1,()),()))) else none else none else none) else (some ((()),((b728_0,b728_1,b728_2,b728_3,b728_4,b728_5,()),())))
def qcm (b_0:List NODE) (b_1:List CELL) (b_2:Int) (b_3:Bool) (b_4:List RAT) (b_5:List (Int×(Option ((Option (List (Int×RAT×CELL)))×Unit))×RAT×PART)):Option ((List RAT)×(List NODE)×(List CELL)×Int×Bool×(List (Int×(Option ((Option (List (Int×RAT×CELL)))×Unit))×RAT×PART))) :=
 (qhp ).bind fun r1=>(qgk ).bind fun r2=>(lp qar K0 ((()),((b_0,b_1,b_2,b_3,b_4,[(0,((some ((some r1),())),(r2,((-1),(((false,[]),[]),false)))))],()),()))).bind fun t13=>(bif Nat.beq t13.2.1.2.2.2.2.1.length b_4.length then some (t13.2.1.2.2.2.2.1,()) else none).bind fun l14=>some (l14.1,t13.2.1.1,t13.2.1.2.1,t13.2.1.2.2.1,t13.2.1.2.2.2.1,t13.2.1.2.2.2.2.2.1)
abbrev w65:Wir:=⟨[.b],[[.x,.x,.x,.x,.l,.x]],0,none,[],[],0⟩
def c65:Ctr:=⟨[((.sl qbB),.imm),((.sl qaE),.imm),((.int .i64),.imm),(.bool,.imm),((.sl tRAT),.lent),((.sl (.pair (.int .i64) (.pair (.op (.pair (.os (.pair (.int .i64) (.pair tRAT qaE))) .unit)) (.pair tRAT qkP)))),.imm)],[((.sl qbB),false),((.sl qaE),false),((.int .i64),false),(.bool,false),((.sl (.pair (.int .i64) (.pair (.op (.pair (.os (.pair (.int .i64) (.pair tRAT qaE))) .unit)) (.pair tRAT qkP)))),false)],(List RAT)×(List NODE)×(List CELL)×Int×Bool×(List (Int×(Option ((Option (List (Int×RAT×CELL)))×Unit))×RAT×PART)),fun x=>qcm x.1 x.2.1 x.2.2.1 x.2.2.2.1 x.2.2.2.2.1 x.2.2.2.2.2.1,fun r=>((r.1,()),(r.2.1,r.2.2.1,r.2.2.2.1,r.2.2.2.2.1,r.2.2.2.2.2,())),some w65⟩
abbrev qd3:SG:=⟨[(1,.v (.sl qaE)),(2,.v (.int .i64)),(3,.v .bool),(9,.o tRAT 79),(17,.v (.sl (.sl qbB))),(18,.v (.int .i64)),(19,.v (.int .i64))],[],[],[]⟩
abbrev qeV:List (Ex×SG):=[(.exit 0,⟨[(9,.o tRAT 79)],[],[],[]⟩)]
abbrev qjw:=(((List CELL)×Int×Bool×(List RAT)×(List (List NODE))×Int×Int×Unit)×Unit)
abbrev qjv:=(((List RAT)×Unit)×Unit)
def qcf (g:qjw->Option qjv):qjw->Option qjv
 | ((row_1,fixed_2,on_3,out_9,v_17,v_18,v_19,_),_)=>bif (decide (v_19<v_18)) then (bif decide (0<=v_19) then (v_17[v_19.toNat]?).bind fun x2=>(qcm x2 row_1 fixed_2 on_3 out_9 ([])).bind fun r3=>g ((row_1,fixed_2,on_3,(over out_9 0 r3.1),v_17,v_18,(iadd .i64 v_19 1),()),()) else none) else (some ((out_9,()),()))
def qfY (m_0:qaL) (row_1:List CELL) (fixed_2:Int) (on_3:Bool):Option (List RAT) :=
 (qfB m_0.1).bind fun r1=>(lp qcf K0 ((row_1,fixed_2,on_3,r1,m_0.2,(m_0.2.length:Int),0,()),())).bind fun t4=>some t4.1.1
def c39:Ctr:=⟨[(qfz,.imm),((.sl qaE),.imm),((.int .i64),.imm),(.bool,.imm)],[((.sl tRAT),true)],(List RAT),fun x=>qfY x.1 x.2.1 x.2.2.1 x.2.2.2.1,fun r=>((),(r,())),none⟩
def qeE (m_0:qaL) (row_1:List CELL) (fixed_2:Int) (on_3:Bool):Option ((List RAT)×Int) :=
 (qcO m_0 row_1).bind fun r1=>bif (!decide (r1=0)) then (some ([],r1)) else (bif (decide (fixed_2<0)) then (some ([],8)) else (bif (decide (fixed_2>=m_0.1)) then (some ([],8)) else ((qfY m_0 row_1 fixed_2 on_3).bind fun r2=>some (r2,0))))
def c53:Ctr:=⟨[(qfz,.imm),((.sl qaE),.imm),((.int .i64),.imm),(.bool,.imm)],[((.sl tRAT),true),((.int .i64),false)],(List RAT)×Int,fun x=>qeE x.1 x.2.1 x.2.2.1 x.2.2.2.1,fun r=>((),(r.1,r.2,())),none⟩
abbrev qcQ:SG:=⟨[(7,.o tRAT 63),(9,.o tRAT 79),(11,.o tRAT 95),(28,.v (.int .i64)),(29,.v (.int .i64))],[],[],[]⟩
abbrev qdD:List (Ex×SG):=[(.exit 0,⟨[(11,.o tRAT 95)],[],[],[]⟩)]
abbrev qhT:=(((List RAT)×(List RAT)×(List RAT)×Int×Int×Unit)×Unit)
abbrev qhS:=(((List RAT)×Unit)×Unit)
def qbd (g:qhT->Option qhS):qhT->Option qhS
 | ((on_7,off_9,out_11,v_28,v_29,_),_)=>bif (decide (v_29<v_28)) then (bif decide (0<=v_29)&&decide (v_29<(on_7.length:Int)) then (on_7[v_29.toNat]?).bind fun x3=>bif decide (0<=v_29)&&decide (v_29<(off_9.length:Int)) then (off_9[v_29.toNat]?).bind fun x4=>(qhm x3 x4).bind fun r5=>(qdc 1 2).bind fun r6=>(qaw r5 r6).bind fun r7=>bif Nat.ble ((out_11.length+1)*56) 140737488355328&&!false then g ((on_7,off_9,(out_11++([r7]:List RAT)),v_28,(iadd .i64 v_29 1),()),()) else none else none else none) else (some ((out_11,()),()))
def qd9 (m_0:qaL) (row_1:List CELL) (k_2:Int):Option (List RAT) :=
 (qeE m_0 row_1 k_2 true).bind fun r1=>(qeE m_0 row_1 k_2 false).bind fun r2=>(lp qbd K0 ((r1.1,r2.1,[],(r1.1.length:Int),0,()),())).bind fun t8=>some t8.1.1
def c30:Ctr:=⟨[(qfz,.imm),((.sl qaE),.imm),((.int .i64),.imm)],[((.sl tRAT),true)],(List RAT),fun x=>qd9 x.1 x.2.1 x.2.2.1,fun r=>((),(r,())),none⟩
def qkk (m_0:qaL) (row_1:List CELL) (i_2:Int) (k_3:Int):Option (RAT×Int) :=
 (qcO m_0 row_1).bind fun r1=>bif (!decide (r1=0)) then (some (((false,[]),[]),r1)) else (bif (decide (i_2<0)) then (some (((false,[]),[]),8)) else (bif (decide (i_2>=m_0.1)) then (some (((false,[]),[]),8)) else (bif (decide (k_3<0)) then (some (((false,[]),[]),8)) else (bif (decide (k_3>=m_0.1)) then (some (((false,[]),[]),8)) else (bif (decide (i_2=k_3)) then (some (((false,[]),[]),1)) else ((qd9 m_0 row_1 k_3).bind fun r2=>bif decide (0<=i_2)&&decide (i_2<(r2.length:Int)) then (r2[i_2.toNat]?).bind fun x3=>some (x3,0) else none))))))
def c9:Ctr:=⟨[(qfz,.imm),((.sl qaE),.imm),((.int .i64),.imm),((.int .i64),.imm)],[(tRAT,false),((.int .i64),false)],RAT×Int,fun x=>qkk x.1 x.2.1 x.2.2.1 x.2.2.2.1,fun r=>((),(r.1,r.2,())),none⟩
def qbg :Option Bool :=
 (qgk ).bind fun r1=>(qiQ 4).bind fun r2=>(qiQ 2).bind fun r3=>(qiQ 2).bind fun r4=>(qkk (2,([([(false,(0,(((false,[]),[]),(1,(2,(false,(((false,[]),[]),r2))))))),(true,(0,(((false,[]),[]),(0,(0,(false,(((false,[]),[]),r3))))))),(false,(1,(((false,[]),[]),(3,(4,(false,(((false,[]),[]),r4))))))),(true,(0,(((false,[]),[]),(0,(0,(false,(((false,[]),[]),r1))))))),(true,(0,(((false,[]),[]),(0,(0,(false,(r1,r1)))))))]:List NODE)]:List (List NODE))) ([(false,r1),(false,r1)]:List CELL) 0 1).bind fun r5=>bif (decide (r5.2=0)) then ((qdc 1 8).bind fun r6=>(qid r5.1 r6).bind fun r7=>some r7) else (some false)
def c8:Ctr:=⟨[],[(.bool,false)],Bool,fun x=>qbg ,fun r=>((),(r,())),none⟩
def qdj (m_0:qaL) (row_1:List CELL):Option ((List RAT)×Int) :=
 (qcO m_0 row_1).bind fun r1=>bif (!decide (r1=0)) then (some ([],r1)) else ((qfY m_0 row_1 (-1) false).bind fun r2=>some (r2,0))
def c15:Ctr:=⟨[(qfz,.imm),((.sl qaE),.imm)],[((.sl tRAT),true),((.int .i64),false)],(List RAT)×Int,fun x=>qdj x.1 x.2.1,fun r=>((),(r.1,r.2,())),none⟩
abbrev qd1:SG:=⟨[(0,.l tRAT 0),(2,.p 16 0 0),(3,.p 24 0 0),(8,.v (.int .i64)),(9,.v (.int .i64))],[(16,[.v .bool,.o (.int .u64) 18,.o (.int .u64) 19]),(24,[.v .bool,.v (.sl (.int .u64)),.v (.sl (.int .u64))])],[(7,(0,0))],[]⟩
abbrev qeU:List (Ex×SG):=[(.exit 0,⟨[(0,.l tRAT 0),(2,.p 16 0 0),(3,.p 24 0 0)],[(16,[.v .bool,.o (.int .u64) 18,.o (.int .u64) 19]),(24,[.v .bool,.v (.sl (.int .u64)),.v (.sl (.int .u64))])],[],[]⟩)]
abbrev qjq:=(((List RAT)×Int×Int×Unit)×((Bool×(List Int)×(List Int)×Unit)×(Bool×(List Int)×(List Int)×Unit)×Unit))
abbrev qjp:=(((List RAT)×Unit)×((Bool×(List Int)×(List Int)×Unit)×(Bool×(List Int)×(List Int)×Unit)×Unit))
def qcb (g:qjq->Option qjp):qjq->Option qjp
 | ((l_0,v_8,v_9,_),((b16_0,b16_1,b16_2,_),(b24_0,b24_1,b24_2,_),_))=>bif (decide (v_9<v_8)) then (bif decide (0<=v_9)&&decide (v_9<(l_0.length:Int)) then (l_0[v_9.toNat]?).bind fun x2=>(qdz ((b24_0,b24_1),b24_2) x2).bind fun r3=>g ((l_0,v_8,(iadd .i64 v_9 1),()),((b16_0,b16_1,b16_2,()),(r3.1.1,r3.1.2,r3.2,()),())) else none) else (some ((l_0,()),((b16_0,b16_1,b16_2,()),(b24_0,b24_1,b24_2,()),())))
def qhk (l_0:List RAT):Option ((List RAT)×RAT) :=
 (qeD ).bind fun r1=>(lp qcb K0 ((l_0,(l_0.length:Int),0,()),((false,[],[],()),(r1.1.1,r1.1.2,r1.2,()),()))).bind fun t4=>(bif Nat.beq t4.1.1.length l_0.length then some (t4.1.1,()) else none).bind fun l5=>some (l5.1,((t4.2.2.1.1,t4.2.2.1.2.1),t4.2.2.1.2.2.1))
def qy1:Ctr:=⟨[((.sl tRAT),.lent)],[(tRAT,false)],(List RAT)×RAT,fun x=>qhk x.1,fun r=>((r.1,()),(r.2,())),none⟩
abbrev qdf:SG:=⟨[(0,.v (.int .i64)),(3,.o (.os tRAT) 31),(4,.o tRAT 39),(5,.v (.int .i64)),(6,.v (.int .i64)),(8,.v (.int .i64)),(9,.v (.int .i64))],[],[],[]⟩
abbrev qd7:List (Ex×SG):=[(.exit 2,⟨[(0,.v (.int .i64)),(3,.o (.os tRAT) 31),(4,.o tRAT 39),(5,.v (.int .i64)),(6,.v (.int .i64))],[],[],[]⟩)]
abbrev qiI:=((Int×(List (Option (List RAT)))×(List RAT)×Int×Int×Int×Int×Unit)×Unit)
abbrev qiH:=((Int×(List (Option (List RAT)))×(List RAT)×Int×Int×Unit)×Unit)
def qbz (g:qiI->Option qiH):qiI->Option qiH
 | ((n_0,out_3,l_4,v_5,v_6,v_8,v_9,_),_)=>bif (decide (v_9<v_8)) then ((qeD ).bind fun r1=>bif Nat.ble ((l_4.length+1)*56) 140737488355328&&!false then g ((n_0,out_3,(l_4++([r1]:List RAT)),v_5,v_6,v_8,(iadd .i64 v_9 1),()),()) else none) else (some ((n_0,out_3,l_4,v_5,v_6,()),()))
abbrev qdg:SG:=⟨[(0,.v (.int .i64)),(3,.o (.os tRAT) 31),(5,.v (.int .i64)),(6,.v (.int .i64))],[],[],[]⟩
abbrev qd8:List (Ex×SG):=[(.exit 0,⟨[(3,.o (.os tRAT) 31)],[],[],[]⟩)]
abbrev qiK:=((Int×(List (Option (List RAT)))×Int×Int×Unit)×Unit)
abbrev qiJ:=(((List (Option (List RAT)))×Unit)×Unit)
def qbA (g:qiK->Option qiJ):qiK->Option qiJ
 | ((n_0,out_3,v_5,v_6,_),_)=>bif (decide (v_6<v_5)) then ((lp qbz K0 ((n_0,out_3,[],v_5,v_6,n_0,0,()),())).bind fun t2=>bif Nat.ble ((t2.1.2.1.length+([(some t2.1.2.2.1)]).length)*24) 140737488355328&&!false then g ((t2.1.1,(t2.1.2.1++[(some t2.1.2.2.1)]),t2.1.2.2.2.1,(iadd .i64 t2.1.2.2.2.2.1 1),()),()) else none) else (some ((out_3,()),()))
def qfL (n_0:Int):Option (List (Option (List RAT))) :=
 (lp qbA K0 ((n_0,[],n_0,0,()),())).bind fun t3=>some t3.1.1
def c31:Ctr:=⟨[((.int .i64),.imm)],[((.sl (.os tRAT)),true)],(List (Option (List RAT))),fun x=>qfL x.1,fun r=>((),(r,())),none⟩
def qib (a0:qaL):Option (List Bool):=(qeG a0).bind fun ok=>bif !ok then some [] else bif (decide (0<=a0.1)&&(decide (a0.1<=64)&&(decide (a0.2.length<=64)&&a0.2.all fun t=>decide (t.length<=255)&&t.all fun n=>n.1 || (decide (0<=n.2.1)&&decide (n.2.1<a0.1))))) then some ((List.range a0.1.toNat).map fun(j:Nat)=>a0.2.any fun t=>t.any fun n=>!n.1&&decide (n.2.1=(j:Int))) else none
def c32:Ctr:=⟨[(qfz,.imm)],[((.sl .bool),false)],(List Bool),fun x=>qib x.1,fun r=>((),(r,())),none⟩
abbrev qcx:SG:=⟨[(1,.v (.sl qaE)),(2,.p 16 0 0),(6,.o tRAT 55),(8,.o (.os tRAT) 71),(9,.v (.sl .bool)),(10,.v (.int .i64)),(29,.v (.int .i64)),(30,.v (.int .i64)),(41,.o tRAT 335),(42,.v (.int .i64)),(43,.v (.int .i64))],[(16,[.v (.int .i64),.v (.sl (.sl qbB))])],[],[]⟩
abbrev qdl:List (Ex×SG):=[(.exit 2,⟨[(1,.v (.sl qaE)),(2,.p 16 0 0),(6,.o tRAT 55),(8,.o (.os tRAT) 71),(9,.v (.sl .bool)),(29,.v (.int .i64)),(30,.v (.int .i64))],[(16,[.v (.int .i64),.v (.sl (.sl qbB))])],[],[]⟩)]
abbrev qhA:=(((List CELL)×(List RAT)×(List (Option (List RAT)))×(List Bool)×Int×Int×Int×(List RAT)×Int×Int×Unit)×((Int×(List (List NODE))×Unit)×Unit))
abbrev qhz:=(((List CELL)×(List RAT)×(List (Option (List RAT)))×(List Bool)×Int×Int×Unit)×((Int×(List (List NODE))×Unit)×Unit))
def qa5 (g:qhA->Option qhz):qhA->Option qhz
 | ((v_1,v_6,v_8,v_9,v_10,v_29,v_30,v_41,v_42,v_43,_),((b16_0,b16_1,_),_))=>bif (decide (v_43<v_42)) then (bif decide (0<=v_43)&&decide (v_43<(v_41.length:Int)) then (v_41[v_43.toNat]?).bind fun x6=>bif (!decide (v_43=v_10)) then (bif decide (0<=v_43)&&decide (v_43<(v_8.length:Int)) then (v_8[v_43.toNat]?).bind fun _=>(v_8[v_43.toNat]?).bind fun x7=>x7.bind fun x8=>bif decide (0<=v_10)&&decide ((v_10:Int)<(x8.length:Int)) then (v_8[v_43.toNat]?).bind fun x9=>x9.bind fun x10=>(x10[v_10.toNat]?).bind fun _=>g ((v_1,v_6,(v_8.set v_43.toNat (some (x10.set v_10.toNat x6))),v_9,v_10,v_29,v_30,v_41,v_42,(iadd .i64 v_43 1),()),((b16_0,b16_1,()),())) else none else none) else (g ((v_1,v_6,v_8,v_9,v_10,v_29,v_30,v_41,v_42,(iadd .i64 v_43 1),()),((b16_0,b16_1,()),()))) else none) else (some ((v_1,v_6,v_8,v_9,v_29,v_30,()),((b16_0,b16_1,()),())))
abbrev qcR:SG:=⟨[(1,.v (.sl qaE)),(2,.p 16 0 0),(6,.o tRAT 55),(8,.o (.os tRAT) 71),(9,.v (.sl .bool)),(29,.v (.int .i64)),(30,.v (.int .i64))],[(16,[.v (.int .i64),.v (.sl (.sl qbB))])],[],[]⟩
abbrev qdE:List (Ex×SG):=[(.exit 0,⟨[(6,.o tRAT 55),(8,.o (.os tRAT) 71)],[],[],[]⟩)]
abbrev qhV:=(((List CELL)×(List RAT)×(List (Option (List RAT)))×(List Bool)×Int×Int×Unit)×((Int×(List (List NODE))×Unit)×Unit))
abbrev qhU:=(((List RAT)×(List (Option (List RAT)))×Unit)×Unit)
def qbe (g:qhV->Option qhU):qhV->Option qhU
 | ((v_1,v_6,v_8,v_9,v_29,v_30,_),((b16_0,b16_1,_),_))=>bif (decide (v_30<v_29)) then (bif decide (0<=v_30) then (v_9[v_30.toNat]?).bind fun x4=>bif (!x4) then (g ((v_1,v_6,v_8,v_9,v_29,(iadd .i64 v_30 1),()),((b16_0,b16_1,()),()))) else ((qd9 (b16_0,b16_1) v_1 v_30).bind fun r5=>(lp qa5 K0 ((v_1,v_6,v_8,v_9,v_30,v_29,v_30,r5,(r5.length:Int),0,()),((b16_0,b16_1,()),()))).bind fun t12=>g ((t12.1.1,t12.1.2.1,t12.1.2.2.1,t12.1.2.2.2.1,t12.1.2.2.2.2.1,(iadd .i64 t12.1.2.2.2.2.2.1 1),()),((t12.2.1.1,t12.2.1.2.1,()),()))) else none) else (some ((v_6,v_8,()),()))
abbrev qcw:SG:=⟨[(6,.o tRAT 55),(8,.o (.os tRAT) 71),(61,.v (.int .i64)),(62,.v (.int .i64))],[],[],[]⟩
abbrev qdk:List (Ex×SG):=[(.exit 4,⟨[(8,.o (.os tRAT) 71)],[],[],[]⟩)]
abbrev qhy:=(((List RAT)×(List (Option (List RAT)))×Int×Int×Unit)×Unit)
abbrev qhx:=(((List (Option (List RAT)))×Unit)×Unit)
def qa4 (g:qhy->Option qhx):qhy->Option qhx
 | ((v_6,v_8,v_61,v_62,_),_)=>bif (decide (v_62<v_61)) then (bif decide (0<=v_62)&&decide (v_62<(v_8.length:Int)) then (v_8[v_62.toNat]?).bind fun _=>bif decide (0<=v_62)&&decide (v_62<(v_6.length:Int)) then (v_6[v_62.toNat]?).bind fun x14=>bif decide (0<=v_62)&&decide (v_62<(v_8.length:Int)) then (v_8[v_62.toNat]?).bind fun _=>(v_8[v_62.toNat]?).bind fun x15=>x15.bind fun x16=>(qhk x16).bind fun r17=>bif qyD tRAT (over x16 0 r17.1) x16 then bif decide (0<=v_62)&&decide (v_62<(v_8.length:Int)) then (v_8[v_62.toNat]?).bind fun _=>(v_8[v_62.toNat]?).bind fun x18=>x18.bind fun x19=>bif decide (0<=v_62)&&decide ((v_62:Int)<(x19.length:Int)) then (v_8[v_62.toNat]?).bind fun x20=>x20.bind fun x21=>(x21[v_62.toNat]?).bind fun x22=>(qhm r17.2 x22).bind fun r23=>(qhm x14 r23).bind fun r24=>(v_8[v_62.toNat]?).bind fun x25=>x25.bind fun x26=>bif decide (0<=v_62)&&decide ((v_62:Int)<(x26.length:Int)) then (v_8[v_62.toNat]?).bind fun x27=>x27.bind fun x28=>(x28[v_62.toNat]?).bind fun _=>g ((v_6,(v_8.set v_62.toNat (some (x28.set v_62.toNat r24))),v_61,(iadd .i64 v_62 1),()),()) else none else none else none else none else none else none else none) else (some ((v_8,()),()))
def qcD (a_0:qaL) (a_1:List CELL):Option ((List (Option (List RAT)))×Int) :=
 (qdj a_0 a_1).bind fun r1=>bif (!decide (r1.2=0)) then (some ([],r1.2)) else ((qfL a_0.1).bind fun r2=>(qib a_0).bind fun r3=>(lp qbe K0 ((a_1,r1.1,r2,r3,a_0.1,0,()),((a_0.1,a_0.2,()),()))).bind fun t13=>(lp qa4 K0 ((t13.1.1,t13.1.2.1,(t13.1.2.1.length:Int),0,()),())).bind fun t30=>some (t30.1.1,0))
def c10:Ctr:=⟨[(qfz,.imm),((.sl qaE),.imm)],[((.sl (.os tRAT)),true),((.int .i64),false)],(List (Option (List RAT)))×Int,fun x=>qcD x.1 x.2.1,fun r=>((),(r.1,r.2,())),none⟩
abbrev qb3:SG:=⟨[(0,.v (.int .i64)),(3,.o (.int .i64) 31)],[],[],[]⟩
abbrev qcI:List (Ex×SG):=[(.exit 0,⟨[(3,.o (.int .i64) 31)],[],[],[]⟩)]
def qa2 (g:((Int×(List Int)×Unit)×Unit)->Option (((List Int)×Unit)×Unit)):((Int×(List Int)×Unit)×Unit)->Option (((List Int)×Unit)×Unit)
 | ((n_0,out_3,_),_)=>bif (decide (n_0>0)) then (bif Nat.ble ((out_3.length+1)*8) 140737488355328&&!false then g (((iquo .i64 n_0 10000),(out_3++([(irem n_0 10000)]:List Int)),()),()) else none) else (some ((out_3,()),()))
def qao (n_0:Int):Option (List Int) :=
 (lp qa2 K0 ((n_0,[],()),())).bind fun t1=>some t1.1.1
def c84:Ctr:=⟨[((.int .i64),.imm)],[((.sl (.int .i64)),true)],(List Int),fun x=>qao x.1,fun r=>((),(r,())),none⟩
def qaO (a_0:List Int) (i_1:Int):Option Int :=
 bif (decide (i_1<(a_0.length:Int))) then (bif decide (0<=i_1) then (a_0[i_1.toNat]?).bind fun x1=>some x1 else none) else (some 0)
def c112:Ctr:=⟨[((.sl (.int .i64)),.imm),((.int .i64),.imm)],[((.int .i64),false)],Int,fun x=>qaO x.1 x.2.1,fun r=>((),(r,())),none⟩
abbrev qcp:SG:=⟨[(0,.v (.sl (.int .i64))),(1,.v (.sl (.int .i64))),(5,.o (.int .i64) 47),(6,.v (.int .i64)),(7,.v (.int .i64))],[],[],[]⟩
abbrev qc1:List (Ex×SG):=[(.exit 0,⟨[(5,.o (.int .i64) 47)],[],[],[]⟩)]
abbrev qgT:=(((List Int)×(List Int)×(List Int)×Int×Int×Unit)×Unit)
abbrev qgS:=(((List Int)×Unit)×Unit)
def qaI (g:qgT->Option qgS):qgT->Option qgS
 | ((a_0,b_1,out_5,c_6,i_7,_),_)=>bif (decide (i_7<(a_0.length:Int))) then ((qaO a_0 i_7).bind fun r1=>(qaO b_1 i_7).bind fun r2=>bif Nat.ble ((out_5.length+1)*8) 140737488355328&&!false then g ((a_0,b_1,(out_5++([(irem (iadd .i64 (iadd .i64 c_6 r1) r2) 10000)]:List Int)),(iquo .i64 (iadd .i64 (iadd .i64 c_6 r1) r2) 10000),(iadd .i64 i_7 1),()),()) else none) else (bif (decide (i_7<(b_1.length:Int))) then ((qaO a_0 i_7).bind fun r3=>(qaO b_1 i_7).bind fun r4=>bif Nat.ble ((out_5.length+1)*8) 140737488355328&&!false then g ((a_0,b_1,(out_5++([(irem (iadd .i64 (iadd .i64 c_6 r3) r4) 10000)]:List Int)),(iquo .i64 (iadd .i64 (iadd .i64 c_6 r3) r4) 10000),(iadd .i64 i_7 1),()),()) else none) else (bif (decide (c_6>0)) then ((qaO a_0 i_7).bind fun r5=>(qaO b_1 i_7).bind fun r6=>bif Nat.ble ((out_5.length+1)*8) 140737488355328&&!false then g ((a_0,b_1,(out_5++([(irem (iadd .i64 (iadd .i64 c_6 r5) r6) 10000)]:List Int)),(iquo .i64 (iadd .i64 (iadd .i64 c_6 r5) r6) 10000),(iadd .i64 i_7 1),()),()) else none) else (some ((out_5,()),()))))
def qdh (a_0:List Int) (b_1:List Int):Option (List Int) :=
 (lp qaI K0 ((a_0,b_1,[],0,0,()),())).bind fun t7=>some t7.1.1
def c88:Ctr:=⟨[((.sl (.int .i64)),.imm),((.sl (.int .i64)),.imm)],[((.sl (.int .i64)),true)],(List Int),fun x=>qdh x.1 x.2.1,fun r=>((),(r,())),none⟩
abbrev qco:SG:=⟨[(0,.v (.sl (.int .i64))),(3,.v (.int .i64))],[],[],[]⟩
abbrev qc0:List (Ex×SG):=[(.exit 0,⟨[(0,.v (.sl (.int .i64))),(3,.v (.int .i64))],[],[],[]⟩)]
def qaY (g:(((List Int)×Int×Unit)×Unit)->Option (((List Int)×Int×Unit)×Unit)):(((List Int)×Int×Unit)×Unit)->Option (((List Int)×Int×Unit)×Unit)
 | ((a_0,n_3,_),_)=>bif (decide (n_3>0)) then (bif decide (0<=(isub .i64 n_3 1)) then (a_0[(isub .i64 n_3 1).toNat]?).bind fun x1=>bif (decide (x1=0)) then (g ((a_0,(isub .i64 n_3 1),()),())) else (some ((a_0,n_3,()),())) else none) else (some ((a_0,n_3,()),()))
def qb0 (a_0:List Int):Option (List Int) :=
 (lp qaY K0 ((a_0,(a_0.length:Int),()),())).bind fun t2=>bif decide (0<=t2.1.2.1)&&decide ((t2.1.2.1:Int)<=(t2.1.1.length:Int)) then some (t2.1.1.take t2.1.2.1.toNat) else none
def c113:Ctr:=⟨[((.sl (.int .i64)),.imm)],[((.sl (.int .i64)),false)],(List Int),fun x=>qb0 x.1,fun r=>((),(r,())),none⟩
abbrev qb1:SG:=⟨[(0,.v (.sl (.int .i64))),(1,.v (.sl (.int .i64))),(5,.o (.int .i64) 47),(6,.v (.int .i64)),(7,.v (.int .i64)),(8,.v (.int .i64))],[],[],[]⟩
abbrev qcG:List (Ex×SG):=[(.exit 2,⟨[(0,.v (.sl (.int .i64))),(1,.v (.sl (.int .i64))),(5,.o (.int .i64) 47),(6,.v (.int .i64)),(7,.v (.int .i64))],[],[],[]⟩)]
abbrev qgF:=(((List Int)×(List Int)×(List Int)×Int×Int×Int×Unit)×Unit)
abbrev qgE:=(((List Int)×(List Int)×(List Int)×Int×Int×Unit)×Unit)
def qaP (g:qgF->Option qgE):qgF->Option qgE
 | ((a_0,b_1,out_5,i_6,c_7,k_8,_),_)=>bif (decide (k_8<(b_1.length:Int))) then (bif decide (0<=(iadd .i64 i_6 k_8))&&decide ((iadd .i64 i_6 k_8)<(out_5.length:Int)) then (out_5[(iadd .i64 i_6 k_8).toNat]?).bind fun x1=>bif decide (0<=i_6) then (a_0[i_6.toNat]?).bind fun x2=>bif decide (0<=k_8) then (b_1[k_8.toNat]?).bind fun x3=>bif decide (0<=(iadd .i64 i_6 k_8))&&decide ((iadd .i64 i_6 k_8)<(out_5.length:Int)) then (out_5[(iadd .i64 i_6 k_8).toNat]?).bind fun _=>g ((a_0,b_1,(out_5.set ((iadd .i64 i_6 k_8).toNat) (irem (iadd .i64 (iadd .i64 c_7 x1) (imul .i64 x2 x3)) 10000)),i_6,(iquo .i64 (iadd .i64 (iadd .i64 c_7 x1) (imul .i64 x2 x3)) 10000),(iadd .i64 k_8 1),()),()) else none else none else none else none) else (some ((a_0,b_1,out_5,i_6,c_7,()),()))
abbrev qb2:SG:=⟨[(0,.v (.sl (.int .i64))),(1,.v (.sl (.int .i64))),(5,.o (.int .i64) 47),(6,.v (.int .i64))],[],[],[]⟩
abbrev qcH:List (Ex×SG):=[(.exit 0,⟨[(5,.o (.int .i64) 47)],[],[],[]⟩)]
abbrev qgH:=(((List Int)×(List Int)×(List Int)×Int×Unit)×Unit)
abbrev qgG:=(((List Int)×Unit)×Unit)
def qa1 (g:qgH->Option qgG):qgH->Option qgG
 | ((a_0,b_1,out_5,i_6,_),_)=>bif (decide (i_6<(a_0.length:Int))) then ((lp qaP K0 ((a_0,b_1,out_5,i_6,0,0,()),())).bind fun t5=>bif decide (0<=(iadd .i64 t5.1.2.2.2.1 (t5.1.2.1.length:Int)))&&decide ((iadd .i64 t5.1.2.2.2.1 (t5.1.2.1.length:Int))<(t5.1.2.2.1.length:Int)) then (t5.1.2.2.1[(iadd .i64 t5.1.2.2.2.1 (t5.1.2.1.length:Int)).toNat]?).bind fun _=>g ((t5.1.1,t5.1.2.1,(t5.1.2.2.1.set ((iadd .i64 t5.1.2.2.2.1 (t5.1.2.1.length:Int)).toNat) t5.1.2.2.2.2.1),(iadd .i64 t5.1.2.2.2.1 1),()),()) else none) else (some ((out_5,()),()))
def qbF (a_0:List Int) (b_1:List Int):Option (List Int) :=
 bif decide ((iadd .i64 (a_0.length:Int) (b_1.length:Int))=(iadd .i64 (a_0.length:Int) (b_1.length:Int)))&&decide (0<=(iadd .i64 (a_0.length:Int) (b_1.length:Int)))&&decide (((8:Nat):Int)*(iadd .i64 (a_0.length:Int) (b_1.length:Int))<=281474976710656)&&decide ((iadd .i64 (a_0.length:Int) (b_1.length:Int))<=9223372036854775807) then (lp qa1 K0 ((a_0,b_1,(List.replicate (iadd .i64 (a_0.length:Int) (b_1.length:Int)).toNat (0:Int)),0,()),())).bind fun t7=>(qb0 t7.1.1).bind fun r8=>some r8 else none
def c89:Ctr:=⟨[((.sl (.int .i64)),.imm),((.sl (.int .i64)),.imm)],[((.sl (.int .i64)),false)],(List Int),fun x=>qbF x.1 x.2.1,fun r=>((),(r,())),none⟩
abbrev qcr:SG:=⟨[(0,.v (.sl (.int .u64))),(3,.o (.int .i64) 31),(4,.v (.sl (.int .i64))),(5,.v (.int .i64))],[],[],[]⟩
abbrev qc3:List (Ex×SG):=[(.exit 0,⟨[(3,.o (.int .i64) 31)],[],[],[]⟩)]
abbrev qgX:=(((List Int)×(List Int)×(List Int)×Int×Unit)×Unit)
abbrev qgW:=(((List Int)×Unit)×Unit)
def qbb (g:qgX->Option qgW):qgX->Option qgW
 | ((a_0,out_3,unit_4,i_5,_),_)=>bif (decide (i_5>=0)) then ((qbF out_3 unit_4).bind fun r2=>bif decide (0<=i_5) then (a_0[i_5.toNat]?).bind fun x3=>(qao (IntKind.wrap .i64 (iand .u64 x3 4294967295))).bind fun r4=>(qdh r2 r4).bind fun r5=>g ((a_0,r5,unit_4,(isub .i64 i_5 1),()),()) else none) else (some ((out_3,()),()))
def qaM (a_0:List Int):Option (List Int) :=
 (qao 4294967296).bind fun r1=>(lp qbb K0 ((a_0,[],r1,(isub .i64 (a_0.length:Int) 1),()),())).bind fun t6=>some t6.1.1
def c57:Ctr:=⟨[((.sl (.int .u64)),.imm)],[((.sl (.int .i64)),true)],(List Int),fun x=>qaM x.1,fun r=>((),(r,())),none⟩
def qbZ (neg_0:Bool) (n_1:List Int):Option (Bool×List Int) :=
 bif neg_0 then (some ((decide ((n_1.length:Int)>0)),n_1)) else (some (false,n_1))
def c91:Ctr:=⟨[(.bool,.imm),((.sl (.int .i64)),.imm)],[((.pair .bool (.sl (.int .i64))),false)],(Bool×List Int),fun x=>qbZ x.1 x.2.1,fun r=>((),(r,())),none⟩
def qeK (n_0:Int):Option (Bool×List Int) :=
 bif (decide (n_0<0)) then ((qao (isub .i64 0 (iadd .i64 n_0 1))).bind fun r1=>(qao 1).bind fun r2=>(qdh r1 r2).bind fun r3=>(qbZ true r3).bind fun r4=>some r4) else ((qao n_0).bind fun r5=>(qbZ false r5).bind fun r6=>some r6)
def c90:Ctr:=⟨[((.int .i64),.imm)],[((.pair .bool (.sl (.int .i64))),false)],(Bool×List Int),fun x=>qeK x.1,fun r=>((),(r,())),none⟩
def qeJ (n_0:Int) (d_1:Int):Option ((Bool×List Int)×List Int) :=
 (qeK n_0).bind fun r1=>(qao d_1).bind fun r2=>some (r1,r2)
def c58:Ctr:=⟨[((.int .i64),.imm),((.int .i64),.imm)],[((.pair (.pair .bool (.sl (.int .i64))) (.sl (.int .i64))),false)],((Bool×List Int)×List Int),fun x=>qeJ x.1 x.2.1,fun r=>((),(r,())),none⟩
def qeb (a_0:WH):Option (Bool×List Int) :=
 (qaM a_0.2).bind fun r1=>(qbZ a_0.1 r1).bind fun r2=>some r2
def c59:Ctr:=⟨[(tWH,.imm)],[((.pair .bool (.sl (.int .i64))),false)],(Bool×List Int),fun x=>qeb x.1,fun r=>((),(r,())),none⟩
def qbY (a_0:RAT):Option ((Bool×List Int)×List Int) :=
 (qaM a_0.2).bind fun r1=>bif (decide ((r1.length:Int)=0)) then ((qeJ 0 1).bind fun r2=>some r2) else ((qeb a_0.1).bind fun r3=>some (r3,r1))
def c34:Ctr:=⟨[(tRAT,.imm)],[((.pair (.pair .bool (.sl (.int .i64))) (.sl (.int .i64))),false)],((Bool×List Int)×List Int),fun x=>qbY x.1,fun r=>((),(r,())),none⟩
abbrev qb4:SG:=⟨[(0,.v (.sl (.int .u64))),(3,.v (.int .i64))],[],[],[]⟩
abbrev qcJ:List (Ex×SG):=[(.exit 0,⟨[(0,.v (.sl (.int .u64)))],[],[],[]⟩),(.ret,⟨[(2,.v .bool)],[],[],[]⟩)]
def qaQ (g:(((List Int)×Int×Unit)×Unit)->Option ((((List Int)×Unit)×Unit) ⊕ ((Bool×Unit)×Unit))):(((List Int)×Int×Unit)×Unit)->Option ((((List Int)×Unit)×Unit) ⊕ ((Bool×Unit)×Unit))
 | ((a_0,i_3,_),_)=>bif (decide (i_3<(a_0.length:Int))) then (bif decide (0<=i_3) then (a_0[i_3.toNat]?).bind fun x1=>bif (decide (x1>4294967295)) then (some (.inr ((false,()),()))) else (g ((a_0,(iadd .i64 i_3 1),()),())) else none) else (some (.inl ((a_0,()),())))
def qcT (a_0:List Int):Option Bool :=
 (lp qaQ K0 ((a_0,0,()),())).bind fun t2=>(match t2 with | .inl t3=>bif (decide ((t3.1.1.length:Int)=0)) then (some true) else (bif decide (0<=(isub .i64 (t3.1.1.length:Int) 1)) then (t3.1.1[(isub .i64 (t3.1.1.length:Int) 1).toNat]?).bind fun x5=>some (!decide (x5=0)) else none) | .inr t4=>some t4.1.1)
def c81:Ctr:=⟨[((.sl (.int .u64)),.imm)],[(.bool,false)],Bool,fun x=>qcT x.1,fun r=>((),(r,())),none⟩
abbrev qb6:SG:=⟨[(0,.v (.sl (.int .i64))),(1,.v (.sl (.int .i64))),(5,.v (.int .i64))],[],[],[]⟩
abbrev qcL:List (Ex×SG):=[(.exit 0,⟨[],[],[],[]⟩),(.ret,⟨[(4,.v (.int .i64))],[],[],[]⟩)]
def qaD (g:(((List Int)×(List Int)×Int×Unit)×Unit)->Option ((Unit×Unit) ⊕ ((Int×Unit)×Unit))):(((List Int)×(List Int)×Int×Unit)×Unit)->Option ((Unit×Unit) ⊕ ((Int×Unit)×Unit))
 | ((a_0,b_1,i_5,_),_)=>bif (decide (i_5>=0)) then (bif decide (0<=i_5) then (a_0[i_5.toNat]?).bind fun x1=>bif decide (0<=i_5) then (b_1[i_5.toNat]?).bind fun x2=>bif (decide (x1<x2)) then (some (.inr (((-1),()),()))) else (bif decide (0<=i_5) then (a_0[i_5.toNat]?).bind fun x3=>bif decide (0<=i_5) then (b_1[i_5.toNat]?).bind fun x4=>bif (decide (x3>x4)) then (some (.inr ((1,()),()))) else (g ((a_0,b_1,(isub .i64 i_5 1),()),())) else none else none) else none else none) else (some (.inl ((()),())))
def qal (a_0:List Int) (b_1:List Int):Option Int :=
 bif (!decide ((a_0.length:Int)=(b_1.length:Int))) then (bif (decide ((a_0.length:Int)<(b_1.length:Int))) then (some (-1)) else (some 1)) else ((lp qaD K0 ((a_0,b_1,(isub .i64 (a_0.length:Int) 1),()),())).bind fun t5=>(match t5 with | .inl t6=>some 0 | .inr t7=>some t7.1.1))
def c83:Ctr:=⟨[((.sl (.int .i64)),.imm),((.sl (.int .i64)),.imm)],[((.int .i64),false)],Int,fun x=>qal x.1 x.2.1,fun r=>((),(r,())),none⟩
abbrev qb7:SG:=⟨[(0,.v (.sl (.int .i64))),(1,.v (.sl (.int .i64))),(5,.o (.int .i64) 47),(6,.v (.int .i64)),(7,.v (.int .i64))],[],[],[]⟩
abbrev qcM:List (Ex×SG):=[(.exit 0,⟨[(5,.o (.int .i64) 47)],[],[],[]⟩)]
abbrev qgL:=(((List Int)×(List Int)×(List Int)×Int×Int×Unit)×Unit)
abbrev qgK:=(((List Int)×Unit)×Unit)
def qaR (g:qgL->Option qgK):qgL->Option qgK
 | ((a_0,b_1,out_5,c_6,i_7,_),_)=>bif (decide (i_7<(a_0.length:Int))) then (bif decide (0<=i_7) then (a_0[i_7.toNat]?).bind fun x1=>(qaO b_1 i_7).bind fun r2=>bif (decide ((isub .i64 (isub .i64 x1 r2) c_6)<0)) then (bif Nat.ble ((out_5.length+1)*8) 140737488355328&&!false then g ((a_0,b_1,(out_5++([(iadd .i64 (isub .i64 (isub .i64 x1 r2) c_6) 10000)]:List Int)),1,(iadd .i64 i_7 1),()),()) else none) else (bif Nat.ble ((out_5.length+1)*8) 140737488355328&&!false then g ((a_0,b_1,(out_5++([(isub .i64 (isub .i64 x1 r2) c_6)]:List Int)),0,(iadd .i64 i_7 1),()),()) else none) else none) else (some ((out_5,()),()))
def qdN (a_0:List Int) (b_1:List Int):Option (List Int) :=
 (lp qaR K0 ((a_0,b_1,[],0,0,()),())).bind fun t3=>(qb0 t3.1.1).bind fun r4=>some r4
def c126:Ctr:=⟨[((.sl (.int .i64)),.imm),((.sl (.int .i64)),.imm)],[((.sl (.int .i64)),false)],(List Int),fun x=>qdN x.1 x.2.1,fun r=>((),(r,())),none⟩
abbrev qb5:SG:=⟨[(0,.v (.sl (.int .i64))),(1,.v (.sl (.int .i64))),(6,.o (.int .i64) 55),(7,.v (.sl (.int .i64))),(8,.v (.int .i64)),(10,.v (.int .i64)),(11,.v (.int .i64))],[],[],[]⟩
abbrev qcK:List (Ex×SG):=[(.exit 2,⟨[(0,.v (.sl (.int .i64))),(1,.v (.sl (.int .i64))),(6,.o (.int .i64) 55),(7,.v (.sl (.int .i64))),(8,.v (.int .i64)),(10,.v (.int .i64))],[],[],[]⟩)]
abbrev qgJ:=(((List Int)×(List Int)×(List Int)×(List Int)×Int×Int×Int×Unit)×Unit)
abbrev qgI:=(((List Int)×(List Int)×(List Int)×(List Int)×Int×Int×Unit)×Unit)
def qaC (g:qgJ->Option qgI):qgJ->Option qgI
 | ((v_0,v_1,v_6,v_7,v_8,v_10,v_11,_),_)=>bif (decide ((isub .i64 v_11 v_10)>1)) then ((qao (iquo .i64 (iadd .i64 v_10 v_11) 2)).bind fun r3=>(qbF v_1 r3).bind fun r4=>(qal r4 v_7).bind fun r5=>bif (decide (r5<=0)) then (g ((v_0,v_1,v_6,v_7,v_8,(iquo .i64 (iadd .i64 v_10 v_11) 2),v_11,()),())) else (g ((v_0,v_1,v_6,v_7,v_8,v_10,(iquo .i64 (iadd .i64 v_10 v_11) 2),()),()))) else (some ((v_0,v_1,v_6,v_7,v_8,v_10,()),()))
abbrev qcq:SG:=⟨[(0,.v (.sl (.int .i64))),(1,.v (.sl (.int .i64))),(6,.o (.int .i64) 55),(7,.v (.sl (.int .i64))),(8,.v (.int .i64))],[],[],[]⟩
abbrev qc2:List (Ex×SG):=[(.exit 0,⟨[(6,.o (.int .i64) 55),(7,.v (.sl (.int .i64)))],[],[],[]⟩)]
abbrev qgV:=(((List Int)×(List Int)×(List Int)×(List Int)×Int×Unit)×Unit)
abbrev qgU:=(((List Int)×(List Int)×Unit)×Unit)
def qba (g:qgV->Option qgU):qgV->Option qgU
 | ((v_0,v_1,v_6,v_7,v_8,_),_)=>bif (decide (v_8>=0)) then (bif decide (0<=v_8) then (v_0[v_8.toNat]?).bind fun x1=>bif Nat.ble ((([x1]:List Int).length+v_7.length)*8) 140737488355328&&!false then (qb0 (([x1]:List Int)++v_7)).bind fun r2=>(lp qaC K0 ((v_0,v_1,v_6,r2,v_8,0,10000,()),())).bind fun t6=>bif decide (0<=t6.1.2.2.2.2.1)&&decide (t6.1.2.2.2.2.1<(t6.1.2.2.1.length:Int)) then (t6.1.2.2.1[t6.1.2.2.2.2.1.toNat]?).bind fun _=>(qao t6.1.2.2.2.2.2.1).bind fun r8=>(qbF t6.1.2.1 r8).bind fun r9=>(qdN t6.1.2.2.2.1 r9).bind fun r10=>g ((t6.1.1,t6.1.2.1,(t6.1.2.2.1.set t6.1.2.2.2.2.1.toNat t6.1.2.2.2.2.2.1),r10,(isub .i64 t6.1.2.2.2.2.1 1),()),()) else none else none else none) else (some ((v_6,v_7,()),()))
def qec (a_0:List Int) (a_1:List Int):Option ((List Int)×(List Int)) :=
 bif decide ((a_0.length:Int)=(a_0.length:Int))&&decide (0<=(a_0.length:Int))&&decide (((8:Nat):Int)*(a_0.length:Int)<=281474976710656)&&decide ((a_0.length:Int)<=9223372036854775807) then (lp qba K0 ((a_0,a_1,(List.replicate (a_0.length:Int).toNat (0:Int)),[],(isub .i64 (a_0.length:Int) 1),()),())).bind fun t11=>(qb0 t11.1.1).bind fun r12=>some (r12,t11.1.2.1) else none
def c111:Ctr:=⟨[((.sl (.int .i64)),.imm),((.sl (.int .i64)),.imm)],[((.sl (.int .i64)),false),((.sl (.int .i64)),false)],(List Int)×(List Int),fun x=>qec x.1 x.2.1,fun r=>((),(r.1,r.2,())),none⟩
abbrev qcy:SG:=⟨[(0,.v (.sl (.int .i64))),(1,.v (.sl (.int .i64)))],[],[],[]⟩
abbrev qdn:List (Ex×SG):=[(.exit 0,⟨[(0,.v (.sl (.int .i64)))],[],[],[]⟩)]
def qbr (g:(((List Int)×(List Int)×Unit)×Unit)->Option (((List Int)×Unit)×Unit)):(((List Int)×(List Int)×Unit)×Unit)->Option (((List Int)×Unit)×Unit)
 | ((a_0,b_1,_),_)=>bif (decide ((b_1.length:Int)>0)) then ((qec a_0 b_1).bind fun r1=>g ((b_1,r1.2,()),())) else (some ((a_0,()),()))
def qcW (a_0:List Int) (b_1:List Int):Option (List Int) :=
 (lp qbr K0 ((a_0,b_1,()),())).bind fun t2=>some t2.1.1
def c82:Ctr:=⟨[((.sl (.int .i64)),.imm),((.sl (.int .i64)),.imm)],[((.sl (.int .i64)),false)],(List Int),fun x=>qcW x.1 x.2.1,fun r=>((),(r,())),none⟩
def qdJ (a_0:RAT):Option Bool :=
 (qcT a_0.1.2).bind fun r1=>bif (!r1) then (some false) else ((qcT a_0.2).bind fun r2=>bif (!r2) then (some false) else (bif (decide ((a_0.2.length:Int)=0)) then (some false) else (bif (decide ((a_0.1.2.length:Int)=0)) then (bif a_0.1.1 then (some false) else ((qaM a_0.1.2).bind fun r3=>(qaM a_0.2).bind fun r4=>(qcW r3 r4).bind fun r5=>(qao 1).bind fun r6=>(qal r5 r6).bind fun r7=>some (decide (r7=0)))) else ((qaM a_0.1.2).bind fun r8=>(qaM a_0.2).bind fun r9=>(qcW r8 r9).bind fun r10=>(qao 1).bind fun r11=>(qal r10 r11).bind fun r12=>some (decide (r12=0))))))
def c55:Ctr:=⟨[(tRAT,.imm)],[(.bool,false)],Bool,fun x=>qdJ x.1,fun r=>((),(r,())),none⟩
def qdL (a_0:Bool×List Int) (b_1:Bool×List Int):Option Int :=
 bif a_0.1 then (bif (!b_1.1) then (some (-1)) else (bif (!a_0.1) then (bif b_1.1 then (some 1) else (bif a_0.1 then ((qal b_1.2 a_0.2).bind fun r1=>some r1) else ((qal a_0.2 b_1.2).bind fun r2=>some r2))) else (bif a_0.1 then ((qal b_1.2 a_0.2).bind fun r3=>some r3) else ((qal a_0.2 b_1.2).bind fun r4=>some r4)))) else (bif (!a_0.1) then (bif b_1.1 then (some 1) else (bif a_0.1 then ((qal b_1.2 a_0.2).bind fun r5=>some r5) else ((qal a_0.2 b_1.2).bind fun r6=>some r6))) else (bif a_0.1 then ((qal b_1.2 a_0.2).bind fun r7=>some r7) else ((qal a_0.2 b_1.2).bind fun r8=>some r8)))
def c85:Ctr:=⟨[((.pair .bool (.sl (.int .i64))),.imm),((.pair .bool (.sl (.int .i64))),.imm)],[((.int .i64),false)],Int,fun x=>qdL x.1 x.2.1,fun r=>((),(r,())),none⟩
def qcS (a_0:Bool×List Int) (b_1:Bool×List Int):Option (Bool×List Int) :=
 (qbF a_0.2 b_1.2).bind fun r1=>(qbZ (!(a_0.1 == b_1.1)) r1).bind fun r2=>some r2
def c86:Ctr:=⟨[((.pair .bool (.sl (.int .i64))),.imm),((.pair .bool (.sl (.int .i64))),.imm)],[((.pair .bool (.sl (.int .i64))),false)],(Bool×List Int),fun x=>qcS x.1 x.2.1,fun r=>((),(r,())),none⟩
def qet (a_0:(Bool×List Int)×List Int):Option (Bool×List Int) :=
 (qbZ false a_0.2).bind fun r1=>some r1
def c87:Ctr:=⟨[((.pair (.pair .bool (.sl (.int .i64))) (.sl (.int .i64))),.imm)],[((.pair .bool (.sl (.int .i64))),false)],(Bool×List Int),fun x=>qet x.1,fun r=>((),(r,())),none⟩
def qdK (a_0:(Bool×List Int)×List Int) (b_1:(Bool×List Int)×List Int):Option Int :=
 (qet b_1).bind fun r1=>(qcS a_0.1 r1).bind fun r2=>(qet a_0).bind fun r3=>(qcS b_1.1 r3).bind fun r4=>(qdL r2 r4).bind fun r5=>some r5
def c56:Ctr:=⟨[((.pair (.pair .bool (.sl (.int .i64))) (.sl (.int .i64))),.imm),((.pair (.pair .bool (.sl (.int .i64))) (.sl (.int .i64))),.imm)],[((.int .i64),false)],Int,fun x=>qdK x.1 x.2.1,fun r=>((),(r,())),none⟩
def qgD (a_0:RAT) (x_1:(Bool×List Int)×List Int):Option Bool :=
 (qdJ a_0).bind fun r1=>bif r1 then ((qbY a_0).bind fun r2=>(qdK r2 x_1).bind fun r3=>some (decide (r3=0))) else (some false)
def c33:Ctr:=⟨[(tRAT,.imm),((.pair (.pair .bool (.sl (.int .i64))) (.sl (.int .i64))),.imm)],[(.bool,false)],Bool,fun x=>qgD x.1 x.2.1,fun r=>((),(r,())),none⟩
def qea (a_0:RAT) (b_1:RAT):Option Bool :=
 (qbY b_1).bind fun r1=>(qgD a_0 r1).bind fun r2=>some r2
def c11:Ctr:=⟨[(tRAT,.imm),(tRAT,.imm)],[(.bool,false)],Bool,fun x=>qea x.1 x.2.1,fun r=>((),(r,())),none⟩
def qgl (a_0:RAT):Option RAT :=
 (qbC a_0).bind fun r1=>some ((false,r1.1.2),r1.2)
def c14:Ctr:=⟨[(tRAT,.imm)],[(tRAT,false)],RAT,fun x=>qgl x.1,fun r=>((),(r,())),none⟩
abbrev qbW:SG:=⟨[(6,.p 48 0 0),(8,.o (.os tRAT) 71),(10,.v (.int .i64)),(11,.v (.int .i64)),(12,.v (.int .i64)),(13,.v (.int .i64)),(29,.v (.int .i64)),(30,.v (.int .i64))],[(48,[.v .bool,.o (.int .u64) 50,.o (.int .u64) 51])],[],[]⟩
abbrev qcE:List (Ex×SG):=[(.exit 2,⟨[(6,.p 48 0 0),(8,.o (.os tRAT) 71),(10,.v (.int .i64)),(11,.v (.int .i64)),(29,.v (.int .i64)),(30,.v (.int .i64))],[(48,[.v .bool,.o (.int .u64) 50,.o (.int .u64) 51])],[],[]⟩)]
abbrev qgv:=(((List (Option (List RAT)))×Int×Int×Int×Int×Int×Int×Unit)×((Bool×(List Int)×(List Int)×Unit)×Unit))
abbrev qgu:=(((List (Option (List RAT)))×Int×Int×Int×Int×Unit)×((Bool×(List Int)×(List Int)×Unit)×Unit))
def qav (g:qgv->Option qgu):qgv->Option qgu
 | ((v_8,v_10,v_11,v_12,v_13,v_29,v_30,_),((b48_0,b48_1,b48_2,_),_))=>bif (decide (v_13<(v_8.length:Int))) then (bif decide (0<=v_12)&&decide (v_12<(v_8.length:Int)) then (v_8[v_12.toNat]?).bind fun _=>(v_8[v_12.toNat]?).bind fun x2=>x2.bind fun x3=>bif decide (0<=v_13)&&decide ((v_13:Int)<(x3.length:Int)) then (v_8[v_12.toNat]?).bind fun x4=>x4.bind fun x5=>(x5[v_13.toNat]?).bind fun x6=>(qgl x6).bind fun r7=>bif decide (0<=v_10)&&decide (v_10<(v_8.length:Int)) then (v_8[v_10.toNat]?).bind fun _=>(v_8[v_10.toNat]?).bind fun x8=>x8.bind fun x9=>bif decide (0<=v_11)&&decide ((v_11:Int)<(x9.length:Int)) then (v_8[v_10.toNat]?).bind fun x10=>x10.bind fun x11=>(x11[v_11.toNat]?).bind fun x12=>(qgl x12).bind fun r13=>(qhn r7 r13).bind fun r14=>bif (decide (r14>0)) then (g ((v_8,v_12,v_13,v_12,(iadd .i64 v_13 1),v_29,v_30,()),((b48_0,b48_1,b48_2,()),()))) else (g ((v_8,v_10,v_11,v_12,(iadd .i64 v_13 1),v_29,v_30,()),((b48_0,b48_1,b48_2,()),()))) else none else none else none else none) else (some ((v_8,v_10,v_11,v_29,v_30,()),((b48_0,b48_1,b48_2,()),())))
abbrev qbX:SG:=⟨[(6,.p 48 0 0),(8,.o (.os tRAT) 71),(10,.v (.int .i64)),(11,.v (.int .i64)),(29,.v (.int .i64)),(30,.v (.int .i64))],[(48,[.v .bool,.o (.int .u64) 50,.o (.int .u64) 51])],[],[]⟩
abbrev qcF:List (Ex×SG):=[(.exit 0,⟨[(6,.p 48 0 0),(8,.o (.os tRAT) 71),(10,.v (.int .i64)),(11,.v (.int .i64))],[(48,[.v .bool,.o (.int .u64) 50,.o (.int .u64) 51])],[],[]⟩)]
abbrev qgx:=(((List (Option (List RAT)))×Int×Int×Int×Int×Unit)×((Bool×(List Int)×(List Int)×Unit)×Unit))
abbrev qgw:=(((List (Option (List RAT)))×Int×Int×Unit)×((Bool×(List Int)×(List Int)×Unit)×Unit))
def qaN (g:qgx->Option qgw):qgx->Option qgw
 | ((v_8,v_10,v_11,v_29,v_30,_),((b48_0,b48_1,b48_2,_),_))=>bif (decide (v_30<v_29)) then ((lp qav K0 ((v_8,v_10,v_11,v_30,(iadd .i64 v_30 1),v_29,v_30,()),((b48_0,b48_1,b48_2,()),()))).bind fun t15=>g ((t15.1.1,t15.1.2.1,t15.1.2.2.1,t15.1.2.2.2.1,(iadd .i64 t15.1.2.2.2.2.1 1),()),((t15.2.1.1,t15.2.1.2.1,t15.2.1.2.2.1,()),()))) else (some ((v_8,v_10,v_11,()),((b48_0,b48_1,b48_2,()),())))
def qbf (a_0:qaL) (a_1:List CELL):Option (Int×Int×RAT×Bool) :=
 (qcD a_0 a_1).bind fun r1=>bif (!decide (r1.2=0)) then (some (0,0,((false,[]),[]),false)) else (bif (decide ((r1.1.length:Int)<2)) then (some (0,0,((false,[]),[]),false)) else ((lp qaN K0 ((r1.1,0,1,(r1.1.length:Int),0,()),((false,[],[],()),()))).bind fun t16=>bif decide (0<=t16.1.2.1)&&decide (t16.1.2.1<(t16.1.1.length:Int)) then (t16.1.1[t16.1.2.1.toNat]?).bind fun _=>(t16.1.1[t16.1.2.1.toNat]?).bind fun x17=>x17.bind fun x18=>bif decide (0<=t16.1.2.2.1)&&decide ((t16.1.2.2.1:Int)<(x18.length:Int)) then (t16.1.1[t16.1.2.1.toNat]?).bind fun x19=>x19.bind fun x20=>(x20[t16.1.2.2.1.toNat]?).bind fun x21=>some (t16.1.2.1,t16.1.2.2.1,x21,true) else none else none))
def c12:Ctr:=⟨[(qfz,.imm),((.sl qaE),.imm)],[((.int .i64),false),((.int .i64),false),(tRAT,false),(.bool,false)],Int×Int×RAT×Bool,fun x=>qbf x.1 x.2.1,fun r=>((),(r.1,r.2.1,r.2.2.1,r.2.2.2,())),none⟩
abbrev qat:SG:=⟨[(5,.v (.int .i64)),(6,.v (.int .i64)),(7,.p 56 0 0),(9,.o (.os tRAT) 79),(12,.v (.int .i64)),(13,.v (.int .i64))],[(56,[.v .bool,.v (.sl (.int .u64)),.v (.sl (.int .u64))])],[],[]⟩
abbrev qaJ:List (Ex×SG):=[(.exit 4,⟨[(5,.v (.int .i64)),(6,.v (.int .i64)),(7,.p 56 0 0),(9,.o (.os tRAT) 79),(12,.v (.int .i64))],[(56,[.v .bool,.v (.sl (.int .u64)),.v (.sl (.int .u64))])],[],[]⟩),(.ret,⟨[(4,.v .bool)],[],[],[]⟩)]
abbrev qc9:=((Int×Int×(List (Option (List RAT)))×Int×Int×Unit)×((Bool×(List Int)×(List Int)×Unit)×Unit))
abbrev qc8:=(((Int×Int×(List (Option (List RAT)))×Int×Unit)×((Bool×(List Int)×(List Int)×Unit)×Unit)) ⊕ ((Bool×Unit)×Unit))
def qae (g:qc9->Option qc8):qc9->Option qc8
 | ((v_5,v_6,v_9,v_12,v_13,_),((b56_0,b56_1,b56_2,_),_))=>bif (decide (v_13<(v_9.length:Int))) then (bif decide (0<=v_12)&&decide (v_12<(v_9.length:Int)) then (v_9[v_12.toNat]?).bind fun _=>(v_9[v_12.toNat]?).bind fun x18=>x18.bind fun x19=>bif decide (0<=v_13)&&decide ((v_13:Int)<(x19.length:Int)) then (v_9[v_12.toNat]?).bind fun x20=>x20.bind fun x21=>(x21[v_13.toNat]?).bind fun x22=>(qgl x22).bind fun r23=>(qgl ((b56_0,b56_1),b56_2)).bind fun r24=>(qhn r23 r24).bind fun r25=>bif (decide (r25>0)) then (some (.inr ((false,()),()))) else (bif (decide (r25=0)) then (bif (decide (v_12<v_5)) then (some (.inr ((false,()),()))) else (bif (decide (v_12=v_5)) then (bif (decide (v_13<v_6)) then (some (.inr ((false,()),()))) else (g ((v_5,v_6,v_9,v_12,(iadd .i64 v_13 1),()),((b56_0,b56_1,b56_2,()),())))) else (g ((v_5,v_6,v_9,v_12,(iadd .i64 v_13 1),()),((b56_0,b56_1,b56_2,()),()))))) else (g ((v_5,v_6,v_9,v_12,(iadd .i64 v_13 1),()),((b56_0,b56_1,b56_2,()),())))) else none else none) else (some (.inl ((v_5,v_6,v_9,v_12,()),((b56_0,b56_1,b56_2,()),()))))
abbrev qay:SG:=⟨[(5,.v (.int .i64)),(6,.v (.int .i64)),(7,.p 56 0 0),(8,.v .bool),(9,.o (.os tRAT) 79),(11,.v (.int .i64))],[(56,[.v .bool,.v (.sl (.int .u64)),.v (.sl (.int .u64))])],[],[]⟩
abbrev qaS:List (Ex×SG):=[(.exit 0,⟨[(5,.v (.int .i64)),(6,.v (.int .i64)),(7,.p 56 0 0),(8,.v .bool),(9,.o (.os tRAT) 79)],[(56,[.v .bool,.v (.sl (.int .u64)),.v (.sl (.int .u64))])],[],[]⟩),(.ret,⟨[(4,.v .bool)],[],[],[]⟩)]
abbrev qdp:=((Int×Int×Bool×(List (Option (List RAT)))×Int×Unit)×((Bool×(List Int)×(List Int)×Unit)×Unit))
abbrev qdo:=(((Int×Int×Bool×(List (Option (List RAT)))×Unit)×((Bool×(List Int)×(List Int)×Unit)×Unit)) ⊕ ((Bool×Unit)×Unit))
def qag (g:qdp->Option qdo):qdp->Option qdo
 | ((v_5,v_6,v_8,v_9,v_11,_),((b56_0,b56_1,b56_2,_),_))=>bif (decide (v_11<(v_9.length:Int))) then (bif decide (0<=v_11)&&decide (v_11<(v_9.length:Int)) then (v_9[v_11.toNat]?).bind fun _=>(v_9[v_11.toNat]?).bind fun x7=>x7.bind fun x8=>bif (!decide ((x8.length:Int)=(v_9.length:Int))) then (some (.inr ((false,()),()))) else (g ((v_5,v_6,v_8,v_9,(iadd .i64 v_11 1),()),((b56_0,b56_1,b56_2,()),()))) else none) else (some (.inl ((v_5,v_6,v_8,v_9,()),((b56_0,b56_1,b56_2,()),()))))
abbrev qau:SG:=⟨[(5,.v (.int .i64)),(6,.v (.int .i64)),(7,.p 56 0 0),(9,.o (.os tRAT) 79),(12,.v (.int .i64))],[(56,[.v .bool,.v (.sl (.int .u64)),.v (.sl (.int .u64))])],[],[]⟩
abbrev qaK:List (Ex×SG):=[(.exit 2,⟨[],[],[],[]⟩),(.ret,⟨[(4,.v .bool)],[],[],[]⟩)]
abbrev qdb:=((Int×Int×(List (Option (List RAT)))×Int×Unit)×((Bool×(List Int)×(List Int)×Unit)×Unit))
abbrev qda:=((Unit×Unit) ⊕ ((Bool×Unit)×Unit))
def qaf (g:qdb->Option qda):qdb->Option qda
 | ((v_5,v_6,v_9,v_12,_),((b56_0,b56_1,b56_2,_),_))=>bif (decide (v_12<(v_9.length:Int))) then ((lp qae K0 ((v_5,v_6,v_9,v_12,(iadd .i64 v_12 1),()),((b56_0,b56_1,b56_2,()),()))).bind fun t26=>(match t26 with | .inl t27=>g ((t27.1.1,t27.1.2.1,t27.1.2.2.1,(iadd .i64 t27.1.2.2.2.1 1),()),((t27.2.1.1,t27.2.1.2.1,t27.2.1.2.2.1,()),())) | .inr t28=>some (.inr ((t28.1.1,()),())))) else (some (.inl ((()),())))
def qbG (a_0:qaL) (a_1:List CELL):Option Bool :=
 (qcU a_0 a_1).bind fun r1=>bif (decide (r1.1.1>8)) then ((qbg ).bind fun r2=>some r2) else ((qbf r1.1 r1.2).bind fun r3=>(qcD r1.1 r1.2).bind fun r4=>bif (!decide (r4.2=0)) then (bif (decide (r3.1=0)) then (bif (decide (r3.2.1=0)) then (bif (decide ((r3.2.2.1.2.length:Int)=0)) then (bif (!r3.2.2.2) then ((qbg ).bind fun r5=>some r5) else (some false)) else (some false)) else (some false)) else (some false)) else (bif (decide ((r4.1.length:Int)<2)) then (bif (decide (r3.1=0)) then (bif (decide (r3.2.1=0)) then (bif (decide ((r3.2.2.1.2.length:Int)=0)) then (bif (!r3.2.2.2) then ((qbg ).bind fun r6=>some r6) else (some false)) else (some false)) else (some false)) else (some false)) else ((lp qag K0 ((r3.1,r3.2.1,r3.2.2.2,r4.1,0,()),((r3.2.2.1.1.1,r3.2.2.1.1.2,r3.2.2.1.2,()),()))).bind fun t9=>(match t9 with | .inl t10=>bif (!t10.1.2.2.1) then (some false) else (bif (decide (t10.1.1<0)) then (some false) else (bif (decide (t10.1.1>=t10.1.2.1)) then (some false) else (bif (decide (t10.1.2.1>=(t10.1.2.2.2.1.length:Int))) then (some false) else (bif decide (0<=t10.1.1)&&decide (t10.1.1<(t10.1.2.2.2.1.length:Int)) then (t10.1.2.2.2.1[t10.1.1.toNat]?).bind fun _=>(t10.1.2.2.2.1[t10.1.1.toNat]?).bind fun x12=>x12.bind fun x13=>bif decide (0<=t10.1.2.1)&&decide ((t10.1.2.1:Int)<(x13.length:Int)) then (t10.1.2.2.2.1[t10.1.1.toNat]?).bind fun x14=>x14.bind fun x15=>(x15[t10.1.2.1.toNat]?).bind fun x16=>(qea ((t10.2.1.1,t10.2.1.2.1),t10.2.1.2.2.1) x16).bind fun r17=>bif (!r17) then (some false) else ((lp qaf K0 ((t10.1.1,t10.1.2.1,t10.1.2.2.2.1,0,()),((t10.2.1.1,t10.2.1.2.1,t10.2.1.2.2.1,()),()))).bind fun t29=>(match t29 with | .inl t30=>(qbg ).bind fun r32=>some r32 | .inr t31=>some t31.1.1)) else none else none)))) | .inr t11=>some t11.1.1))))
def c4:Ctr:=⟨[(qfz,.imm),((.sl qaE),.imm)],[(.bool,false)],Bool,fun x=>qbG x.1 x.2.1,fun r=>((),(r,())),none⟩
end Go.Proofs.YtaeiamdjpkgjpaaGreatDoor.X
