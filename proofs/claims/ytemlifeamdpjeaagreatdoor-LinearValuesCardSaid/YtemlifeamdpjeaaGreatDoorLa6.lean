/- Own work: part of the proof; the first line of each part says what it tells. -/
import Derived.Test.YtemlifeamdpjeaaGreatDoorLa4
import Derived.Test.YtemlifeamdpjeaaGreatDoorProg


namespace Go.Proofs.YtemlifeamdpjeaaGreatDoor.X
open Go
set_option linter.unusedVariables false
set_option linter.unusedSimpArgs false
set_option maxRecDepth 100000
def tb:Tb:=[(2,.sc (.int .i64)),(3,.sc (.int .i64)),(4,.sc .bool),(5,.sc (.int .u8)),(6,.sc (.int .u8)),(7,.stc (.pair (.int .i64) (.pair (.int .i64) (.pair .bool (.int .u8)))) [(0,2),(1,3),(2,4),(3,6)] false),(21,.sc (.int .i32)),(22,.slc 47 (.sl qbo) 24),(24,.stc qiM [(0,3),(1,22)] false),(25,.slc 73 qaz 64),(28,.slc 39 tRAT 56),(29,.sc (.int .i64)),(35,.slc 75 (.int .u64) 8),(37,.stc tWH [(0,4),(1,35)] false),(39,.stc tRAT [(0,37),(2,35)] false),(47,.slc 71 qbo 208),(48,.slc 53 tLEG 88),(51,.slc 55 qhd 72),(53,.stc tLEG [(0,3),(1,39),(4,51)] false),(55,.stc qhd [(0,3),(1,39),(4,4)] false),(63,.slc 3 (.int .i64) 8),(64,.slc 3 (.int .i64) 8),(66,.stc (.pair .bool (.sl (.int .i64))) [(0,4),(1,64)] false),(68,.stc (.pair (.pair .bool (.sl (.int .i64))) (.sl (.int .i64))) [(0,66),(2,64)] false),(71,.stc qbo [(0,4),(1,3),(2,39),(5,3),(6,3),(7,4),(8,39),(11,39)] false),(73,.stc qaz [(0,4),(1,39)] false),(75,.sc (.int .u64)),(86,.pt 132 (.pair (.pair .unit (.pair (.pair .unit (.int .u32)) (.pair .unit (.pair (.int .i32) (.int .u32))))) (.sl tWH))),(92,.pt 95 (.pair (.sl qbo) (.pair (.sl qaz) (.pair (.int .i64) (.pair .bool (.pair (.sl tRAT) (.sl (.pair (.int .i64) (.pair (.op (.pair (.os (.pair (.int .i64) (.pair tRAT qaz))) .unit)) (.pair tRAT qhd)))))))))),(93,.slc 138 (.pair (.int .i64) (.pair (.op (.pair (.os (.pair (.int .i64) (.pair tRAT qaz))) .unit)) (.pair tRAT qhd))) 144),(95,.stc (.pair (.sl qbo) (.pair (.sl qaz) (.pair (.int .i64) (.pair .bool (.pair (.sl tRAT) (.sl (.pair (.int .i64) (.pair (.op (.pair (.os (.pair (.int .i64) (.pair tRAT qaz))) .unit)) (.pair tRAT qhd))))))))) [(0,47),(1,25),(2,3),(3,4),(4,28),(5,93)] false),(97,.stc (.pair (.int .i64) (.pair (.int .i64) (.pair (.int .i64) (.int .i64)))) [(0,29),(1,3),(2,3),(3,3)] true),(106,.sc (.int .u64)),(119,.stc .unit [] false),(120,.stc .unit [] false),(121,.sc (.int .u32)),(123,.stc (.pair .unit (.int .u32)) [(0,120),(0,121)] false),(125,.stc (.pair (.int .i32) (.int .u32)) [(0,21),(1,121)] true),(127,.stc (.pair .unit (.pair (.int .i32) (.int .u32))) [(0,119),(0,125)] false),(129,.stc (.pair .unit (.pair (.pair .unit (.int .u32)) (.pair .unit (.pair (.int .i32) (.int .u32))))) [(0,119),(0,123),(1,127)] false),(130,.slc 37 tWH 32),(132,.stc (.pair (.pair .unit (.pair (.pair .unit (.int .u32)) (.pair .unit (.pair (.int .i32) (.int .u32))))) (.sl tWH)) [(0,129),(3,130)] false),(135,.pt 172 (.pair (.os (.pair (.int .i64) (.pair tRAT qaz))) .unit)),(138,.stc (.pair (.int .i64) (.pair (.op (.pair (.os (.pair (.int .i64) (.pair tRAT qaz))) .unit)) (.pair tRAT qhd))) [(0,3),(1,135),(2,39),(5,3),(6,39),(9,4)] false),(140,.arr 4 .bool),(169,.stc (.pair (.int .i64) (.pair tRAT qaz)) [(0,3),(1,39),(4,4),(5,39)] false),(170,.slc 169 (.pair (.int .i64) (.pair tRAT qaz)) 128),(172,.stc (.pair (.sl (.pair (.int .i64) (.pair tRAT qaz))) .unit) [(0,170)] false),(173,.pt 138 (.pair (.int .i64) (.pair (.op (.pair (.os (.pair (.int .i64) (.pair tRAT qaz))) .unit)) (.pair tRAT qhd)))),(179,.slc 4 .bool 1)]
def qbC (a_0:RAT):Option RAT :=
 bif (decide ((a_0.1.2.length:Int)>4)) then (bif decide ((4:Int)≤(a_0.1.2.length:Int)) then bif (decide ((a_0.2.length:Int)>4)) then (bif decide ((4:Int)≤(a_0.2.length:Int)) then some ((a_0.1.1,(a_0.1.2.take 4)),(a_0.2.take 4)) else none) else (some ((a_0.1.1,(a_0.1.2.take 4)),a_0.2)) else none) else (bif (decide ((a_0.2.length:Int)>4)) then (bif decide ((4:Int)≤(a_0.2.length:Int)) then some (a_0.1,(a_0.2.take 4)) else none) else (some a_0))
def c27:Ctr:=⟨[(tRAT,.imm)],[(tRAT,false)],RAT,fun x=>qbC x.1,fun r=>((),(r,())),none⟩
abbrev qcn:SG:=⟨[(1,.p 8 0 0),(2,.p 16 0 0),(3,.p 24 0 0),(4,.v (.int .i64)),(5,.o qbo 47),(6,.v (.int .i64))],[(8,[.v (.int .i64),.v (.sl (.sl qbo))]),(16,[.v (.int .i64),.o (.sl qbo) 18]),(24,[.v (.int .i64),.o (.sl qbo) 26])],[],[]⟩
abbrev qc6:List (Ex×SG):=[(.exit 2,⟨[(1,.p 8 0 0),(2,.p 16 0 0),(3,.p 24 0 0),(4,.v (.int .i64)),(5,.o qbo 47)],[(8,[.v (.int .i64),.v (.sl (.sl qbo))]),(16,[.v (.int .i64),.o (.sl qbo) 18]),(24,[.v (.int .i64),.o (.sl qbo) 26])],[],[]⟩)]
abbrev qh7:=((Int×(List NODE)×Int×Unit)×((Int×(List (List NODE))×Unit)×(Int×(List (List NODE))×Unit)×(Int×(List (List NODE))×Unit)×Unit))
abbrev qh6:=((Int×(List NODE)×Unit)×((Int×(List (List NODE))×Unit)×(Int×(List (List NODE))×Unit)×(Int×(List (List NODE))×Unit)×Unit))
def qaJ (g:qh7→Option qh6):qh7→Option qh6
 | ((v_4,v_5,v_6,_),((b8_0,b8_1,_),(b16_0,b16_1,_),(b24_0,b24_1,_),_))=>bif decide (0≤v_4) then (b8_1[v_4.toNat]?).bind fun x1=>bif (decide (v_6<(x1.length:Int))) then (bif (decide (v_6<15)) then (bif decide (0≤v_4) then (b8_1[v_4.toNat]?).bind fun x2=>bif decide (0≤v_6) then (x2[v_6.toNat]?).bind fun x3=>(qbC x3.2.2.1).bind fun r4=>(qbC x3.2.2.2.2.2.2.1).bind fun r5=>(qbC x3.2.2.2.2.2.2.2).bind fun r6=>bif Nat.ble ((v_5.length+1)*208) 140737488355328&&!false then g ((v_4,(v_5++([(x3.1,(x3.2.1,(r4,(x3.2.2.2.1,(x3.2.2.2.2.1,(x3.2.2.2.2.2.1,(r5,r6)))))))]:List NODE)),(iadd .i64 v_6 1),()),((b8_0,b8_1,()),(b16_0,b16_1,()),(b24_0,b24_1,()),())) else none else none else none) else (some ((v_4,v_5,()),((b8_0,b8_1,()),(b16_0,b16_1,()),(b24_0,b24_1,()),())))) else (some ((v_4,v_5,()),((b8_0,b8_1,()),(b16_0,b16_1,()),(b24_0,b24_1,()),()))) else none
abbrev qco:SG:=⟨[(1,.p 8 0 0),(2,.p 16 0 0),(3,.p 24 0 0),(4,.v (.int .i64))],[(8,[.v (.int .i64),.v (.sl (.sl qbo))]),(16,[.v (.int .i64),.o (.sl qbo) 18]),(24,[.v (.int .i64),.o (.sl qbo) 26])],[],[]⟩
abbrev qc7:List (Ex×SG):=[(.exit 0,⟨[(2,.p 16 0 0),(3,.p 24 0 0)],[(16,[.v (.int .i64),.o (.sl qbo) 18]),(24,[.v (.int .i64),.o (.sl qbo) 26])],[],[]⟩)]
abbrev qh9:=((Int×Unit)×((Int×(List (List NODE))×Unit)×(Int×(List (List NODE))×Unit)×(Int×(List (List NODE))×Unit)×Unit))
abbrev qh8:=(Unit×((Int×(List (List NODE))×Unit)×(Int×(List (List NODE))×Unit)×Unit))
def qaK (g:qh9→Option qh8):qh9→Option qh8
 | ((v_4,_),((b8_0,b8_1,_),(b16_0,b16_1,_),(b24_0,b24_1,_),_))=>bif (decide (v_4<(b8_1.length:Int))) then (bif (decide (v_4<6)) then ((lp qaJ K0 ((v_4,[],0,()),((b8_0,b8_1,()),(b16_0,b16_1,()),(b24_0,b24_1,()),()))).bind fun t7=>bif Nat.ble ((t7.2.2.2.1.2.1.length+1)*24) 140737488355328&&!false then g (((iadd .i64 t7.1.1 1),()),((t7.2.1.1,t7.2.1.2.1,()),(t7.2.2.1.1,t7.2.2.1.2.1,()),(t7.2.2.2.1.1,(t7.2.2.2.1.2.1++([t7.1.2.1]:List (List NODE))),()),())) else none) else (some ((()),((b16_0,b16_1,()),(b24_0,b24_1,()),())))) else (some ((()),((b16_0,b16_1,()),(b24_0,b24_1,()),())))
def qep (a_0:qbf):Option qbf :=
 (lp qaK K0 ((0,()),((a_0.1,a_0.2,()),(0,[],()),(a_0.1,[],()),()))).bind fun t8=>some (t8.2.2.1.1,t8.2.2.1.2.1)
def c10:Ctr:=⟨[(qiM,.imm)],[(qiM,false)],qbf,fun x=>qep x.1,fun r=>((),(r,())),none⟩
def qc4 (a_0:RAT):Option RAT :=
 bif (decide ((a_0.1.2.length:Int)>3)) then (bif decide ((3:Int)≤(a_0.1.2.length:Int)) then bif (decide ((a_0.2.length:Int)>3)) then (bif decide ((3:Int)≤(a_0.2.length:Int)) then some ((a_0.1.1,(a_0.1.2.take 3)),(a_0.2.take 3)) else none) else (some ((a_0.1.1,(a_0.1.2.take 3)),a_0.2)) else none) else (bif (decide ((a_0.2.length:Int)>3)) then (bif decide ((3:Int)≤(a_0.2.length:Int)) then some (a_0.1,(a_0.2.take 3)) else none) else (some a_0))
def c28:Ctr:=⟨[(tRAT,.imm)],[(tRAT,false)],RAT,fun x=>qc4 x.1,fun r=>((),(r,())),none⟩
abbrev qcm:SG:=⟨[(0,.v (.sl qaz)),(1,.v (.int .i64)),(5,.o qaz 47),(6,.v (.int .i64))],[],[],[]⟩
abbrev qc5:List (Ex×SG):=[(.exit 0,⟨[(5,.o qaz 47)],[],[],[]⟩)]
def qaV (g:(((List CELL)×Int×(List CELL)×Int×Unit)×Unit)→Option (((List CELL)×Unit)×Unit)):(((List CELL)×Int×(List CELL)×Int×Unit)×Unit)→Option (((List CELL)×Unit)×Unit)
 | ((l_0,n_1,out_5,i_6,_),_)=>bif (decide (i_6<(l_0.length:Int))) then (bif (decide (i_6<n_1)) then (bif decide (0≤i_6) then (l_0[i_6.toNat]?).bind fun x1=>(qc4 x1.2).bind fun r2=>bif Nat.ble ((out_5.length+1)*64) 140737488355328&&!false then g ((l_0,n_1,(out_5++([(x1.1,r2)]:List CELL)),(iadd .i64 i_6 1),()),()) else none else none) else (some ((out_5,()),()))) else (some ((out_5,()),()))
def qcK (l_0:List CELL) (n_1:Int):Option (List CELL) :=
 (lp qaV K0 ((l_0,n_1,[],0,()),())).bind fun t3=>some t3.1.1
def c11:Ctr:=⟨[((.sl qaz),.imm),((.int .i64),.imm)],[((.sl qaz),true)],(List CELL),fun x=>qcK x.1 x.2.1,fun r=>((),(r,())),none⟩
def qcI (m_0:qbf) (row_1:List CELL):Option (qbf×(List CELL)) :=
 (qep m_0).bind fun r1=>bif (decide ((r1.2.length:Int)>3)) then (bif decide ((3:Int)≤(r1.2.length:Int)) then (qcK row_1 70).bind fun r2=>some ((r1.1,(r1.2.take 3)),r2) else none) else ((qcK row_1 70).bind fun r3=>some (r1,r3))
def c4:Ctr:=⟨[(qiM,.imm),((.sl qaz),.imm)],[(qiM,false),((.sl qaz),true)],qbf×(List CELL),fun x=>qcI x.1 x.2.1,fun r=>((),(r.1,r.2,())),none⟩
abbrev qfm:SG:=⟨[(22,.v (.sl (.sl qbo))),(23,.v (.int .i64)),(24,.v (.int .i64)),(36,.v (.sl qbo)),(37,.v (.int .i64)),(38,.v (.int .i64))],[],[],[]⟩
abbrev qgH:List (Ex×SG):=[(.exit 2,⟨[(22,.v (.sl (.sl qbo))),(23,.v (.int .i64)),(24,.v (.int .i64))],[],[],[]⟩),(.ret,⟨[(2,.v .bool)],[],[],[]⟩)]
abbrev qlK:=(((List (List NODE))×Int×Int×(List NODE)×Int×Int×Unit)×Unit)
abbrev qlJ:=((((List (List NODE))×Int×Int×Unit)×Unit) ⊕ ((Bool×Unit)×Unit))
def qb5 (g:qlK→Option qlJ):qlK→Option qlJ
 | ((v_22,v_23,v_24,v_36,v_37,v_38,_),_)=>bif (decide (v_38<v_37)) then (bif decide (0≤v_38) then (v_36[v_38.toNat]?).bind fun x2=>bif (decide (x2.2.1<0)) then (some (.inr ((false,()),()))) else (bif (decide (x2.2.1>64)) then (some (.inr ((false,()),()))) else (bif (decide (x2.2.2.2.1<0)) then (some (.inr ((false,()),()))) else (bif (decide (x2.2.2.2.1>255)) then (some (.inr ((false,()),()))) else (bif (decide (x2.2.2.2.2.1<0)) then (some (.inr ((false,()),()))) else (bif (decide (x2.2.2.2.2.1>255)) then (some (.inr ((false,()),()))) else (g ((v_22,v_23,v_24,v_36,v_37,(iadd .i64 v_38 1),()),()))))))) else none) else (some (.inl ((v_22,v_23,v_24,()),())))
abbrev qfn:SG:=⟨[(22,.v (.sl (.sl qbo))),(23,.v (.int .i64)),(24,.v (.int .i64))],[],[],[]⟩
abbrev qgI:List (Ex×SG):=[(.exit 0,⟨[],[],[],[]⟩),(.ret,⟨[(2,.v .bool)],[],[],[]⟩)]
def qbl (g:(((List (List NODE))×Int×Int×Unit)×Unit)→Option ((Unit×Unit) ⊕ ((Bool×Unit)×Unit))):(((List (List NODE))×Int×Int×Unit)×Unit)→Option ((Unit×Unit) ⊕ ((Bool×Unit)×Unit))
 | ((v_22,v_23,v_24,_),_)=>bif (decide (v_24<v_23)) then (bif decide (0≤v_24) then (v_22[v_24.toNat]?).bind fun x1=>bif (decide ((x1.length:Int)<1)) then (some (.inr ((false,()),()))) else (bif (decide ((x1.length:Int)>255)) then (some (.inr ((false,()),()))) else ((lp qb5 K0 ((v_22,v_23,v_24,x1,(x1.length:Int),0,()),())).bind fun t3=>(match t3 with | .inl t4=>g ((t4.1.1,t4.1.2.1,(iadd .i64 t4.1.2.2.1 1),()),()) | .inr t5=>some (.inr ((t5.1.1,()),()))))) else none) else (some (.inl ((()),())))
def qj8 (a_0:qbf):Option Bool :=
 bif (decide (a_0.1<0)) then (some false) else (bif (decide (a_0.1>64)) then (some false) else (bif (decide ((a_0.2.length:Int)>64)) then (some false) else ((lp qbl K0 ((a_0.2,(a_0.2.length:Int),0,()),())).bind fun t6=>(match t6 with | .inl t7=>some true | .inr t8=>some t8.1.1))))
def c78:Ctr:=⟨[(qiM,.imm)],[(.bool,false)],Bool,fun x=>qj8 x.1,fun r=>((),(r,())),none⟩
abbrev qdN:SG:=⟨[(0,.v (.sl qbo)),(1,.v (.int .i64)),(8,.v (.sl qbo)),(9,.v (.int .i64)),(10,.v (.int .i64))],[],[],[]⟩
abbrev qeQ:List (Ex×SG):=[(.exit 0,⟨[],[],[],[]⟩),(.ret,⟨[(4,.v (.int .i64)),(5,.v (.int .i64))],[],[],[]⟩)]
abbrev qjB:=(((List NODE)×Int×(List NODE)×Int×Int×Unit)×Unit)
abbrev qjA:=((Unit×Unit) ⊕ ((Int×Int×Unit)×Unit))
def qa9 (g:qjB→Option qjA):qjB→Option qjA
 | ((t_0,features_1,v_8,v_9,v_10,_),_)=>bif (decide (v_10<v_9)) then (bif decide (0≤v_10) then (v_8[v_10.toNat]?).bind fun x1=>bif x1.1 then (g ((t_0,features_1,v_8,v_9,(iadd .i64 v_10 1),()),())) else (bif (decide (x1.2.1<0)) then (some (.inr ((v_10,8,()),()))) else (bif (decide (x1.2.1≥features_1)) then (some (.inr ((v_10,8,()),()))) else (bif (decide (x1.2.2.2.1<1)) then (some (.inr ((v_10,8,()),()))) else (bif (decide (x1.2.2.2.1≥(t_0.length:Int))) then (some (.inr ((v_10,8,()),()))) else (bif (decide (x1.2.2.2.2.1<1)) then (some (.inr ((v_10,8,()),()))) else (bif (decide (x1.2.2.2.2.1≥(t_0.length:Int))) then (some (.inr ((v_10,8,()),()))) else (g ((t_0,features_1,v_8,v_9,(iadd .i64 v_10 1),()),())))))))) else none) else (some (.inl ((()),())))
def qf4 (t_0:List NODE) (features_1:Int):Option (Int×Int) :=
 (lp qa9 K0 ((t_0,features_1,t_0,(t_0.length:Int),0,()),())).bind fun t2=>(match t2 with | .inl t3=>some (0,0) | .inr t4=>some (t4.1.1,t4.1.2.1))
def c79:Ctr:=⟨[((.sl qbo),.imm),((.int .i64),.imm)],[((.int .i64),false),((.int .i64),false)],Int×Int,fun x=>qf4 x.1 x.2.1,fun r=>((),(r.1,r.2,())),none⟩
abbrev qeu:SG:=⟨[(0,.v (.sl qbo)),(4,.o (.int .i64) 39),(18,.v (.sl qbo)),(19,.v (.int .i64)),(20,.v (.int .i64))],[],[],[]⟩
abbrev qfA:List (Ex×SG):=[(.exit 0,⟨[(0,.v (.sl qbo)),(4,.o (.int .i64) 39)],[],[],[]⟩)]
abbrev qkT:=(((List NODE)×(List Int)×(List NODE)×Int×Int×Unit)×Unit)
abbrev qkS:=(((List NODE)×(List Int)×Unit)×Unit)
def qbU (g:qkT→Option qkS):qkT→Option qkS
 | ((v_0,v_4,v_18,v_19,v_20,_),_)=>bif (decide (v_20<v_19)) then (bif decide (0≤v_20) then (v_18[v_20.toNat]?).bind fun x1=>bif (!x1.1) then (bif decide (0≤x1.2.2.2.1)&&decide (x1.2.2.2.1<(v_4.length:Int)) then (v_4[x1.2.2.2.1.toNat]?).bind fun x2=>bif decide (0≤x1.2.2.2.1)&&decide (x1.2.2.2.1<(v_4.length:Int)) then (v_4[x1.2.2.2.1.toNat]?).bind fun _=>bif decide (0≤x1.2.2.2.2.1)&&decide (x1.2.2.2.2.1<((v_4.set x1.2.2.2.1.toNat (iadd .i64 x2 1)).length:Int)) then ((v_4.set x1.2.2.2.1.toNat (iadd .i64 x2 1))[x1.2.2.2.2.1.toNat]?).bind fun x4=>bif decide (0≤x1.2.2.2.2.1)&&decide (x1.2.2.2.2.1<((v_4.set x1.2.2.2.1.toNat (iadd .i64 x2 1)).length:Int)) then ((v_4.set x1.2.2.2.1.toNat (iadd .i64 x2 1))[x1.2.2.2.2.1.toNat]?).bind fun _=>g ((v_0,((v_4.set x1.2.2.2.1.toNat (iadd .i64 x2 1)).set x1.2.2.2.2.1.toNat (iadd .i64 x4 1)),v_18,v_19,(iadd .i64 v_20 1),()),()) else none else none else none else none) else (g ((v_0,v_4,v_18,v_19,(iadd .i64 v_20 1),()),())) else none) else (some ((v_0,v_4,()),()))
abbrev qdM:SG:=⟨[(0,.v (.sl qbo)),(42,.o (.int .i64) 343),(43,.v (.int .i64)),(44,.v (.int .i64))],[],[],[]⟩
abbrev qeP:List (Ex×SG):=[(.exit 2,⟨[(0,.v (.sl qbo))],[],[],[]⟩),(.ret,⟨[(2,.v (.int .i64)),(3,.v (.int .i64))],[],[],[]⟩)]
def qaW (g:(((List NODE)×(List Int)×Int×Int×Unit)×Unit)→Option ((((List NODE)×Unit)×Unit) ⊕ ((Int×Int×Unit)×Unit))):(((List NODE)×(List Int)×Int×Int×Unit)×Unit)→Option ((((List NODE)×Unit)×Unit) ⊕ ((Int×Int×Unit)×Unit))
 | ((v_0,v_42,v_43,v_44,_),_)=>bif (decide (v_44<v_43)) then (bif decide (0≤v_44)&&decide (v_44<(v_42.length:Int)) then (v_42[v_44.toNat]?).bind fun x7=>bif (decide (v_44>0)) then (bif (!decide (x7=1)) then (some (.inr ((v_44,11,()),()))) else (g ((v_0,v_42,v_43,(iadd .i64 v_44 1),()),()))) else (g ((v_0,v_42,v_43,(iadd .i64 v_44 1),()),())) else none) else (some (.inl ((v_0,()),())))
abbrev qdL:SG:=⟨[(0,.v (.sl qbo)),(9,.o .bool 79),(10,.o (.int .i64) 87)],[],[],[]⟩
abbrev qeO:List (Ex×SG):=[(.exit 4,⟨[(9,.o .bool 79)],[],[],[]⟩)]
def qbV (g:(((List NODE)×(List Bool)×(List Int)×Unit)×Unit)→Option (((List Bool)×Unit)×Unit)):(((List NODE)×(List Bool)×(List Int)×Unit)×Unit)→Option (((List Bool)×Unit)×Unit)
 | ((v_0,v_9,v_10,_),_)=>bif (decide ((v_10.length:Int)>0)) then (bif decide (0≤(isub .i64 (v_10.length:Int) 1))&&decide ((isub .i64 (v_10.length:Int) 1)<(v_10.length:Int)) then (v_10[(isub .i64 (v_10.length:Int) 1).toNat]?).bind fun x11=>bif decide ((0:Int)≤(isub .i64 (v_10.length:Int) 1))&&decide (((isub .i64 (v_10.length:Int) 1):Int)≤(isub .i64 (v_10.length:Int) 1))&&decide (((isub .i64 (v_10.length:Int) 1):Int)≤(v_10.length:Int)) then bif decide (0≤x11)&&decide (x11<(v_9.length:Int)) then (v_9[x11.toNat]?).bind fun _=>bif decide (0≤x11) then (v_0[x11.toNat]?).bind fun x13=>bif (!x13.1) then (bif Nat.ble (((v_10.take (((isub .i64 (v_10.length:Int) 1)-0).toNat)).length+2)*8) 140737488355328&&!false then g ((v_0,(v_9.set x11.toNat true),((v_10.take (((isub .i64 (v_10.length:Int) 1)-0).toNat))++([x13.2.2.2.1,x13.2.2.2.2.1]:List Int)),()),()) else none) else (g ((v_0,(v_9.set x11.toNat true),(v_10.take (((isub .i64 (v_10.length:Int) 1)-0).toNat)),()),())) else none else none else none else none) else (some ((v_9,()),()))
abbrev qdK:SG:=⟨[(92,.o .bool 743),(93,.v (.int .i64)),(94,.v (.int .i64))],[],[],[]⟩
abbrev qeN:List (Ex×SG):=[(.exit 6,⟨[],[],[],[]⟩),(.ret,⟨[(2,.v (.int .i64)),(3,.v (.int .i64))],[],[],[]⟩)]
def qa8 (g:(((List Bool)×Int×Int×Unit)×Unit)→Option ((Unit×Unit) ⊕ ((Int×Int×Unit)×Unit))):(((List Bool)×Int×Int×Unit)×Unit)→Option ((Unit×Unit) ⊕ ((Int×Int×Unit)×Unit))
 | ((v_92,v_93,v_94,_),_)=>bif (decide (v_94<v_93)) then (bif decide (0≤v_94)&&decide (v_94<(v_92.length:Int)) then (v_92[v_94.toNat]?).bind fun x15=>bif (!x15) then (some (.inr ((v_94,11,()),()))) else (g ((v_92,v_93,(iadd .i64 v_94 1),()),())) else none) else (some (.inl ((()),())))
def qiJ (a_0:List NODE):Option (Int×Int) :=
 bif decide ((a_0.length:Int)=(a_0.length:Int))&&decide (0≤(a_0.length:Int))&&decide (((8:Nat):Int)*(a_0.length:Int)≤281474976710656)&&decide ((a_0.length:Int)≤9223372036854775807) then (lp qbU K0 ((a_0,(List.replicate (a_0.length:Int).toNat (0:Int)),a_0,(a_0.length:Int),0,()),())).bind fun t6=>(lp qaW K0 ((t6.1.1,t6.1.2.1,(t6.1.2.1.length:Int),0,()),())).bind fun t8=>(match t8 with | .inl t9=>bif decide ((t9.1.1.length:Int)=(t9.1.1.length:Int))&&decide (0≤(t9.1.1.length:Int))&&decide (((1:Nat):Int)*(t9.1.1.length:Int)≤281474976710656)&&decide ((t9.1.1.length:Int)≤9223372036854775807) then (lp qbV K0 ((t9.1.1,(List.replicate (t9.1.1.length:Int).toNat (false:Bool)),([0]:List Int),()),())).bind fun t14=>(lp qa8 K0 ((t14.1.1,(t14.1.1.length:Int),0,()),())).bind fun t16=>(match t16 with | .inl t17=>some (0,0) | .inr t18=>some (t18.1.1,t18.1.2.1)) else none | .inr t10=>some (t10.1.1,t10.1.2.1)) else none
def c80:Ctr:=⟨[((.sl qbo),.imm)],[((.int .i64),false),((.int .i64),false)],Int×Int,fun x=>qiJ x.1,fun r=>((),(r.1,r.2,())),none⟩
abbrev qhl:SG:=⟨[(0,.o (.int .u64) 7),(3,.v (.int .i64))],[],[],[]⟩
abbrev qiT:List (Ex×SG):=[(.exit 0,⟨[(0,.o (.int .u64) 7),(3,.v (.int .i64))],[],[],[]⟩)]
def qef (g:(((List Int)×Int×Unit)×Unit)→Option (((List Int)×Int×Unit)×Unit)):(((List Int)×Int×Unit)×Unit)→Option (((List Int)×Int×Unit)×Unit)
 | ((a_0,n_3,_),_)=>bif (decide (n_3>0)) then (bif decide (0≤(isub .i64 n_3 1))&&decide ((isub .i64 n_3 1)<(a_0.length:Int)) then (a_0[(isub .i64 n_3 1).toNat]?).bind fun x1=>bif (decide (x1=0)) then (g ((a_0,(isub .i64 n_3 1),()),())) else (some ((a_0,n_3,()),())) else none) else (some ((a_0,n_3,()),()))
def qeH (a_0:List Int):Option (List Int) :=
 (lp qef K0 ((a_0,(a_0.length:Int),()),())).bind fun t2=>bif (decide (t2.1.2.1=0)) then (some ([])) else (bif decide ((0:Int)≤t2.1.2.1)&&decide ((t2.1.2.1:Int)≤t2.1.2.1)&&decide ((t2.1.2.1:Int)≤(t2.1.1.length:Int)) then some (t2.1.1.take ((t2.1.2.1-0).toNat)) else none)
def c55:Ctr:=⟨[((.sl (.int .u64)),.own)],[((.sl (.int .u64)),true)],(List Int),fun x=>qeH x.1,fun r=>((),(r,())),none⟩
def qlG (n_0:Int):Option (List Int) :=
 (qeH ([(iand .u64 n_0 4294967295),(shrV .u64 n_0 32)]:List Int)).bind fun r1=>some r1
def c30:Ctr:=⟨[((.int .u64),.imm)],[((.sl (.int .u64)),true)],(List Int),fun x=>qlG x.1,fun r=>((),(r,())),none⟩
def qdQ :Option RAT :=
 (qlG 1).bind fun r1=>some ((false,[]),r1)
def c13:Ctr:=⟨[],[(tRAT,false)],RAT,fun x=>qdQ ,fun r=>((),(r,())),none⟩
abbrev qgn:SG:=⟨[(3,.o (.int .u64) 31),(9,.v (.sl (.int .u64))),(10,.v (.int .i64)),(11,.v (.int .i64))],[],[],[]⟩
abbrev qhX:List (Ex×SG):=[(.exit 0,⟨[(3,.o (.int .u64) 31)],[],[],[]⟩)]
def qdr (g:(((List Int)×(List Int)×Int×Int×Unit)×Unit)→Option (((List Int)×Unit)×Unit)):(((List Int)×(List Int)×Int×Int×Unit)×Unit)→Option (((List Int)×Unit)×Unit)
 | ((out_3,v_9,v_10,v_11,_),_)=>bif (decide (v_11<v_10)) then (bif decide (0≤v_11) then (v_9[v_11.toNat]?).bind fun x1=>bif decide (0≤v_11)&&decide (v_11<(out_3.length:Int)) then (out_3[v_11.toNat]?).bind fun _=>g (((out_3.set v_11.toNat (iand .u64 x1 4294967295)),v_9,v_10,(iadd .i64 v_11 1),()),()) else none else none) else (some ((out_3,()),()))
def qb4 (a_0:List Int):Option (List Int) :=
 bif decide ((a_0.length:Int)=(a_0.length:Int))&&decide (0≤(a_0.length:Int))&&decide (((8:Nat):Int)*(a_0.length:Int)≤281474976710656)&&decide ((a_0.length:Int)≤9223372036854775807) then (lp qdr K0 (((List.replicate (a_0.length:Int).toNat (0:Int)),a_0,(a_0.length:Int),0,()),())).bind fun t3=>(qeH t3.1.1).bind fun r4=>some r4 else none
def c56:Ctr:=⟨[((.sl (.int .u64)),.imm)],[((.sl (.int .u64)),true)],(List Int),fun x=>qb4 x.1,fun r=>((),(r,())),none⟩
def qr7 (a_0:List Int):Option (Int×Bool) :=
 (qb4 a_0).bind fun r1=>bif (decide ((r1.length:Int)=0)) then (some (0,true)) else (bif (decide ((r1.length:Int)=1)) then (bif decide ((0:Int)<(r1.length:Int)) then (r1[0]?).bind fun x2=>some (x2,true) else none) else (bif (decide ((r1.length:Int)=2)) then (bif decide ((1:Int)<(r1.length:Int)) then (r1[1]?).bind fun x3=>bif decide ((0:Int)<(r1.length:Int)) then (r1[0]?).bind fun x4=>some ((ior .u64 (shlV .u64 x3 32) x4),true) else none else none) else (some (0,false))))
def c120:Ctr:=⟨[((.sl (.int .u64)),.imm)],[((.int .u64),false),(.bool,false)],Int×Bool,fun x=>qr7 x.1,fun r=>((),(r.1,r.2,())),none⟩
abbrev qfj:SG:=⟨[(5,.v (.int .u64)),(7,.v (.int .u64))],[],[],[]⟩
abbrev qgG:List (Ex×SG):=[(.exit 0,⟨[(5,.v (.int .u64))],[],[],[]⟩)]
def qdq (g:((Int×Int×Unit)×Unit)→Option ((Int×Unit)×Unit)):((Int×Int×Unit)×Unit)→Option ((Int×Unit)×Unit)
 | ((x_5,y_7,_),_)=>bif (!decide (y_7=0)) then (bif decide (y_7=0) then none else (g ((y_7,(irem x_5 y_7),()),()))) else (some ((x_5,()),()))
def qj3 (a_0:List Int) (b_1:List Int):Option (List Int) :=
 (qr7 a_0).bind fun r1=>(qr7 b_1).bind fun r2=>(lp qdq K0 ((r1.1,r2.1,()),())).bind fun t3=>(qlG t3.1.1).bind fun r4=>some r4
def c96:Ctr:=⟨[((.sl (.int .u64)),.imm),((.sl (.int .u64)),.imm)],[((.sl (.int .u64)),true)],(List Int),fun x=>qj3 x.1 x.2.1,fun r=>((),(r,())),none⟩
def tz64 (a0:Int):Option Int:=bif decide (0<a0)&&decide (a0<18446744073709551616) then some ((tzN 64 a0.toNat:Nat):Int) else none
def c121:Ctr:=⟨[((.int .u64),.imm)],[((.int .i64),false)],Int,fun x=>tz64 x.1,fun r=>((),(r,())),none⟩
abbrev qgh:SG:=⟨[(3,.v (.int .i64)),(6,.v (.sl (.int .u64))),(7,.v (.int .i64)),(8,.v (.int .i64))],[],[],[]⟩
abbrev qhR:List (Ex×SG):=[(.exit 0,⟨[(3,.v (.int .i64))],[],[],[]⟩),(.ret,⟨[(2,.v (.int .i64))],[],[],[]⟩)]
def qd7 (g:((Int×(List Int)×Int×Int×Unit)×Unit)→Option (((Int×Unit)×Unit) ⊕ ((Int×Unit)×Unit))):((Int×(List Int)×Int×Int×Unit)×Unit)→Option (((Int×Unit)×Unit) ⊕ ((Int×Unit)×Unit))
 | ((n_3,v_6,v_7,v_8,_),_)=>bif (decide (v_8<v_7)) then (bif decide (0≤v_8) then (v_6[v_8.toNat]?).bind fun x1=>bif (!decide (x1=0)) then ((tz64 x1).bind fun r2=>some (.inr (((iadd .i64 (imul .i64 32 v_8) r2),()),()))) else (g (((iadd .i64 n_3 32),v_6,v_7,(iadd .i64 v_8 1),()),())) else none) else (some (.inl ((n_3,()),())))
def qci (a_0:List Int):Option Int :=
 (lp qd7 K0 ((0,a_0,(a_0.length:Int),0,()),())).bind fun t3=>(match t3 with | .inl t4=>some t4.1.1 | .inr t5=>some t5.1.1)
def c97:Ctr:=⟨[((.sl (.int .u64)),.imm)],[((.int .i64),false)],Int,fun x=>qci x.1,fun r=>((),(r,())),none⟩
def qhA (a_0:List Int) (i_1:Int):Option Int :=
 bif (decide (i_1<(a_0.length:Int))) then (bif decide (0≤i_1) then (a_0[i_1.toNat]?).bind fun x1=>some x1 else none) else (some 0)
def c105:Ctr:=⟨[((.sl (.int .u64)),.imm),((.int .i64),.imm)],[((.int .u64),false)],Int,fun x=>qhA x.1 x.2.1,fun r=>((),(r,())),none⟩
abbrev qiB:SG:=⟨[(0,.v (.sl (.int .u64))),(5,.v (.int .i64)),(6,.v (.int .i64)),(7,.o (.int .u64) 63),(23,.v (.int .i64)),(24,.v (.int .i64))],[],[],[]⟩
abbrev qj1:List (Ex×SG):=[(.exit 0,⟨[(7,.o (.int .u64) 63)],[],[],[]⟩)]
abbrev qpH:=(((List Int)×Int×Int×(List Int)×Int×Int×Unit)×Unit)
abbrev qpG:=(((List Int)×Unit)×Unit)
def qfh (g:qpH→Option qpG):qpH→Option qpG
 | ((a_0,words_5,s_6,out_7,v_23,v_24,_),_)=>bif (decide (v_24<v_23)) then ((qhA a_0 (iadd .i64 (iadd .i64 v_24 words_5) 1)).bind fun r1=>bif decide (0≤(iadd .i64 v_24 words_5)) then (a_0[(iadd .i64 v_24 words_5).toNat]?).bind fun x2=>bif decide (s_6<0) then none else (bif decide (0≤v_24)&&decide (v_24<(out_7.length:Int)) then (out_7[v_24.toNat]?).bind fun _=>g ((a_0,words_5,s_6,(out_7.set v_24.toNat (iand .u64 (shrV .u64 (ior .u64 (shlV .u64 r1 32) x2) s_6) 4294967295)),v_23,(iadd .i64 v_24 1),()),()) else none) else none) else (some ((out_7,()),()))
def qeg (a_0:List Int) (n_1:Int):Option (List Int) :=
 bif (decide ((iquo .i64 n_1 32)≥(a_0.length:Int))) then (some ([])) else (bif decide ((isub .i64 (a_0.length:Int) (iquo .i64 n_1 32))=(isub .i64 (a_0.length:Int) (iquo .i64 n_1 32)))&&decide (0≤(isub .i64 (a_0.length:Int) (iquo .i64 n_1 32)))&&decide (((8:Nat):Int)*(isub .i64 (a_0.length:Int) (iquo .i64 n_1 32))≤281474976710656)&&decide ((isub .i64 (a_0.length:Int) (iquo .i64 n_1 32))≤9223372036854775807) then (lp qfh K0 ((a_0,(iquo .i64 n_1 32),(irem n_1 32),(List.replicate (isub .i64 (a_0.length:Int) (iquo .i64 n_1 32)).toNat (0:Int)),((List.replicate (isub .i64 (a_0.length:Int) (iquo .i64 n_1 32)).toNat (0:Int)).length:Int),0,()),())).bind fun t4=>(qeH t4.1.1).bind fun r5=>some r5 else none)
def c98:Ctr:=⟨[((.sl (.int .u64)),.imm),((.int .i64),.imm)],[((.sl (.int .u64)),true)],(List Int),fun x=>qeg x.1 x.2.1,fun r=>((),(r,())),none⟩
abbrev qgj:SG:=⟨[(0,.v (.sl (.int .u64))),(1,.v (.sl (.int .u64))),(5,.v (.int .i64))],[],[],[]⟩
abbrev qhT:List (Ex×SG):=[(.exit 1,⟨[],[],[],[]⟩),(.ret,⟨[(4,.v (.int .i64))],[],[],[]⟩)]
def qcT (g:(((List Int)×(List Int)×Int×Unit)×Unit)→Option ((Unit×Unit) ⊕ ((Int×Unit)×Unit))):(((List Int)×(List Int)×Int×Unit)×Unit)→Option ((Unit×Unit) ⊕ ((Int×Unit)×Unit))
 | ((a_0,b_1,i_5,_),_)=>bif (decide (i_5≥0)) then (bif decide (0≤i_5) then (a_0[i_5.toNat]?).bind fun x1=>bif decide (0≤i_5) then (b_1[i_5.toNat]?).bind fun x2=>bif (decide (x1<x2)) then (some (.inr (((-1),()),()))) else (bif decide (0≤i_5) then (a_0[i_5.toNat]?).bind fun x3=>bif decide (0≤i_5) then (b_1[i_5.toNat]?).bind fun x4=>bif (decide (x3>x4)) then (some (.inr ((1,()),()))) else (g ((a_0,b_1,(isub .i64 i_5 1),()),())) else none else none) else none else none) else (some (.inl ((()),())))
def qhU (a_0:List Int) (b_1:List Int):Option Int :=
 bif (decide ((a_0.length:Int)<(b_1.length:Int))) then (some (-1)) else (bif (decide ((a_0.length:Int)>(b_1.length:Int))) then (some 1) else ((lp qcT K0 ((a_0,b_1,(isub .i64 (a_0.length:Int) 1),()),())).bind fun t5=>(match t5 with | .inl t6=>some 0 | .inr t7=>some t7.1.1)))
def c99:Ctr:=⟨[((.sl (.int .u64)),.imm),((.sl (.int .u64)),.imm)],[((.int .i64),false)],Int,fun x=>qhU x.1 x.2.1,fun r=>((),(r,())),none⟩
abbrev qiC:SG:=⟨[(5,.v (.int .i64)),(6,.v (.int .i64)),(7,.o (.int .u64) 63),(20,.v (.sl (.int .u64))),(21,.v (.int .i64)),(22,.v (.int .i64))],[],[],[]⟩
abbrev qj2:List (Ex×SG):=[(.exit 0,⟨[(7,.o (.int .u64) 63)],[],[],[]⟩)]
abbrev qpJ:=((Int×Int×(List Int)×(List Int)×Int×Int×Unit)×Unit)
abbrev qpI:=(((List Int)×Unit)×Unit)
def qfi (g:qpJ→Option qpI):qpJ→Option qpI
 | ((words_5,s_6,out_7,v_20,v_21,v_22,_),_)=>bif (decide (v_22<v_21)) then (bif decide (0≤v_22) then (v_20[v_22.toNat]?).bind fun x1=>bif decide (s_6<0) then none else (bif decide (0≤(iadd .i64 v_22 words_5))&&decide ((iadd .i64 v_22 words_5)<(out_7.length:Int)) then (out_7[(iadd .i64 v_22 words_5).toNat]?).bind fun x2=>bif decide (0≤(iadd .i64 v_22 words_5))&&decide ((iadd .i64 v_22 words_5)<(out_7.length:Int)) then (out_7[(iadd .i64 v_22 words_5).toNat]?).bind fun _=>bif decide (0≤(iadd .i64 (iadd .i64 v_22 words_5) 1))&&decide ((iadd .i64 (iadd .i64 v_22 words_5) 1)<((out_7.set ((iadd .i64 v_22 words_5).toNat) (ior .u64 x2 (iand .u64 (shlV .u64 x1 s_6) 4294967295))).length:Int)) then ((out_7.set ((iadd .i64 v_22 words_5).toNat) (ior .u64 x2 (iand .u64 (shlV .u64 x1 s_6) 4294967295)))[(iadd .i64 (iadd .i64 v_22 words_5) 1).toNat]?).bind fun _=>g ((words_5,s_6,((out_7.set ((iadd .i64 v_22 words_5).toNat) (ior .u64 x2 (iand .u64 (shlV .u64 x1 s_6) 4294967295))).set ((iadd .i64 (iadd .i64 v_22 words_5) 1).toNat) (shrV .u64 (shlV .u64 x1 s_6) 32)),v_20,v_21,(iadd .i64 v_22 1),()),()) else none else none else none) else none) else (some ((out_7,()),()))
def qiV (a_0:List Int) (n_1:Int):Option (List Int) :=
 bif decide ((iadd .i64 (iadd .i64 (a_0.length:Int) (iquo .i64 n_1 32)) 1)=(iadd .i64 (iadd .i64 (a_0.length:Int) (iquo .i64 n_1 32)) 1))&&decide (0≤(iadd .i64 (iadd .i64 (a_0.length:Int) (iquo .i64 n_1 32)) 1))&&decide (((8:Nat):Int)*(iadd .i64 (iadd .i64 (a_0.length:Int) (iquo .i64 n_1 32)) 1)≤281474976710656)&&decide ((iadd .i64 (iadd .i64 (a_0.length:Int) (iquo .i64 n_1 32)) 1)≤9223372036854775807) then (lp qfi K0 (((iquo .i64 n_1 32),(irem n_1 32),(List.replicate (iadd .i64 (iadd .i64 (a_0.length:Int) (iquo .i64 n_1 32)) 1).toNat (0:Int)),a_0,(a_0.length:Int),0,()),())).bind fun t5=>(qeH t5.1.1).bind fun r6=>some r6 else none
def c100:Ctr:=⟨[((.sl (.int .u64)),.imm),((.int .i64),.imm)],[((.sl (.int .u64)),true)],(List Int),fun x=>qiV x.1 x.2.1,fun r=>((),(r,())),none⟩
abbrev qgi:SG:=⟨[(0,.v (.sl (.int .u64))),(1,.v (.int .u64)),(6,.o (.int .u64) 55),(7,.v (.int .u64)),(8,.v (.int .i64))],[],[],[]⟩
abbrev qhS:List (Ex×SG):=[(.exit 0,⟨[(6,.o (.int .u64) 55),(7,.v (.int .u64))],[],[],[]⟩)]
def qd8 (g:(((List Int)×Int×(List Int)×Int×Int×Unit)×Unit)→Option (((List Int)×Int×Unit)×Unit)):(((List Int)×Int×(List Int)×Int×Int×Unit)×Unit)→Option (((List Int)×Int×Unit)×Unit)
 | ((a_0,d_1,out_6,rest_7,i_8,_),_)=>bif (decide (i_8≥0)) then (bif decide (0≤i_8) then (a_0[i_8.toNat]?).bind fun x1=>bif decide (d_1=0) then none else (bif decide (0≤i_8)&&decide (i_8<(out_6.length:Int)) then (out_6[i_8.toNat]?).bind fun _=>bif decide (d_1=0) then none else (g ((a_0,d_1,(out_6.set i_8.toNat (iquo .u64 (ior .u64 (shlV .u64 rest_7 32) x1) d_1)),(irem (ior .u64 (shlV .u64 rest_7 32) x1) d_1),(isub .i64 i_8 1),()),())) else none) else none) else (some ((out_6,rest_7,()),()))
def qlB (a_0:List Int) (d_1:Int):Option ((List Int)×Int) :=
 bif decide ((a_0.length:Int)=(a_0.length:Int))&&decide (0≤(a_0.length:Int))&&decide (((8:Nat):Int)*(a_0.length:Int)≤281474976710656)&&decide ((a_0.length:Int)≤9223372036854775807) then (lp qd8 K0 ((a_0,d_1,(List.replicate (a_0.length:Int).toNat (0:Int)),0,(isub .i64 (a_0.length:Int) 1),()),())).bind fun t3=>(qeH t3.1.1).bind fun r4=>some (r4,t3.1.2.1) else none
def c103:Ctr:=⟨[((.sl (.int .u64)),.imm),((.int .u64),.imm)],[((.sl (.int .u64)),true),((.int .u64),false)],(List Int)×Int,fun x=>qlB x.1 x.2.1,fun r=>((),(r.1,r.2,())),none⟩
def qye (a0:Int):Option Int:=bif decide (0≤a0)&&decide (a0<4294967296) then some ((lenN a0.toNat:Nat):Int) else none
def c130:Ctr:=⟨[((.int .u32),.imm)],[((.int .i64),false)],Int,fun x=>qye x.1,fun r=>((),(r,())),none⟩
def qc8 (x_0:Int):Option Int :=
 (qye x_0).bind fun r1=>some (isub .i64 32 r1)
def c122:Ctr:=⟨[((.int .u32),.imm)],[((.int .i64),false)],Int,fun x=>qc8 x.1,fun r=>((),(r,())),none⟩
abbrev qhm:SG:=⟨[(0,.l (.int .u64) 0),(1,.v (.sl (.int .u64))),(2,.v (.int .u64)),(7,.v (.int .u64)),(8,.v (.int .u64)),(12,.v (.int .i64)),(13,.v (.int .i64))],[],[],[]⟩
abbrev qiU:List (Ex×SG):=[(.exit 0,⟨[(0,.l (.int .u64) 0),(8,.v (.int .u64))],[],[],[]⟩)]
abbrev qoe:=(((List Int)×(List Int)×Int×Int×Int×Int×Int×Unit)×Unit)
abbrev qod:=(((List Int)×Int×Unit)×Unit)
def qeZ (g:qoe→Option qod):qoe→Option qod
 | ((u_0,v_1,times_2,carry_7,debt_8,v_12,v_13,_),_)=>bif (decide (v_13<v_12)) then ((qhA v_1 v_13).bind fun r1=>bif decide (0≤v_13)&&decide (v_13<(u_0.length:Int)) then (u_0[v_13.toNat]?).bind fun x2=>bif decide (0≤v_13)&&decide (v_13<(u_0.length:Int)) then (u_0[v_13.toNat]?).bind fun _=>g (((u_0.set v_13.toNat (iand .u64 (isub .u64 (isub .u64 (iadd .u64 4294967296 x2) (iand .u64 (iadd .u64 carry_7 (imul .u64 times_2 r1)) 4294967295)) debt_8) 4294967295)),v_1,times_2,(shrV .u64 (iadd .u64 carry_7 (imul .u64 times_2 r1)) 32),(isub .u64 1 (shrV .u64 (isub .u64 (isub .u64 (iadd .u64 4294967296 x2) (iand .u64 (iadd .u64 carry_7 (imul .u64 times_2 r1)) 4294967295)) debt_8) 32)),v_12,(iadd .i64 v_13 1),()),()) else none else none) else (some ((u_0,debt_8,()),()))
def qof (u_0:List Int) (v_1:List Int) (times_2:Int):Option ((List Int)×Bool) :=
 (lp qeZ K0 ((u_0,v_1,times_2,0,0,(u_0.length:Int),0,()),())).bind fun t4=>(bif Nat.beq t4.1.1.length u_0.length then some (t4.1.1,()) else none).bind fun l5=>some (l5.1,(decide (t4.1.2.1=1)))
def c131:Ctr:=⟨[((.sl (.int .u64)),.lent),((.sl (.int .u64)),.imm),((.int .u64),.imm)],[(.bool,false)],(List Int)×Bool,fun x=>qof x.1 x.2.1 x.2.2.1,fun r=>((r.1,()),(r.2,())),none⟩
abbrev qho:SG:=⟨[(0,.l (.int .u64) 0),(1,.v (.sl (.int .u64))),(4,.v (.int .u64)),(7,.v (.int .i64)),(8,.v (.int .i64))],[],[],[]⟩
abbrev qiX:List (Ex×SG):=[(.exit 0,⟨[(0,.l (.int .u64) 0)],[],[],[]⟩)]
def qe0 (g:(((List Int)×(List Int)×Int×Int×Int×Unit)×Unit)→Option (((List Int)×Unit)×Unit)):(((List Int)×(List Int)×Int×Int×Int×Unit)×Unit)→Option (((List Int)×Unit)×Unit)
 | ((u_0,v_1,carry_4,v_7,v_8,_),_)=>bif (decide (v_8<v_7)) then (bif decide (0≤v_8)&&decide (v_8<(u_0.length:Int)) then (u_0[v_8.toNat]?).bind fun x1=>(qhA v_1 v_8).bind fun r2=>bif decide (0≤v_8)&&decide (v_8<(u_0.length:Int)) then (u_0[v_8.toNat]?).bind fun _=>g (((u_0.set v_8.toNat (iand .u64 (iadd .u64 carry_4 (iadd .u64 x1 r2)) 4294967295)),v_1,(shrV .u64 (iadd .u64 carry_4 (iadd .u64 x1 r2)) 32),v_7,(iadd .i64 v_8 1),()),()) else none else none) else (some ((u_0,()),()))
def qoj (u_0:List Int) (v_1:List Int):Option (List Int) :=
 (lp qe0 K0 ((u_0,v_1,0,(u_0.length:Int),0,()),())).bind fun t4=>(bif Nat.beq t4.1.1.length u_0.length then some (t4.1.1,()) else none).bind fun l5=>some l5.1
def c132:Ctr:=⟨[((.sl (.int .u64)),.lent),((.sl (.int .u64)),.imm)],[],(List Int),fun x=>qoj x.1 x.2.1,fun r=>((r,()),()),none⟩
abbrev qgl:SG:=⟨[(0,.l (.int .u64) 0),(1,.v (.sl (.int .u64))),(5,.v (.int .i64)),(7,.v (.int .u64)),(8,.v (.int .u64))],[],[],[]⟩
abbrev qhW:List (Ex×SG):=[(.exit 0,⟨[(0,.l (.int .u64) 0),(1,.v (.sl (.int .u64))),(7,.v (.int .u64))],[],[],[]⟩)]
def qbJ (g:(((List Int)×(List Int)×Int×Int×Int×Unit)×Unit)→Option (((List Int)×(List Int)×Int×Unit)×Unit)):(((List Int)×(List Int)×Int×Int×Int×Unit)×Unit)→Option (((List Int)×(List Int)×Int×Unit)×Unit)
 | ((v_0,v_1,v_5,v_7,v_8,_),_)=>bif (decide (v_7≥4294967296)) then (bif decide (0≤(isub .i64 v_5 1)) then (v_1[(isub .i64 v_5 1).toNat]?).bind fun x5=>bif (decide ((iadd .u64 v_8 x5)≥4294967296)) then (some ((v_0,v_1,(isub .u64 v_7 1),()),())) else (g ((v_0,v_1,v_5,(isub .u64 v_7 1),(iadd .u64 v_8 x5),()),())) else none) else (bif decide (0≤(isub .i64 v_5 2)) then (v_1[(isub .i64 v_5 2).toNat]?).bind fun x6=>bif decide (0≤(isub .i64 v_5 2))&&decide ((isub .i64 v_5 2)<(v_0.length:Int)) then (v_0[(isub .i64 v_5 2).toNat]?).bind fun x7=>bif (decide ((imul .u64 v_7 x6)>(ior .u64 (shlV .u64 v_8 32) x7))) then (bif decide (0≤(isub .i64 v_5 1)) then (v_1[(isub .i64 v_5 1).toNat]?).bind fun x8=>bif (decide ((iadd .u64 v_8 x8)≥4294967296)) then (some ((v_0,v_1,(isub .u64 v_7 1),()),())) else (g ((v_0,v_1,v_5,(isub .u64 v_7 1),(iadd .u64 v_8 x8),()),())) else none) else (some ((v_0,v_1,v_7,()),())) else none else none)
def qj4 (a_0:List Int) (a_1:List Int):Option ((List Int)×Int) :=
 bif decide (0≤(a_1.length:Int))&&decide ((a_1.length:Int)<(a_0.length:Int)) then (a_0[(a_1.length:Int).toNat]?).bind fun x1=>bif decide (0≤(isub .i64 (a_1.length:Int) 1))&&decide ((isub .i64 (a_1.length:Int) 1)<(a_0.length:Int)) then (a_0[(isub .i64 (a_1.length:Int) 1).toNat]?).bind fun x2=>bif decide (0≤(isub .i64 (a_1.length:Int) 1)) then (a_1[(isub .i64 (a_1.length:Int) 1).toNat]?).bind fun x3=>bif decide (x3=0) then none else (bif decide (0≤(isub .i64 (a_1.length:Int) 1)) then (a_1[(isub .i64 (a_1.length:Int) 1).toNat]?).bind fun x4=>bif decide (x4=0) then none else ((lp qbJ K0 ((a_0,a_1,(a_1.length:Int),(iquo .u64 (ior .u64 (shlV .u64 x1 32) x2) x3),(irem (ior .u64 (shlV .u64 x1 32) x2) x4),()),())).bind fun t9=>(qof t9.1.1 t9.1.2.1 t9.1.2.2.1).bind fun r10=>bif r10.2 then ((qoj (over t9.1.1 0 r10.1) t9.1.2.1).bind fun r11=>(bif Nat.beq (over (over t9.1.1 0 r10.1) 0 r11).length a_0.length then some ((over (over t9.1.1 0 r10.1) 0 r11),()) else none).bind fun l12=>some (l12.1,(isub .u64 t9.1.2.2.1 1))) else ((bif Nat.beq (over t9.1.1 0 r10.1).length a_0.length then some ((over t9.1.1 0 r10.1),()) else none).bind fun l13=>some (l13.1,t9.1.2.2.1))) else none) else none else none else none
def c123:Ctr:=⟨[((.sl (.int .u64)),.lent),((.sl (.int .u64)),.imm)],[((.int .u64),false)],(List Int)×Int,fun x=>qj4 x.1 x.2.1,fun r=>((r.1,()),(r.2,())),none⟩
abbrev qhn:SG:=⟨[(6,.v (.int .i64)),(7,.v (.sl (.int .u64))),(8,.o (.int .u64) 71),(9,.v (.int .i64)),(10,.o (.int .u64) 87),(11,.v (.int .i64))],[],[],[]⟩
abbrev qiW:List (Ex×SG):=[(.exit 0,⟨[(6,.v (.int .i64)),(8,.o (.int .u64) 71),(10,.o (.int .u64) 87)],[],[],[]⟩)]
abbrev qoh:=((Int×(List Int)×(List Int)×Int×(List Int)×Int×Unit)×Unit)
abbrev qog:=((Int×(List Int)×(List Int)×Unit)×Unit)
def qeh (g:qoh→Option qog):qoh→Option qog
 | ((s_6,v_7,u_8,n_9,q_10,j_11,_),_)=>bif (decide (j_11≥0)) then (bif decide (0≤j_11)&&decide ((j_11:Int)≤(iadd .i64 (iadd .i64 j_11 n_9) 1))&&decide (((iadd .i64 (iadd .i64 j_11 n_9) 1):Int)≤(iadd .i64 (iadd .i64 j_11 n_9) 1))&&decide (((iadd .i64 (iadd .i64 j_11 n_9) 1):Int)≤(u_8.length:Int)) then (qj4 ((u_8.drop j_11.toNat).take (((iadd .i64 (iadd .i64 j_11 n_9) 1)-j_11).toNat)) v_7).bind fun r5=>bif decide (0≤j_11)&&decide (j_11<(q_10.length:Int)) then (q_10[j_11.toNat]?).bind fun _=>g ((s_6,v_7,(over u_8 j_11.toNat r5.1),n_9,(q_10.set j_11.toNat r5.2),(isub .i64 j_11 1),()),()) else none else none) else (some ((s_6,u_8,q_10,()),()))
def qoi (a_0:List Int) (b_1:List Int):Option ((List Int)×(List Int)) :=
 bif decide (0≤(isub .i64 (b_1.length:Int) 1)) then (b_1[(isub .i64 (b_1.length:Int) 1).toNat]?).bind fun x1=>(qc8 (IntKind.wrap .u32 x1)).bind fun r2=>(qiV b_1 r2).bind fun r3=>(qiV a_0 r2).bind fun r4=>bif Nat.ble ((r4.length+2)*8) 140737488355328&&!false then bif decide ((0:Int)≤(iadd .i64 (a_0.length:Int) 1))&&decide (((iadd .i64 (a_0.length:Int) 1):Int)≤(iadd .i64 (a_0.length:Int) 1))&&decide (((iadd .i64 (a_0.length:Int) 1):Int)≤((r4++([0,0]:List Int)).length:Int)) then bif decide ((isub .i64 (((iadd .i64 (a_0.length:Int) 1)-0).toNat:Int) (r3.length:Int))=(isub .i64 (((iadd .i64 (a_0.length:Int) 1)-0).toNat:Int) (r3.length:Int)))&&decide (0≤(isub .i64 (((iadd .i64 (a_0.length:Int) 1)-0).toNat:Int) (r3.length:Int)))&&decide (((8:Nat):Int)*(isub .i64 (((iadd .i64 (a_0.length:Int) 1)-0).toNat:Int) (r3.length:Int))≤281474976710656)&&decide ((isub .i64 (((iadd .i64 (a_0.length:Int) 1)-0).toNat:Int) (r3.length:Int))≤9223372036854775807) then (lp qeh K0 ((r2,r3,((r4++([0,0]:List Int)).take (((iadd .i64 (a_0.length:Int) 1)-0).toNat)),(r3.length:Int),(List.replicate (isub .i64 (((iadd .i64 (a_0.length:Int) 1)-0).toNat:Int) (r3.length:Int)).toNat (0:Int)),(isub .i64 ((List.replicate (isub .i64 (((iadd .i64 (a_0.length:Int) 1)-0).toNat:Int) (r3.length:Int)).toNat (0:Int)).length:Int) 1),()),())).bind fun t7=>(qeH t7.1.2.2.1).bind fun r8=>(qeH t7.1.2.1).bind fun r9=>(qeg r9 t7.1.1).bind fun r10=>some (r8,r10) else none else none else none else none
def c104:Ctr:=⟨[((.sl (.int .u64)),.imm),((.sl (.int .u64)),.imm)],[((.sl (.int .u64)),true),((.sl (.int .u64)),true)],(List Int)×(List Int),fun x=>qoi x.1 x.2.1,fun r=>((),(r.1,r.2,())),none⟩
def qfl (a_0:List Int) (b_1:List Int):Option ((List Int)×(List Int)×Int) :=
 (qb4 a_0).bind fun r1=>(qb4 b_1).bind fun r2=>bif (decide ((r2.length:Int)=0)) then (some ([],[],2)) else ((qhU r1 r2).bind fun r3=>bif (decide (r3<0)) then (some ([],r1,0)) else (bif (decide ((r2.length:Int)=1)) then (bif decide ((0:Int)<(r2.length:Int)) then (r2[0]?).bind fun x4=>(qlB r1 x4).bind fun r5=>(qlG r5.2).bind fun r6=>some (r5.1,r6,0) else none) else ((qoi r1 r2).bind fun r7=>some (r7.1,r7.2,0))))
def c59:Ctr:=⟨[((.sl (.int .u64)),.imm),((.sl (.int .u64)),.imm)],[((.sl (.int .u64)),true),((.sl (.int .u64)),false),((.int .i64),false)],(List Int)×(List Int)×Int,fun x=>qfl x.1 x.2.1,fun r=>((),(r.1,r.2.1,r.2.2,())),none⟩
def qjh (a_0:List Int) (b_1:List Int):Option ((List Int)×(List Int)) :=
 (qfl a_0 b_1).bind fun r1=>some (r1.1,r1.2.1)
def c101:Ctr:=⟨[((.sl (.int .u64)),.imm),((.sl (.int .u64)),.imm)],[((.sl (.int .u64)),true),((.sl (.int .u64)),false)],(List Int)×(List Int),fun x=>qjh x.1 x.2.1,fun r=>((),(r.1,r.2,())),none⟩
abbrev qgk:SG:=⟨[(0,.v (.sl (.int .u64))),(1,.v (.sl (.int .u64))),(5,.o (.int .u64) 47),(6,.v (.int .u64)),(13,.v (.int .i64)),(14,.v (.int .i64))],[],[],[]⟩
abbrev qhV:List (Ex×SG):=[(.exit 0,⟨[(5,.o (.int .u64) 47)],[],[],[]⟩)]
abbrev qm3:=(((List Int)×(List Int)×(List Int)×Int×Int×Int×Unit)×Unit)
abbrev qm2:=(((List Int)×Unit)×Unit)
def qd9 (g:qm3→Option qm2):qm3→Option qm2
 | ((a_0,b_1,out_5,debt_6,v_13,v_14,_),_)=>bif (decide (v_14<v_13)) then (bif decide (0≤v_14) then (a_0[v_14.toNat]?).bind fun x1=>(qhA b_1 v_14).bind fun r2=>bif decide (0≤v_14)&&decide (v_14<(out_5.length:Int)) then (out_5[v_14.toNat]?).bind fun _=>g ((a_0,b_1,(out_5.set v_14.toNat (iand .u64 (isub .u64 (isub .u64 (iadd .u64 4294967296 x1) r2) debt_6) 4294967295)),(isub .u64 1 (shrV .u64 (isub .u64 (isub .u64 (iadd .u64 4294967296 x1) r2) debt_6) 32)),v_13,(iadd .i64 v_14 1),()),()) else none else none) else (some ((out_5,()),()))
def qgF (a_0:List Int) (b_1:List Int):Option (List Int) :=
 bif decide ((a_0.length:Int)=(a_0.length:Int))&&decide (0≤(a_0.length:Int))&&decide (((8:Nat):Int)*(a_0.length:Int)≤281474976710656)&&decide ((a_0.length:Int)≤9223372036854775807) then (lp qd9 K0 ((a_0,b_1,(List.replicate (a_0.length:Int).toNat (0:Int)),0,((List.replicate (a_0.length:Int).toNat (0:Int)).length:Int),0,()),())).bind fun t4=>(qeH t4.1.1).bind fun r5=>some r5 else none
def c102:Ctr:=⟨[((.sl (.int .u64)),.imm),((.sl (.int .u64)),.imm)],[((.sl (.int .u64)),true)],(List Int),fun x=>qgF x.1 x.2.1,fun r=>((),(r,())),none⟩
abbrev qhp:SG:=⟨[(0,.o (.int .u64) 7),(1,.v (.sl (.int .u64))),(5,.v (.int .i64)),(6,.v (.int .i64))],[],[],[]⟩
abbrev qiY:List (Ex×SG):=[(.ret,⟨[(4,.o (.int .u64) 39)],[],[],[]⟩)]
def qb3 (g:(((List Int)×(List Int)×Int×Int×Unit)×Unit)→Option (((List Int)×Unit)×Unit)):(((List Int)×(List Int)×Int×Int×Unit)×Unit)→Option (((List Int)×Unit)×Unit)
 | ((v_0,v_1,v_5,v_6,_),_)=>(qhU v_0 v_1).bind fun r8=>bif (decide (r8=0)) then ((qiV v_0 (mn v_5 v_6)).bind fun r9=>some ((r9,()),())) else (bif (decide (r8<0)) then (bif (decide ((v_1.length:Int)>(iadd .i64 (v_0.length:Int) 1))) then ((qjh v_1 v_0).bind fun r10=>bif (decide ((r10.2.length:Int)=0)) then ((qiV v_0 (mn v_5 v_6)).bind fun r11=>some ((r11,()),())) else ((qci r10.2).bind fun r12=>(qeg r10.2 r12).bind fun r13=>g ((r13,v_0,v_5,v_6,()),()))) else ((qgF v_1 v_0).bind fun r14=>(qci r14).bind fun r15=>(qeg r14 r15).bind fun r16=>g ((r16,v_0,v_5,v_6,()),()))) else (bif (decide ((v_0.length:Int)>(iadd .i64 (v_1.length:Int) 1))) then ((qjh v_0 v_1).bind fun r17=>bif (decide ((r17.2.length:Int)=0)) then ((qiV v_1 (mn v_5 v_6)).bind fun r18=>some ((r18,()),())) else ((qci r17.2).bind fun r19=>(qeg r17.2 r19).bind fun r20=>g ((r20,v_1,v_5,v_6,()),()))) else ((qgF v_0 v_1).bind fun r21=>(qci r21).bind fun r22=>(qeg r21 r22).bind fun r23=>g ((r23,v_1,v_5,v_6,()),()))))
def qqX (a_0:List Int) (a_1:List Int):Option (List Int) :=
 (qb4 a_0).bind fun r1=>(qb4 a_1).bind fun r2=>bif (decide ((r1.length:Int)=0)) then (some r2) else (bif (decide ((r2.length:Int)=0)) then (some r1) else (bif (decide ((r1.length:Int)≤2)) then (bif (decide ((r2.length:Int)≤2)) then ((qj3 r1 r2).bind fun r3=>some r3) else ((qci r1).bind fun r4=>(qci r2).bind fun r5=>(qeg r1 r4).bind fun r6=>(qeg r2 r5).bind fun r7=>(lp qb3 K0 ((r6,r7,r4,r5,()),())).bind fun t24=>some t24.1.1)) else ((qci r1).bind fun r25=>(qci r2).bind fun r26=>(qeg r1 r25).bind fun r27=>(qeg r2 r26).bind fun r28=>(lp qb3 K0 ((r27,r28,r25,r26,()),())).bind fun t29=>some t29.1.1)))
def c58:Ctr:=⟨[((.sl (.int .u64)),.imm),((.sl (.int .u64)),.imm)],[((.sl (.int .u64)),true)],(List Int),fun x=>qqX x.1 x.2.1,fun r=>((),(r,())),none⟩
def qeA (num_0:WH) (den_1:List Int):Option RAT :=
 bif (decide ((num_0.2.length:Int)=0)) then ((qlG 1).bind fun r1=>some ((false,[]),r1)) else ((qqX num_0.2 den_1).bind fun r2=>bif (decide ((r2.length:Int)=1)) then (bif decide ((0:Int)<(r2.length:Int)) then (r2[0]?).bind fun x3=>bif (decide (x3=1)) then (some (num_0,den_1)) else ((qfl num_0.2 r2).bind fun r4=>(qfl den_1 r2).bind fun r5=>some ((num_0.1,r4.1),r5.1)) else none) else ((qfl num_0.2 r2).bind fun r6=>(qfl den_1 r2).bind fun r7=>some ((num_0.1,r6.1),r7.1)))
def c32:Ctr:=⟨[(tWH,.imm),((.sl (.int .u64)),.imm)],[(tRAT,false)],RAT,fun x=>qeA x.1 x.2.1,fun r=>((),(r,())),none⟩
def qdG (neg_0:Bool) (abs_1:List Int):Option WH :=
 bif neg_0 then (some ((decide ((abs_1.length:Int)>0)),abs_1)) else (some (false,abs_1))
def c60:Ctr:=⟨[(.bool,.imm),((.sl (.int .u64)),.imm)],[(tWH,false)],WH,fun x=>qdG x.1 x.2.1,fun r=>((),(r,())),none⟩
def qbA (a_0:WH):Option WH :=
 (qb4 a_0.2).bind fun r1=>(qdG a_0.1 r1).bind fun r2=>some r2
def c57:Ctr:=⟨[(tWH,.imm)],[(tWH,false)],WH,fun x=>qbA x.1,fun r=>((),(r,())),none⟩
def qbb (a_0:RAT):Option RAT :=
 (qb4 a_0.2).bind fun r1=>bif (decide ((r1.length:Int)=0)) then ((qdQ ).bind fun r2=>some r2) else ((qbA a_0.1).bind fun r3=>(qeA r3 r1).bind fun r4=>some r4)
def c31:Ctr:=⟨[(tRAT,.imm)],[(tRAT,false)],RAT,fun x=>qbb x.1,fun r=>((),(r,())),none⟩
def qiw (a_0:WH):Option Int :=
 (qbA a_0).bind fun r1=>bif r1.1 then (some (-1)) else (bif (decide ((r1.2.length:Int)=0)) then (some 0) else (some 1))
def c124:Ctr:=⟨[(tWH,.imm)],[((.int .i64),false)],Int,fun x=>qiw x.1,fun r=>((),(r,())),none⟩
def qhg (a_0:RAT):Option Int :=
 (qbb a_0).bind fun r1=>(qiw r1.1).bind fun r2=>some r2
def c109:Ctr:=⟨[(tRAT,.imm)],[((.int .i64),false)],Int,fun x=>qhg x.1,fun r=>((),(r,())),none⟩
abbrev qdO:SG:=⟨[(6,.v (.sl qbo)),(7,.v (.int .i64)),(8,.v (.int .i64))],[],[],[]⟩
abbrev qeR:List (Ex×SG):=[(.exit 0,⟨[],[],[],[]⟩),(.ret,⟨[(2,.v (.int .i64)),(3,.v (.int .i64))],[],[],[]⟩)]
def qba (g:(((List NODE)×Int×Int×Unit)×Unit)→Option ((Unit×Unit) ⊕ ((Int×Int×Unit)×Unit))):(((List NODE)×Int×Int×Unit)×Unit)→Option ((Unit×Unit) ⊕ ((Int×Int×Unit)×Unit))
 | ((v_6,v_7,v_8,_),_)=>bif (decide (v_8<v_7)) then (bif decide (0≤v_8) then (v_6[v_8.toNat]?).bind fun x1=>(qhg x1.2.2.2.2.2.2.2).bind fun r2=>bif (decide (r2≤0)) then (some (.inr ((v_8,12,()),()))) else (g ((v_6,v_7,(iadd .i64 v_8 1),()),())) else none) else (some (.inl ((()),())))
def qf5 (t_0:List NODE):Option (Int×Int) :=
 (lp qba K0 ((t_0,(t_0.length:Int),0,()),())).bind fun t3=>(match t3 with | .inl t4=>some (0,0) | .inr t5=>some (t5.1.1,t5.1.2.1))
def c81:Ctr:=⟨[((.sl qbo),.imm)],[((.int .i64),false),((.int .i64),false)],Int×Int,fun x=>qf5 x.1,fun r=>((),(r.1,r.2,())),none⟩
abbrev qiF:SG:=⟨[(0,.v (.sl (.int .u64))),(1,.v (.sl (.int .u64))),(5,.o (.int .u64) 47),(6,.v (.int .u64)),(20,.v (.int .i64)),(21,.v (.int .i64))],[],[],[]⟩
abbrev qj7:List (Ex×SG):=[(.exit 0,⟨[(5,.o (.int .u64) 47)],[],[],[]⟩)]
abbrev qpP:=(((List Int)×(List Int)×(List Int)×Int×Int×Int×Unit)×Unit)
abbrev qpO:=(((List Int)×Unit)×Unit)
def qgo (g:qpP→Option qpO):qpP→Option qpO
 | ((a_0,b_1,out_5,carry_6,v_20,v_21,_),_)=>bif (decide (v_21<v_20)) then ((qhA a_0 v_21).bind fun r3=>(qhA b_1 v_21).bind fun r4=>bif decide (0≤v_21)&&decide (v_21<(out_5.length:Int)) then (out_5[v_21.toNat]?).bind fun _=>g ((a_0,b_1,(out_5.set v_21.toNat (iand .u64 (iadd .u64 carry_6 (iadd .u64 r3 r4)) 4294967295)),(shrV .u64 (iadd .u64 carry_6 (iadd .u64 r3 r4)) 32),v_20,(iadd .i64 v_21 1),()),()) else none) else (some ((out_5,()),()))
def qoY (a_0:List Int) (b_1:List Int):Option (List Int) :=
 (qb4 a_0).bind fun r1=>(qb4 b_1).bind fun r2=>bif decide ((iadd .i64 (mx (r1.length:Int) (r2.length:Int)) 1)=(iadd .i64 (mx (r1.length:Int) (r2.length:Int)) 1))&&decide (0≤(iadd .i64 (mx (r1.length:Int) (r2.length:Int)) 1))&&decide (((8:Nat):Int)*(iadd .i64 (mx (r1.length:Int) (r2.length:Int)) 1)≤281474976710656)&&decide ((iadd .i64 (mx (r1.length:Int) (r2.length:Int)) 1)≤9223372036854775807) then (lp qgo K0 ((r1,r2,(List.replicate (iadd .i64 (mx (r1.length:Int) (r2.length:Int)) 1).toNat (0:Int)),0,((List.replicate (iadd .i64 (mx (r1.length:Int) (r2.length:Int)) 1).toNat (0:Int)).length:Int),0,()),())).bind fun t6=>(qeH t6.1.1).bind fun r7=>some r7 else none
def c61:Ctr:=⟨[((.sl (.int .u64)),.imm),((.sl (.int .u64)),.imm)],[((.sl (.int .u64)),true)],(List Int),fun x=>qoY x.1 x.2.1,fun r=>((),(r,())),none⟩
def qia (a_0:List Int) (b_1:List Int):Option Int :=
 (qb4 a_0).bind fun r1=>(qb4 b_1).bind fun r2=>(qhU r1 r2).bind fun r3=>some r3
def c62:Ctr:=⟨[((.sl (.int .u64)),.imm),((.sl (.int .u64)),.imm)],[((.int .i64),false)],Int,fun x=>qia x.1 x.2.1,fun r=>((),(r,())),none⟩
def qlF (a_0:List Int) (b_1:List Int):Option ((List Int)×Int) :=
 (qb4 a_0).bind fun r1=>(qb4 b_1).bind fun r2=>(qhU r1 r2).bind fun r3=>bif (decide (r3<0)) then (some ([],3)) else ((qgF r1 r2).bind fun r4=>some (r4,0))
def c63:Ctr:=⟨[((.sl (.int .u64)),.imm),((.sl (.int .u64)),.imm)],[((.sl (.int .u64)),true),((.int .i64),false)],(List Int)×Int,fun x=>qlF x.1 x.2.1,fun r=>((),(r.1,r.2,())),none⟩
def qlf (a_0:WH) (b_1:WH):Option WH :=
 (qbA a_0).bind fun r1=>(qbA b_1).bind fun r2=>bif (r1.1 == r2.1) then ((qoY r1.2 r2.2).bind fun r3=>(qdG r1.1 r3).bind fun r4=>some r4) else ((qia r1.2 r2.2).bind fun r5=>bif (decide (r5<0)) then ((qlF r2.2 r1.2).bind fun r6=>(qdG r2.1 r6.1).bind fun r7=>some r7) else ((qlF r1.2 r2.2).bind fun r8=>(qdG r1.1 r8.1).bind fun r9=>some r9))
def c33:Ctr:=⟨[(tWH,.imm),(tWH,.imm)],[(tWH,false)],WH,fun x=>qlf x.1 x.2.1,fun r=>((),(r,())),none⟩
abbrev qiD:SG:=⟨[(1,.v (.sl (.int .u64))),(5,.o (.int .u64) 47),(6,.v (.int .i64)),(7,.v (.int .u64)),(8,.v (.int .u64)),(21,.o (.int .u64) 175),(22,.v (.int .i64)),(23,.v (.int .i64)),(28,.v (.sl (.int .u64))),(29,.v (.int .i64)),(30,.v (.int .i64))],[],[],[]⟩
abbrev qj5:List (Ex×SG):=[(.exit 2,⟨[(1,.v (.sl (.int .u64))),(5,.o (.int .u64) 47),(6,.v (.int .i64)),(8,.v (.int .u64)),(21,.o (.int .u64) 175),(22,.v (.int .i64)),(23,.v (.int .i64))],[],[],[]⟩)]
abbrev qpL:=(((List Int)×(List Int)×Int×Int×Int×(List Int)×Int×Int×(List Int)×Int×Int×Unit)×Unit)
abbrev qpK:=(((List Int)×(List Int)×Int×Int×(List Int)×Int×Int×Unit)×Unit)
def qfk (g:qpL→Option qpK):qpL→Option qpK
 | ((v_1,v_5,v_6,v_7,v_8,v_21,v_22,v_23,v_28,v_29,v_30,_),_)=>bif (decide (v_30<v_29)) then (bif decide (0≤v_30) then (v_28[v_30.toNat]?).bind fun x4=>bif decide (0≤(iadd .i64 v_6 v_30))&&decide ((iadd .i64 v_6 v_30)<(v_5.length:Int)) then (v_5[(iadd .i64 v_6 v_30).toNat]?).bind fun x5=>bif decide (0≤(iadd .i64 v_6 v_30))&&decide ((iadd .i64 v_6 v_30)<(v_5.length:Int)) then (v_5[(iadd .i64 v_6 v_30).toNat]?).bind fun _=>g ((v_1,(v_5.set ((iadd .i64 v_6 v_30).toNat) (iand .u64 (iadd .u64 v_8 (iadd .u64 x5 (imul .u64 v_7 x4))) 4294967295)),v_6,v_7,(shrV .u64 (iadd .u64 v_8 (iadd .u64 x5 (imul .u64 v_7 x4))) 32),v_21,v_22,v_23,v_28,v_29,(iadd .i64 v_30 1),()),()) else none else none else none) else (some ((v_1,v_5,v_6,v_8,v_21,v_22,v_23,()),()))
abbrev qiE:SG:=⟨[(1,.v (.sl (.int .u64))),(5,.o (.int .u64) 47),(21,.o (.int .u64) 175),(22,.v (.int .i64)),(23,.v (.int .i64))],[],[],[]⟩
abbrev qj6:List (Ex×SG):=[(.exit 0,⟨[(5,.o (.int .u64) 47)],[],[],[]⟩)]
abbrev qpN:=(((List Int)×(List Int)×(List Int)×Int×Int×Unit)×Unit)
abbrev qpM:=(((List Int)×Unit)×Unit)
def qgm (g:qpN→Option qpM):qpN→Option qpM
 | ((v_1,v_5,v_21,v_22,v_23,_),_)=>bif (decide (v_23<v_22)) then (bif decide (0≤v_23)&&decide (v_23<(v_21.length:Int)) then (v_21[v_23.toNat]?).bind fun x3=>(lp qfk K0 ((v_1,v_5,v_23,x3,0,v_21,v_22,v_23,v_1,(v_1.length:Int),0,()),())).bind fun t7=>bif decide (0≤(iadd .i64 t7.1.2.2.1 (t7.1.1.length:Int)))&&decide ((iadd .i64 t7.1.2.2.1 (t7.1.1.length:Int))<(t7.1.2.1.length:Int)) then (t7.1.2.1[(iadd .i64 t7.1.2.2.1 (t7.1.1.length:Int)).toNat]?).bind fun _=>g ((t7.1.1,(t7.1.2.1.set ((iadd .i64 t7.1.2.2.1 (t7.1.1.length:Int)).toNat) t7.1.2.2.2.1),t7.1.2.2.2.2.1,t7.1.2.2.2.2.2.1,(iadd .i64 t7.1.2.2.2.2.2.2.1 1),()),()) else none else none) else (some ((v_5,()),()))
def qlH (a_0:List Int) (a_1:List Int):Option (List Int) :=
 (qb4 a_0).bind fun r1=>(qb4 a_1).bind fun r2=>bif decide ((iadd .i64 (r1.length:Int) (r2.length:Int))=(iadd .i64 (r1.length:Int) (r2.length:Int)))&&decide (0≤(iadd .i64 (r1.length:Int) (r2.length:Int)))&&decide (((8:Nat):Int)*(iadd .i64 (r1.length:Int) (r2.length:Int))≤281474976710656)&&decide ((iadd .i64 (r1.length:Int) (r2.length:Int))≤9223372036854775807) then (lp qgm K0 ((r2,(List.replicate (iadd .i64 (r1.length:Int) (r2.length:Int)).toNat (0:Int)),r1,(r1.length:Int),0,()),())).bind fun t9=>(qeH t9.1.1).bind fun r10=>some r10 else none
def c36:Ctr:=⟨[((.sl (.int .u64)),.imm),((.sl (.int .u64)),.imm)],[((.sl (.int .u64)),true)],(List Int),fun x=>qlH x.1 x.2.1,fun r=>((),(r,())),none⟩
def qdH (a_0:WH) (b_1:WH):Option WH :=
 (qbA a_0).bind fun r1=>(qbA b_1).bind fun r2=>(qlH r1.2 r2.2).bind fun r3=>(qdG (!(r1.1 == r2.1)) r3).bind fun r4=>some r4
def c34:Ctr:=⟨[(tWH,.imm),(tWH,.imm)],[(tWH,false)],WH,fun x=>qdH x.1 x.2.1,fun r=>((),(r,())),none⟩
def qfF (a_0:RAT):Option WH :=
 some (false,a_0.2)
def c35:Ctr:=⟨[(tRAT,.imm)],[(tWH,false)],WH,fun x=>qfF x.1,fun r=>((),(r,())),none⟩
def qct (a_0:RAT) (b_1:RAT):Option RAT :=
 (qbb a_0).bind fun r1=>(qbb b_1).bind fun r2=>(qfF r2).bind fun r3=>(qdH r1.1 r3).bind fun r4=>(qfF r1).bind fun r5=>(qdH r2.1 r5).bind fun r6=>(qlf r4 r6).bind fun r7=>(qlH r1.2 r2.2).bind fun r8=>(qeA r7 r8).bind fun r9=>some r9
def c15:Ctr:=⟨[(tRAT,.imm),(tRAT,.imm)],[(tRAT,false)],RAT,fun x=>qct x.1 x.2.1,fun r=>((),(r,())),none⟩
def qle (a_0:WH) (b_1:WH):Option Int :=
 (qbA a_0).bind fun r1=>(qbA b_1).bind fun r2=>bif (!(r1.1 == r2.1)) then (bif r1.1 then (some (-1)) else (bif (!(r1.1 == r2.1)) then (some 1) else (bif r1.1 then ((qia r2.2 r1.2).bind fun r3=>some r3) else ((qia r1.2 r2.2).bind fun r4=>some r4)))) else (bif (!(r1.1 == r2.1)) then (some 1) else (bif r1.1 then ((qia r2.2 r1.2).bind fun r5=>some r5) else ((qia r1.2 r2.2).bind fun r6=>some r6)))
def c95:Ctr:=⟨[(tWH,.imm),(tWH,.imm)],[((.int .i64),false)],Int,fun x=>qle x.1 x.2.1,fun r=>((),(r,())),none⟩
def qjN (a_0:RAT) (b_1:RAT):Option Int :=
 (qbb a_0).bind fun r1=>(qbb b_1).bind fun r2=>(qfF r2).bind fun r3=>(qdH r1.1 r3).bind fun r4=>(qfF r1).bind fun r5=>(qdH r2.1 r5).bind fun r6=>(qle r4 r6).bind fun r7=>some r7
def c54:Ctr:=⟨[(tRAT,.imm),(tRAT,.imm)],[((.int .i64),false)],Int,fun x=>qjN x.1 x.2.1,fun r=>((),(r,())),none⟩
def qiz (a_0:RAT) (b_1:RAT):Option Bool :=
 (qjN a_0 b_1).bind fun r1=>some (decide (r1=0))
def c26:Ctr:=⟨[(tRAT,.imm),(tRAT,.imm)],[(.bool,false)],Bool,fun x=>qiz x.1 x.2.1,fun r=>((),(r,())),none⟩
abbrev qfe:SG:=⟨[(0,.v (.sl qbo)),(6,.v (.sl qbo)),(7,.v (.int .i64)),(8,.v (.int .i64))],[],[],[]⟩
abbrev qgw:List (Ex×SG):=[(.exit 0,⟨[],[],[],[]⟩),(.ret,⟨[(2,.v (.int .i64)),(3,.v (.int .i64))],[],[],[]⟩)]
def qby (g:(((List NODE)×(List NODE)×Int×Int×Unit)×Unit)→Option ((Unit×Unit) ⊕ ((Int×Int×Unit)×Unit))):(((List NODE)×(List NODE)×Int×Int×Unit)×Unit)→Option ((Unit×Unit) ⊕ ((Int×Int×Unit)×Unit))
 | ((t_0,v_6,v_7,v_8,_),_)=>bif (decide (v_8<v_7)) then (bif decide (0≤v_8) then (v_6[v_8.toNat]?).bind fun x1=>bif (!x1.1) then (bif decide (0≤x1.2.2.2.1) then (t_0[x1.2.2.2.1.toNat]?).bind fun x2=>bif decide (0≤x1.2.2.2.2.1) then (t_0[x1.2.2.2.2.1.toNat]?).bind fun x3=>(qct x2.2.2.2.2.2.2.2 x3.2.2.2.2.2.2.2).bind fun r4=>(qiz x1.2.2.2.2.2.2.2 r4).bind fun r5=>bif (!r5) then (some (.inr ((v_8,13,()),()))) else (g ((t_0,v_6,v_7,(iadd .i64 v_8 1),()),())) else none else none) else (g ((t_0,v_6,v_7,(iadd .i64 v_8 1),()),())) else none) else (some (.inl ((()),())))
def qix (t_0:List NODE):Option (Int×Int) :=
 (lp qby K0 ((t_0,t_0,(t_0.length:Int),0,()),())).bind fun t6=>(match t6 with | .inl t7=>some (0,0) | .inr t8=>some (t8.1.1,t8.1.2.1))
def c82:Ctr:=⟨[((.sl qbo),.imm)],[((.int .i64),false),((.int .i64),false)],Int×Int,fun x=>qix x.1,fun r=>((),(r.1,r.2,())),none⟩
def qfY (e_0:Int) (tree_1:Int) (node_2:Int):Option (Int×Int×Int×Int) :=
 some (e_0,(0,(tree_1,node_2)))
def c83:Ctr:=⟨[((.int .i64),.imm),((.int .i64),.imm),((.int .i64),.imm)],[((.pair (.int .i64) (.pair (.int .i64) (.pair (.int .i64) (.int .i64)))),false)],(Int×Int×Int×Int),fun x=>qfY x.1 x.2.1 x.2.2.1,fun r=>((),(r,())),none⟩
abbrev qev:SG:=⟨[(1,.p 8 0 0),(2,.p 16 0 0),(3,.v (.int .i64)),(12,.v (.int .i64)),(16,.v (.sl (.sl qbo))),(17,.v (.int .i64)),(18,.v (.int .i64))],[(8,[.v (.int .i64),.v (.sl (.sl qbo))]),(16,[.v (.int .i64),.v (.int .i64),.v (.int .i64),.v (.int .i64)])],[],[]⟩
abbrev qfB:List (Ex×SG):=[(.exit 2,⟨[(1,.p 8 0 0),(2,.p 16 0 0),(12,.v (.int .i64))],[(8,[.v (.int .i64),.v (.sl (.sl qbo))]),(16,[.v (.int .i64),.v (.int .i64),.v (.int .i64),.v (.int .i64)])],[],[]⟩),(.ret,⟨[(2,.p 16 0 0)],[(16,[.v (.int .i64),.v (.int .i64),.v (.int .i64),.v (.int .i64)])],[],[]⟩)]
abbrev qkV:=((Int×Int×(List (List NODE))×Int×Int×Unit)×((Int×(List (List NODE))×Unit)×(Int×Int×Int×Int×Unit)×Unit))
abbrev qkU:=(((Int×Unit)×((Int×(List (List NODE))×Unit)×(Int×Int×Int×Int×Unit)×Unit)) ⊕ (Unit×((Int×Int×Int×Int×Unit)×Unit)))
def qaC (g:qkV→Option qkU):qkV→Option qkU
 | ((rule_3,v_12,v_16,v_17,v_18,_),((b8_0,b8_1,_),(b16_0,b16_1,b16_2,b16_3,_),_))=>bif (decide (v_18<v_17)) then (bif decide (0≤v_18) then (v_16[v_18.toNat]?).bind fun x2=>bif (decide (rule_3=0)) then ((qf4 x2 b8_0).bind fun r3=>bif (!decide (r3.2=0)) then ((qfY r3.2 v_18 r3.1).bind fun r4=>some (.inr ((()),((r4.1,r4.2.1,r4.2.2.1,r4.2.2.2,()),())))) else (g ((rule_3,v_12,v_16,v_17,(iadd .i64 v_18 1),()),((b8_0,b8_1,()),(b16_0,b16_1,b16_2,b16_3,()),())))) else (bif (decide (rule_3=1)) then ((qiJ x2).bind fun r5=>bif (!decide (r5.2=0)) then ((qfY r5.2 v_18 r5.1).bind fun r6=>some (.inr ((()),((r6.1,r6.2.1,r6.2.2.1,r6.2.2.2,()),())))) else (g ((rule_3,v_12,v_16,v_17,(iadd .i64 v_18 1),()),((b8_0,b8_1,()),(b16_0,b16_1,b16_2,b16_3,()),())))) else (bif (decide (rule_3=2)) then ((qf5 x2).bind fun r7=>bif (!decide (r7.2=0)) then ((qfY r7.2 v_18 r7.1).bind fun r8=>some (.inr ((()),((r8.1,r8.2.1,r8.2.2.1,r8.2.2.2,()),())))) else (g ((rule_3,v_12,v_16,v_17,(iadd .i64 v_18 1),()),((b8_0,b8_1,()),(b16_0,b16_1,b16_2,b16_3,()),())))) else (bif (decide (rule_3=3)) then ((qix x2).bind fun r9=>bif (!decide (r9.2=0)) then ((qfY r9.2 v_18 r9.1).bind fun r10=>some (.inr ((()),((r10.1,r10.2.1,r10.2.2.1,r10.2.2.2,()),())))) else (g ((rule_3,v_12,v_16,v_17,(iadd .i64 v_18 1),()),((b8_0,b8_1,()),(b16_0,b16_1,b16_2,b16_3,()),())))) else (bif (!decide ((0:Int)=0)) then ((qfY 0 v_18 0).bind fun r11=>some (.inr ((()),((r11.1,r11.2.1,r11.2.2.1,r11.2.2.2,()),())))) else (g ((rule_3,v_12,v_16,v_17,(iadd .i64 v_18 1),()),((b8_0,b8_1,()),(b16_0,b16_1,b16_2,b16_3,()),()))))))) else none) else (some (.inl ((v_12,()),((b8_0,b8_1,()),(b16_0,b16_1,b16_2,b16_3,()),()))))
abbrev qew:SG:=⟨[(1,.p 8 0 0),(2,.p 16 0 0),(12,.v (.int .i64))],[(8,[.v (.int .i64),.v (.sl (.sl qbo))]),(16,[.v (.int .i64),.v (.int .i64),.v (.int .i64),.v (.int .i64)])],[],[]⟩
abbrev qfC:List (Ex×SG):=[(.exit 0,⟨[(2,.p 16 0 0)],[(16,[.v (.int .i64),.v (.int .i64),.v (.int .i64),.v (.int .i64)])],[],[]⟩),(.ret,⟨[(2,.p 16 0 0)],[(16,[.v (.int .i64),.v (.int .i64),.v (.int .i64),.v (.int .i64)])],[],[]⟩)]
abbrev qkX:=((Int×Unit)×((Int×(List (List NODE))×Unit)×(Int×Int×Int×Int×Unit)×Unit))
abbrev qkW:=((Unit×((Int×Int×Int×Int×Unit)×Unit)) ⊕ (Unit×((Int×Int×Int×Int×Unit)×Unit)))
def qbu (g:qkX→Option qkW):qkX→Option qkW
 | ((v_12,_),((b8_0,b8_1,_),(b16_0,b16_1,b16_2,b16_3,_),_))=>bif (decide (v_12<4)) then ((lp qaC K0 ((v_12,v_12,b8_1,(b8_1.length:Int),0,()),((b8_0,b8_1,()),(b16_0,b16_1,b16_2,b16_3,()),()))).bind fun t12=>(match t12 with | .inl t13=>g (((iadd .i64 t13.1.1 1),()),((t13.2.1.1,t13.2.1.2.1,()),(t13.2.2.1.1,t13.2.2.1.2.1,t13.2.2.1.2.2.1,t13.2.2.1.2.2.2.1,()),())) | .inr t14=>some (.inr ((()),((t14.2.1.1,t14.2.1.2.1,t14.2.1.2.2.1,t14.2.1.2.2.2.1,()),()))))) else (some (.inl ((()),((b16_0,b16_1,b16_2,b16_3,()),()))))
def qhb (m_0:qbf):Option (Int×Int×Int×Int) :=
 (qj8 m_0).bind fun r1=>bif (!r1) then (some (1,(0,(0,0)))) else ((lp qbu K0 ((0,()),((m_0.1,m_0.2,()),(0,0,0,0,()),()))).bind fun t15=>(match t15 with | .inl t16=>some (0,(0,(0,0))) | .inr t17=>some (t17.2.1.1,(t17.2.1.2.1,(t17.2.1.2.2.1,t17.2.1.2.2.2.1)))))
def c48:Ctr:=⟨[(qiM,.imm)],[((.pair (.int .i64) (.pair (.int .i64) (.pair (.int .i64) (.int .i64)))),false)],(Int×Int×Int×Int),fun x=>qhb x.1,fun r=>((),(r,())),none⟩
def qhx (m_0:qbf):Option Bool :=
 (qhb m_0).bind fun r1=>some (decide (r1.1=0)&&(decide (r1.2.1=0)&&(decide (r1.2.2.1=0)&&(decide (r1.2.2.2=0)&&true))))
def c23:Ctr:=⟨[(qiM,.imm)],[(.bool,false)],Bool,fun x=>qhx x.1,fun r=>((),(r,())),none⟩
def qey (m_0:qbf) (row_1:List CELL):Option Int :=
 (qhx m_0).bind fun r1=>bif (!r1) then (some 1) else (bif (!decide ((row_1.length:Int)=m_0.1)) then (some 14) else (some 0))
def c29:Ctr:=⟨[(qiM,.imm),((.sl qaz),.imm)],[((.int .i64),false)],Int,fun x=>qey x.1 x.2.1,fun r=>((),(r,())),none⟩
def qez (m_0:qbf) (row_1:List CELL):Option Int :=
 (qey m_0 row_1).bind fun r1=>some r1
def c12:Ctr:=⟨[(qiM,.imm),((.sl qaz),.imm)],[((.int .i64),false)],Int,fun x=>qez x.1 x.2.1,fun r=>((),(r,())),none⟩
def qcf (feature_0:Int) (x_1:RAT) (b_2:List RAT):Option (List RAT) :=
 bif decide (0≤feature_0)&&decide (feature_0<(b_2.length:Int)) then (b_2[feature_0.toNat]?).bind fun x1=>(qct x1 x_1).bind fun r2=>bif decide (0≤feature_0)&&decide (feature_0<(b_2.length:Int)) then (b_2[feature_0.toNat]?).bind fun _=>some (b_2.set feature_0.toNat r2) else none else none
abbrev w14:Wir:=⟨[.x,.x,.b],[[.x]],0,none,[],[],0⟩
def c14:Ctr:=⟨[((.int .i64),.imm),(tRAT,.imm),((.sl tRAT),.own)],[((.sl tRAT),true)],(List RAT),fun x=>qcf x.1 x.2.1 x.2.2.1,fun r=>((),(r,())),some w14⟩
def qjC (t_0:List NODE) (features_1:Int):Option Bool :=
 (qhx (features_1,([t_0]:List (List NODE)))).bind fun r1=>some r1
def c37:Ctr:=⟨[((.sl qbo),.imm),((.int .i64),.imm)],[(.bool,false)],Bool,fun x=>qjC x.1 x.2.1,fun r=>((),(r,())),none⟩
def qjK (n_0:NODE) (c_1:CELL):Option Bool :=
 bif c_1.1 then (some n_0.2.2.2.2.2.1) else ((qjN c_1.2 n_0.2.2.1).bind fun r1=>some (decide (r1<0)))
def c106:Ctr:=⟨[(qbo,.imm),(qaz,.imm)],[(.bool,false)],Bool,fun x=>qjK x.1 x.2.1,fun r=>((),(r,())),none⟩
def qiy (n_0:NODE) (c_1:CELL):Option Bool :=
 bif (!n_0.1) then ((qjK n_0 c_1).bind fun r1=>some r1) else (some false)
def c64:Ctr:=⟨[(qbo,.imm),(qaz,.imm)],[(.bool,false)],Bool,fun x=>qiy x.1 x.2.1,fun r=>((),(r,())),none⟩
def qah (a_0:RAT) (b_1:RAT):Option RAT :=
 (qbb a_0).bind fun r1=>(qbb b_1).bind fun r2=>(qdH r1.1 r2.1).bind fun r3=>(qlH r1.2 r2.2).bind fun r4=>(qeA r3 r4).bind fun r5=>some r5
def c21:Ctr:=⟨[(tRAT,.imm),(tRAT,.imm)],[(tRAT,false)],RAT,fun x=>qah x.1 x.2.1,fun r=>((),(r,())),none⟩
abbrev qd2:SG:=⟨[(1,.v (.int .i64)),(3,.v .bool),(6,.p 48 0 0),(9,.o qhd 79),(10,.v (.int .i64))],[(48,[.v .bool,.v (.sl (.int .u64)),.v (.sl (.int .u64))])],[],[]⟩
abbrev qe5:List (Ex×SG):=[(.exit 0,⟨[(1,.v (.int .i64)),(3,.v .bool),(6,.p 48 0 0),(9,.o qhd 79),(10,.v (.int .i64))],[(48,[.v .bool,.v (.sl (.int .u64)),.v (.sl (.int .u64))])],[],[]⟩)]
abbrev qkf:=((Int×Bool×(List PART)×Int×Unit)×((Bool×(List Int)×(List Int)×Unit)×Unit))
abbrev qke:=((Int×Bool×(List PART)×Int×Unit)×((Bool×(List Int)×(List Int)×Unit)×Unit))
def qbx (g:qkf→Option qke):qkf→Option qke
 | ((v_1,v_3,v_9,v_10,_),((b48_0,b48_1,b48_2,_),_))=>bif (decide (v_10<(v_9.length:Int))) then (bif decide (0≤v_10)&&decide (v_10<(v_9.length:Int)) then (v_9[v_10.toNat]?).bind fun x1=>bif (decide (x1.1<v_1)) then (g ((v_1,v_3,v_9,(iadd .i64 v_10 1),()),((b48_0,b48_1,b48_2,()),()))) else (some ((v_1,v_3,v_9,v_10,()),((b48_0,b48_1,b48_2,()),()))) else none) else (some ((v_1,v_3,v_9,v_10,()),((b48_0,b48_1,b48_2,()),())))
def qgq (a_0:List PART) (a_1:Int) (a_2:RAT) (a_3:Bool):Option (List PART) :=
 bif Nat.ble ((([]:List PART).length+a_0.length)*72) 140737488355328&&!false then (lp qbx K0 ((a_1,a_3,(([]:List PART)++a_0),0,()),((a_2.1.1,a_2.1.2,a_2.2,()),()))).bind fun t2=>bif (decide (t2.1.2.2.2.1<(t2.1.2.2.1.length:Int))) then (bif decide (0≤t2.1.2.2.2.1)&&decide (t2.1.2.2.2.1<(t2.1.2.2.1.length:Int)) then (t2.1.2.2.1[t2.1.2.2.2.1.toNat]?).bind fun x3=>bif (decide (x3.1=t2.1.1)) then (bif decide (0≤t2.1.2.2.2.1)&&decide (t2.1.2.2.2.1<(t2.1.2.2.1.length:Int)) then (t2.1.2.2.1[t2.1.2.2.2.1.toNat]?).bind fun x4=>(qah x4.2.1 ((t2.2.1.1,t2.2.1.2.1),t2.2.1.2.2.1)).bind fun r5=>bif decide (0≤t2.1.2.2.2.1)&&decide (t2.1.2.2.2.1<(t2.1.2.2.1.length:Int)) then (t2.1.2.2.1[t2.1.2.2.2.1.toNat]?).bind fun x6=>bif decide (0≤t2.1.2.2.2.1)&&decide (t2.1.2.2.2.1<((t2.1.2.2.1.set t2.1.2.2.2.1.toNat (x6.1,(r5,x6.2.2))).length:Int)) then ((t2.1.2.2.1.set t2.1.2.2.2.1.toNat (x6.1,(r5,x6.2.2)))[t2.1.2.2.2.1.toNat]?).bind fun x7=>bif x7.2.2 then (bif decide (0≤t2.1.2.2.2.1)&&decide (t2.1.2.2.2.1<((t2.1.2.2.1.set t2.1.2.2.2.1.toNat (x6.1,(r5,x6.2.2))).length:Int)) then ((t2.1.2.2.1.set t2.1.2.2.2.1.toNat (x6.1,(r5,x6.2.2)))[t2.1.2.2.2.1.toNat]?).bind fun x8=>some ((t2.1.2.2.1.set t2.1.2.2.2.1.toNat (x6.1,(r5,x6.2.2))).set t2.1.2.2.2.1.toNat (x8.1,(x8.2.1,t2.1.2.1))) else none) else (bif decide (0≤t2.1.2.2.2.1)&&decide (t2.1.2.2.2.1<((t2.1.2.2.1.set t2.1.2.2.2.1.toNat (x6.1,(r5,x6.2.2))).length:Int)) then ((t2.1.2.2.1.set t2.1.2.2.2.1.toNat (x6.1,(r5,x6.2.2)))[t2.1.2.2.2.1.toNat]?).bind fun x9=>some ((t2.1.2.2.1.set t2.1.2.2.2.1.toNat (x6.1,(r5,x6.2.2))).set t2.1.2.2.2.1.toNat (x9.1,(x9.2.1,false))) else none) else none else none else none) else (bif Nat.ble ((t2.1.2.2.1.length+1)*72) 140737488355328&&!false then bif decide (0≤(iadd .i64 t2.1.2.2.2.1 1))&&decide (((iadd .i64 t2.1.2.2.2.1 1):Int)≤((t2.1.2.2.1++([(0,(((false,[]),[]),false))]:List PART)).length:Int)) then bif decide (0≤t2.1.2.2.2.1)&&decide ((t2.1.2.2.2.1:Int)≤((t2.1.2.2.1++([(0,(((false,[]),[]),false))]:List PART)).length:Int)) then bif decide (0≤t2.1.2.2.2.1)&&decide (t2.1.2.2.2.1<((over (t2.1.2.2.1++([(0,(((false,[]),[]),false))]:List PART)) ((iadd .i64 t2.1.2.2.2.1 1).toNat) (((t2.1.2.2.1++([(0,(((false,[]),[]),false))]:List PART)).drop t2.1.2.2.2.1.toNat).take ((t2.1.2.2.1++([(0,(((false,[]),[]),false))]:List PART)).drop ((iadd .i64 t2.1.2.2.2.1 1).toNat)).length)).length:Int)) then ((over (t2.1.2.2.1++([(0,(((false,[]),[]),false))]:List PART)) ((iadd .i64 t2.1.2.2.2.1 1).toNat) (((t2.1.2.2.1++([(0,(((false,[]),[]),false))]:List PART)).drop t2.1.2.2.2.1.toNat).take ((t2.1.2.2.1++([(0,(((false,[]),[]),false))]:List PART)).drop ((iadd .i64 t2.1.2.2.2.1 1).toNat)).length))[t2.1.2.2.2.1.toNat]?).bind fun _=>some ((over (t2.1.2.2.1++([(0,(((false,[]),[]),false))]:List PART)) ((iadd .i64 t2.1.2.2.2.1 1).toNat) (((t2.1.2.2.1++([(0,(((false,[]),[]),false))]:List PART)).drop t2.1.2.2.2.1.toNat).take ((t2.1.2.2.1++([(0,(((false,[]),[]),false))]:List PART)).drop ((iadd .i64 t2.1.2.2.2.1 1).toNat)).length)).set t2.1.2.2.2.1.toNat (t2.1.1,(((t2.2.1.1,t2.2.1.2.1),t2.2.1.2.2.1),t2.1.2.1))) else none else none else none else none) else none) else (bif Nat.ble ((t2.1.2.2.1.length+1)*72) 140737488355328&&!false then bif decide (0≤(iadd .i64 t2.1.2.2.2.1 1))&&decide (((iadd .i64 t2.1.2.2.2.1 1):Int)≤((t2.1.2.2.1++([(0,(((false,[]),[]),false))]:List PART)).length:Int)) then bif decide (0≤t2.1.2.2.2.1)&&decide ((t2.1.2.2.2.1:Int)≤((t2.1.2.2.1++([(0,(((false,[]),[]),false))]:List PART)).length:Int)) then bif decide (0≤t2.1.2.2.2.1)&&decide (t2.1.2.2.2.1<((over (t2.1.2.2.1++([(0,(((false,[]),[]),false))]:List PART)) ((iadd .i64 t2.1.2.2.2.1 1).toNat) (((t2.1.2.2.1++([(0,(((false,[]),[]),false))]:List PART)).drop t2.1.2.2.2.1.toNat).take ((t2.1.2.2.1++([(0,(((false,[]),[]),false))]:List PART)).drop ((iadd .i64 t2.1.2.2.2.1 1).toNat)).length)).length:Int)) then ((over (t2.1.2.2.1++([(0,(((false,[]),[]),false))]:List PART)) ((iadd .i64 t2.1.2.2.2.1 1).toNat) (((t2.1.2.2.1++([(0,(((false,[]),[]),false))]:List PART)).drop t2.1.2.2.2.1.toNat).take ((t2.1.2.2.1++([(0,(((false,[]),[]),false))]:List PART)).drop ((iadd .i64 t2.1.2.2.2.1 1).toNat)).length))[t2.1.2.2.2.1.toNat]?).bind fun _=>some ((over (t2.1.2.2.1++([(0,(((false,[]),[]),false))]:List PART)) ((iadd .i64 t2.1.2.2.2.1 1).toNat) (((t2.1.2.2.1++([(0,(((false,[]),[]),false))]:List PART)).drop t2.1.2.2.2.1.toNat).take ((t2.1.2.2.1++([(0,(((false,[]),[]),false))]:List PART)).drop ((iadd .i64 t2.1.2.2.2.1 1).toNat)).length)).set t2.1.2.2.2.1.toNat (t2.1.1,(((t2.2.1.1,t2.2.1.2.1),t2.2.1.2.2.1),t2.1.2.1))) else none else none else none else none) else none
def c65:Ctr:=⟨[((.sl qhd),.imm),((.int .i64),.imm),(tRAT,.imm),(.bool,.imm)],[((.sl qhd),true)],(List PART),fun x=>qgq x.1 x.2.1 x.2.2.1 x.2.2.2.1,fun r=>((),(r,())),none⟩
def qjz (a_0:WH):Option WH :=
 (qbA a_0).bind fun r1=>(qdG (!r1.1) r1.2).bind fun r2=>some r2
def c44:Ctr:=⟨[(tWH,.imm)],[(tWH,false)],WH,fun x=>qjz x.1,fun r=>((),(r,())),none⟩
def qhh (num_0:WH) (den_1:WH):Option (RAT×Int) :=
 (qbA num_0).bind fun r1=>(qbA den_1).bind fun r2=>(qiw r2).bind fun r3=>bif (decide (r3=0)) then (some (((false,[]),[]),2)) else (bif r2.1 then ((qjz r1).bind fun r4=>(qeA r4 r2.2).bind fun r5=>some (r5,0)) else ((qeA r1 r2.2).bind fun r6=>some (r6,0)))
def c108:Ctr:=⟨[(tWH,.imm),(tWH,.imm)],[(tRAT,false),((.int .i64),false)],RAT×Int,fun x=>qhh x.1 x.2.1,fun r=>((),(r.1,r.2,())),none⟩
def qhJ (a_0:RAT):Option (RAT×Int) :=
 (qbb a_0).bind fun r1=>(qfF r1).bind fun r2=>(qhh r2 r1.1).bind fun r3=>some (r3.1,r3.2)
def c68:Ctr:=⟨[(tRAT,.imm)],[(tRAT,false),((.int .i64),false)],RAT×Int,fun x=>qhJ x.1,fun r=>((),(r.1,r.2,())),none⟩
def qiN (a_0:RAT) (b_1:RAT):Option (RAT×Int) :=
 (qhJ b_1).bind fun r1=>bif (!decide (r1.2=0)) then (some (((false,[]),[]),r1.2)) else ((qah a_0 r1.1).bind fun r2=>some (r2,0))
def c107:Ctr:=⟨[(tRAT,.imm),(tRAT,.imm)],[(tRAT,false),((.int .i64),false)],RAT×Int,fun x=>qiN x.1 x.2.1,fun r=>((),(r.1,r.2,())),none⟩
def qht (a_0:RAT) (b_1:RAT):Option RAT :=
 (qiN a_0 b_1).bind fun r1=>some r1.1
def c66:Ctr:=⟨[(tRAT,.imm),(tRAT,.imm)],[(tRAT,false)],RAT,fun x=>qht x.1 x.2.1,fun r=>((),(r,())),none⟩
def qir (rec:(List NODE)→(List CELL)→Int→(List PART)→Option (List LEG)) (a_0:List NODE) (a_1:List CELL) (a_2:Int) (a_3:List PART):Option (List LEG) :=
 bif decide (0≤a_2) then (a_0[a_2.toNat]?).bind fun x1=>bif x1.1 then ((qbb x1.2.2.2.2.2.2.1).bind fun r2=>bif Nat.ble ((([]:List PART).length+a_3.length)*72) 140737488355328&&!false then some ([(a_2,(r2,(([]:List PART)++a_3)))]:List LEG) else none) else (bif decide (0≤x1.2.1) then (a_1[x1.2.1.toNat]?).bind fun x3=>(qiy x1 x3).bind fun r4=>bif decide (0≤x1.2.2.2.1) then (a_0[x1.2.2.2.1.toNat]?).bind fun x5=>(qht x5.2.2.2.2.2.2.2 x1.2.2.2.2.2.2.2).bind fun r6=>(qgq a_3 x1.2.1 r6 r4).bind fun r7=>(rec a_0 a_1 x1.2.2.2.1 r7).bind fun r8=>bif decide (0≤x1.2.2.2.2.1) then (a_0[x1.2.2.2.2.1.toNat]?).bind fun x9=>(qht x9.2.2.2.2.2.2.2 x1.2.2.2.2.2.2.2).bind fun r10=>(qgq a_3 x1.2.1 r10 (!r4)).bind fun r11=>(rec a_0 a_1 x1.2.2.2.2.1 r11).bind fun r12=>bif Nat.ble ((r8.length+r12.length)*88) 140737488355328&&!false then some (r8++r12) else none else none else none else none) else none
def qf1:Nat→(List NODE)→(List CELL)→Int→(List PART)→Option (List LEG)
 | 0=>fun _ _ _ _=>none
 | n+1=>qir (qf1 n)
def c38 (n:Nat):Ctr:=⟨[((.sl qbo),.imm),((.sl qaz),.imm),((.int .i64),.imm),((.sl qhd),.imm)],[((.sl tLEG),true)],(List LEG),fun x=>qf1 n x.1 x.2.1 x.2.2.1 x.2.2.2.1,fun r=>((),(r,())),none⟩
def qhu (t_0:List NODE) (row_1:List CELL):Option ((List LEG)×Int) :=
 (qjC t_0 (row_1.length:Int)).bind fun r1=>bif (!r1) then (some ([],1)) else ((qf1 R0 t_0 row_1 0 ([])).bind fun r2=>some (r2,0))
def c16:Ctr:=⟨[((.sl qbo),.imm),((.sl qaz),.imm)],[((.sl tLEG),true),((.int .i64),false)],(List LEG)×Int,fun x=>qhu x.1 x.2.1,fun r=>((),(r.1,r.2,())),none⟩
abbrev qf9:SG:=⟨[(0,.o tRAT 7),(3,.v (.int .i64))],[],[],[]⟩
abbrev qhK:List (Ex×SG):=[(.exit 0,⟨[(0,.o tRAT 7),(3,.v (.int .i64))],[],[],[]⟩)]
def qdl (g:(((List RAT)×Int×Unit)×Unit)→Option (((List RAT)×Int×Unit)×Unit)):(((List RAT)×Int×Unit)×Unit)→Option (((List RAT)×Int×Unit)×Unit)
 | ((p_0,n_3,_),_)=>bif (decide (n_3>0)) then (bif decide (0≤(isub .i64 n_3 1))&&decide ((isub .i64 n_3 1)<(p_0.length:Int)) then (p_0[(isub .i64 n_3 1).toNat]?).bind fun x1=>(qhg x1).bind fun r2=>bif (decide (r2=0)) then (g ((p_0,(isub .i64 n_3 1),()),())) else (some ((p_0,n_3,()),())) else none) else (some ((p_0,n_3,()),()))
def qhL (p_0:List RAT):Option (List RAT) :=
 (lp qdl K0 ((p_0,(p_0.length:Int),()),())).bind fun t3=>bif decide ((0:Int)≤t3.1.2.1)&&decide ((t3.1.2.1:Int)≤t3.1.2.1)&&decide ((t3.1.2.1:Int)≤(t3.1.1.length:Int)) then some (t3.1.1.take ((t3.1.2.1-0).toNat)) else none
def c70:Ctr:=⟨[((.sl tRAT),.own)],[((.sl tRAT),true)],(List RAT),fun x=>qhL x.1,fun r=>((),(r,())),none⟩
abbrev qfg:SG:=⟨[(3,.o tRAT 31),(9,.v (.sl tRAT)),(10,.v (.int .i64)),(11,.v (.int .i64))],[],[],[]⟩
abbrev qgB:List (Ex×SG):=[(.exit 0,⟨[(3,.o tRAT 31)],[],[],[]⟩)]
def qcQ (g:(((List RAT)×(List RAT)×Int×Int×Unit)×Unit)→Option (((List RAT)×Unit)×Unit)):(((List RAT)×(List RAT)×Int×Int×Unit)×Unit)→Option (((List RAT)×Unit)×Unit)
 | ((out_3,v_9,v_10,v_11,_),_)=>bif (decide (v_11<v_10)) then (bif decide (0≤v_11) then (v_9[v_11.toNat]?).bind fun x1=>(qbb x1).bind fun r2=>bif decide (0≤v_11)&&decide (v_11<(out_3.length:Int)) then (out_3[v_11.toNat]?).bind fun _=>g (((out_3.set v_11.toNat r2),v_9,v_10,(iadd .i64 v_11 1),()),()) else none else none) else (some ((out_3,()),()))
def qgc (p_0:List RAT):Option (List RAT) :=
 bif decide ((p_0.length:Int)=(p_0.length:Int))&&decide (0≤(p_0.length:Int))&&decide (((56:Nat):Int)*(p_0.length:Int)≤281474976710656)&&decide ((p_0.length:Int)≤9223372036854775807) then (lp qcQ K0 (((List.replicate (p_0.length:Int).toNat (((false,[]),[]):RAT)),p_0,(p_0.length:Int),0,()),())).bind fun t4=>(qhL t4.1.1).bind fun r5=>some r5 else none
def c67:Ctr:=⟨[((.sl tRAT),.imm)],[((.sl tRAT),true)],(List RAT),fun x=>qgc x.1,fun r=>((),(r,())),none⟩
def qgA (a_0:RAT):Option RAT :=
 (qbb a_0).bind fun r1=>(qjz r1.1).bind fun r2=>some (r2,r1.2)
def c19:Ctr:=⟨[(tRAT,.imm)],[(tRAT,false)],RAT,fun x=>qgA x.1,fun r=>((),(r,())),none⟩
def qjM (a_0:RAT) (b_1:RAT):Option RAT :=
 (qgA b_1).bind fun r1=>(qct a_0 r1).bind fun r2=>some r2
def c69:Ctr:=⟨[(tRAT,.imm),(tRAT,.imm)],[(tRAT,false)],RAT,fun x=>qjM x.1 x.2.1,fun r=>((),(r,())),none⟩
abbrev qdS:SG:=⟨[(0,.o tRAT 7),(1,.v (.sl tRAT)),(7,.p 56 0 0),(9,.o tRAT 79),(10,.v (.int .i64)),(63,.v (.sl tRAT)),(64,.v (.int .i64)),(65,.v (.int .i64))],[(56,[.v .bool,.v (.sl (.int .u64)),.v (.sl (.int .u64))])],[],[]⟩
abbrev qeS:List (Ex×SG):=[(.exit 2,⟨[(0,.o tRAT 7),(1,.v (.sl tRAT)),(7,.p 56 0 0),(9,.o tRAT 79),(10,.v (.int .i64))],[(56,[.v .bool,.v (.sl (.int .u64)),.v (.sl (.int .u64))])],[],[]⟩)]
abbrev qjP:=(((List RAT)×(List RAT)×(List RAT)×Int×(List RAT)×Int×Int×Unit)×((Bool×(List Int)×(List Int)×Unit)×Unit))
abbrev qjO:=(((List RAT)×(List RAT)×(List RAT)×Int×Unit)×((Bool×(List Int)×(List Int)×Unit)×Unit))
def qbW (g:qjP→Option qjO):qjP→Option qjO
 | ((v_0,v_1,v_9,v_10,v_63,v_64,v_65,_),((b56_0,b56_1,b56_2,_),_))=>bif (decide (v_65<v_64)) then (bif decide (0≤v_65) then (v_63[v_65.toNat]?).bind fun x8=>bif decide (0≤(iadd .i64 v_10 v_65))&&decide ((iadd .i64 v_10 v_65)<(v_0.length:Int)) then (v_0[(iadd .i64 v_10 v_65).toNat]?).bind fun x9=>bif decide (0≤v_10)&&decide (v_10<(v_9.length:Int)) then (v_9[v_10.toNat]?).bind fun x10=>(qah x10 x8).bind fun r11=>(qjM x9 r11).bind fun r12=>bif decide (0≤(iadd .i64 v_10 v_65))&&decide ((iadd .i64 v_10 v_65)<(v_0.length:Int)) then (v_0[(iadd .i64 v_10 v_65).toNat]?).bind fun _=>g (((v_0.set ((iadd .i64 v_10 v_65).toNat) r12),v_1,v_9,v_10,v_63,v_64,(iadd .i64 v_65 1),()),((b56_0,b56_1,b56_2,()),())) else none else none else none else none) else (some ((v_0,v_1,v_9,v_10,()),((b56_0,b56_1,b56_2,()),())))
abbrev qeB:SG:=⟨[(0,.o tRAT 7),(1,.v (.sl tRAT)),(7,.p 56 0 0),(9,.o tRAT 79),(10,.v (.int .i64))],[(56,[.v .bool,.v (.sl (.int .u64)),.v (.sl (.int .u64))])],[],[]⟩
abbrev qfG:List (Ex×SG):=[(.exit 0,⟨[(0,.o tRAT 7),(9,.o tRAT 79)],[],[],[]⟩)]
abbrev qk1:=(((List RAT)×(List RAT)×(List RAT)×Int×Unit)×((Bool×(List Int)×(List Int)×Unit)×Unit))
abbrev qk0:=(((List RAT)×(List RAT)×Unit)×Unit)
def qcp (g:qk1→Option qk0):qk1→Option qk0
 | ((v_0,v_1,v_9,v_10,_),((b56_0,b56_1,b56_2,_),_))=>bif (decide (v_10≥0)) then (bif decide (0≤(isub .i64 (iadd .i64 v_10 (v_1.length:Int)) 1))&&decide ((isub .i64 (iadd .i64 v_10 (v_1.length:Int)) 1)<(v_0.length:Int)) then (v_0[(isub .i64 (iadd .i64 v_10 (v_1.length:Int)) 1).toNat]?).bind fun x5=>(qah x5 ((b56_0,b56_1),b56_2)).bind fun r6=>bif decide (0≤v_10)&&decide (v_10<(v_9.length:Int)) then (v_9[v_10.toNat]?).bind fun _=>(lp qbW K0 ((v_0,v_1,(v_9.set v_10.toNat r6),v_10,v_1,(v_1.length:Int),0,()),((b56_0,b56_1,b56_2,()),()))).bind fun t14=>g ((t14.1.1,t14.1.2.1,t14.1.2.2.1,(isub .i64 t14.1.2.2.2.1 1),()),((t14.2.1.1,t14.2.1.2.1,t14.2.1.2.2.1,()),())) else none else none) else (some ((v_0,v_9,()),()))
def qeT (a_0:List RAT) (a_1:List RAT):Option ((List RAT)×(List RAT)×Int) :=
 (qgc a_0).bind fun r1=>(qgc a_1).bind fun r2=>bif (decide ((r2.length:Int)=0)) then (some ([],[],2)) else (bif (decide ((r1.length:Int)<(r2.length:Int))) then (some ([],r1,0)) else (bif decide (0≤(isub .i64 (r2.length:Int) 1))&&decide ((isub .i64 (r2.length:Int) 1)<(r2.length:Int)) then (r2[(isub .i64 (r2.length:Int) 1).toNat]?).bind fun x3=>(qhJ x3).bind fun r4=>bif decide ((iadd .i64 (isub .i64 (r1.length:Int) (r2.length:Int)) 1)=(iadd .i64 (isub .i64 (r1.length:Int) (r2.length:Int)) 1))&&decide (0≤(iadd .i64 (isub .i64 (r1.length:Int) (r2.length:Int)) 1))&&decide (((56:Nat):Int)*(iadd .i64 (isub .i64 (r1.length:Int) (r2.length:Int)) 1)≤281474976710656)&&decide ((iadd .i64 (isub .i64 (r1.length:Int) (r2.length:Int)) 1)≤9223372036854775807) then (lp qcp K0 ((r1,r2,(List.replicate (iadd .i64 (isub .i64 (r1.length:Int) (r2.length:Int)) 1).toNat (((false,[]),[]):RAT)),(isub .i64 ((List.replicate (iadd .i64 (isub .i64 (r1.length:Int) (r2.length:Int)) 1).toNat (((false,[]),[]):RAT)).length:Int) 1),()),((r4.1.1.1,r4.1.1.2,r4.1.2,()),()))).bind fun t15=>(qhL t15.1.2.1).bind fun r16=>(qhL t15.1.1).bind fun r17=>some (r16,r17,0) else none else none))
def c39:Ctr:=⟨[((.sl tRAT),.imm),((.sl tRAT),.imm)],[((.sl tRAT),true),((.sl tRAT),true),((.int .i64),false)],(List RAT)×(List RAT)×Int,fun x=>qeT x.1 x.2.1,fun r=>((),(r.1,r.2.1,r.2.2,())),none⟩
def qhw (n_0:Int):Option WH :=
 bif (decide (n_0<0)) then ((qlG (ineg .u64 (IntKind.wrap .u64 n_0))).bind fun r1=>(qdG true r1).bind fun r2=>some r2) else ((qlG (IntKind.wrap .u64 n_0)).bind fun r3=>(qdG false r3).bind fun r4=>some r4)
def c73:Ctr:=⟨[((.int .i64),.imm)],[(tWH,false)],WH,fun x=>qhw x.1,fun r=>((),(r,())),none⟩
def qn1 (n_0:Int):Option RAT :=
 (qhw n_0).bind fun r1=>(qlG 1).bind fun r2=>some (r1,r2)
def c45:Ctr:=⟨[((.int .i64),.imm)],[(tRAT,false)],RAT,fun x=>qn1 x.1,fun r=>((),(r,())),none⟩
def qdk :Option RAT :=
 (qn1 1).bind fun r1=>some r1
def c20:Ctr:=⟨[],[(tRAT,false)],RAT,fun x=>qdk ,fun r=>((),(r,())),none⟩
def qfo (p_0:PART):Option (List RAT) :=
 bif p_0.2.2 then ((qdk ).bind fun r1=>some ([p_0.2.1,r1]:List RAT)) else (some ([p_0.2.1]:List RAT))
def c41:Ctr:=⟨[(qhd,.imm)],[((.sl tRAT),true)],(List RAT),fun x=>qfo x.1,fun r=>((),(r,())),none⟩
abbrev qga:SG:=⟨[(1,.v (.sl tRAT)),(5,.o tRAT 47),(7,.v (.int .i64)),(8,.p 64 0 0),(40,.o tRAT 327),(41,.v (.int .i64)),(42,.v (.int .i64)),(47,.v (.sl tRAT)),(48,.v (.int .i64)),(49,.v (.int .i64))],[(64,[.v .bool,.v (.sl (.int .u64)),.v (.sl (.int .u64))])],[],[]⟩
abbrev qhM:List (Ex×SG):=[(.exit 4,⟨[(1,.v (.sl tRAT)),(5,.o tRAT 47),(40,.o tRAT 327),(41,.v (.int .i64)),(42,.v (.int .i64))],[],[],[]⟩)]
abbrev qmX:=(((List RAT)×(List RAT)×Int×(List RAT)×Int×Int×(List RAT)×Int×Int×Unit)×((Bool×(List Int)×(List Int)×Unit)×Unit))
abbrev qmW:=(((List RAT)×(List RAT)×(List RAT)×Int×Int×Unit)×Unit)
def qdm (g:qmX→Option qmW):qmX→Option qmW
 | ((v_1,v_5,v_7,v_40,v_41,v_42,v_47,v_48,v_49,_),((b64_0,b64_1,b64_2,_),_))=>bif (decide (v_49<v_48)) then (bif decide (0≤v_49) then (v_47[v_49.toNat]?).bind fun x7=>bif decide (0≤(iadd .i64 v_7 v_49))&&decide ((iadd .i64 v_7 v_49)<(v_5.length:Int)) then (v_5[(iadd .i64 v_7 v_49).toNat]?).bind fun x8=>(qah ((b64_0,b64_1),b64_2) x7).bind fun r9=>(qct x8 r9).bind fun r10=>bif decide (0≤(iadd .i64 v_7 v_49))&&decide ((iadd .i64 v_7 v_49)<(v_5.length:Int)) then (v_5[(iadd .i64 v_7 v_49).toNat]?).bind fun _=>g ((v_1,(v_5.set ((iadd .i64 v_7 v_49).toNat) r10),v_7,v_40,v_41,v_42,v_47,v_48,(iadd .i64 v_49 1),()),((b64_0,b64_1,b64_2,()),())) else none else none else none) else (some ((v_1,v_5,v_40,v_41,v_42,()),()))
abbrev qhj:SG:=⟨[(0,.o tRAT 7),(1,.o tRAT 15),(5,.o tRAT 47),(31,.v (.int .i64)),(32,.v (.int .i64))],[],[],[]⟩
abbrev qiP:List (Ex×SG):=[(.exit 0,⟨[(0,.o tRAT 7),(1,.o tRAT 15),(5,.o tRAT 47)],[],[],[]⟩)]
abbrev qn8:=(((List RAT)×(List RAT)×(List RAT)×Int×Int×Unit)×Unit)
abbrev qn7:=(((List RAT)×(List RAT)×(List RAT)×Unit)×Unit)
def qeb (g:qn8→Option qn7):qn8→Option qn7
 | ((v_0,v_1,v_5,v_31,v_32,_),_)=>bif (decide (v_32<v_31)) then ((qdQ ).bind fun r3=>bif decide (0≤v_32)&&decide (v_32<(v_5.length:Int)) then (v_5[v_32.toNat]?).bind fun _=>g ((v_0,v_1,(v_5.set v_32.toNat r3),v_31,(iadd .i64 v_32 1),()),()) else none) else (some ((v_0,v_1,v_5,()),()))
abbrev qgb:SG:=⟨[(1,.v (.sl tRAT)),(5,.o tRAT 47),(40,.o tRAT 327),(41,.v (.int .i64)),(42,.v (.int .i64))],[],[],[]⟩
abbrev qhN:List (Ex×SG):=[(.exit 2,⟨[(5,.o tRAT 47)],[],[],[]⟩)]
abbrev qmZ:=(((List RAT)×(List RAT)×(List RAT)×Int×Int×Unit)×Unit)
abbrev qmY:=(((List RAT)×Unit)×Unit)
def qdn (g:qmZ→Option qmY):qmZ→Option qmY
 | ((v_1,v_5,v_40,v_41,v_42,_),_)=>bif (decide (v_42<v_41)) then (bif decide (0≤v_42)&&decide (v_42<(v_40.length:Int)) then (v_40[v_42.toNat]?).bind fun x6=>(lp qdm K0 ((v_1,v_5,v_42,v_40,v_41,v_42,v_1,(v_1.length:Int),0,()),((x6.1.1,x6.1.2,x6.2,()),()))).bind fun t12=>g ((t12.1.1,t12.1.2.1,t12.1.2.2.1,t12.1.2.2.2.1,(iadd .i64 t12.1.2.2.2.2.1 1),()),()) else none) else (some ((v_5,()),()))
def qms (a_0:List RAT) (a_1:List RAT):Option (List RAT) :=
 (qgc a_0).bind fun r1=>(qgc a_1).bind fun r2=>bif (decide ((r1.length:Int)=0)) then (some ([])) else (bif (decide ((r2.length:Int)=0)) then (some ([])) else (bif decide ((isub .i64 (iadd .i64 (r1.length:Int) (r2.length:Int)) 1)=(isub .i64 (iadd .i64 (r1.length:Int) (r2.length:Int)) 1))&&decide (0≤(isub .i64 (iadd .i64 (r1.length:Int) (r2.length:Int)) 1))&&decide (((56:Nat):Int)*(isub .i64 (iadd .i64 (r1.length:Int) (r2.length:Int)) 1)≤281474976710656)&&decide ((isub .i64 (iadd .i64 (r1.length:Int) (r2.length:Int)) 1)≤9223372036854775807) then (lp qeb K0 ((r1,r2,(List.replicate (isub .i64 (iadd .i64 (r1.length:Int) (r2.length:Int)) 1).toNat (((false,[]),[]):RAT)),((List.replicate (isub .i64 (iadd .i64 (r1.length:Int) (r2.length:Int)) 1).toNat (((false,[]),[]):RAT)).length:Int),0,()),())).bind fun t5=>(lp qdn K0 ((t5.1.2.1,t5.1.2.2.1,t5.1.1,(t5.1.1.length:Int),0,()),())).bind fun t13=>(qhL t13.1.1).bind fun r14=>some r14 else none))
def c71:Ctr:=⟨[((.sl tRAT),.imm),((.sl tRAT),.imm)],[((.sl tRAT),true)],(List RAT),fun x=>qms x.1 x.2.1,fun r=>((),(r,())),none⟩
abbrev qeC:SG:=⟨[(3,.o tRAT 31),(9,.v (.sl qhd)),(10,.v (.int .i64)),(11,.v (.int .i64))],[],[],[]⟩
abbrev qfR:List (Ex×SG):=[(.exit 0,⟨[(3,.o tRAT 31)],[],[],[]⟩)]
def qcq (g:(((List RAT)×(List PART)×Int×Int×Unit)×Unit)→Option (((List RAT)×Unit)×Unit)):(((List RAT)×(List PART)×Int×Int×Unit)×Unit)→Option (((List RAT)×Unit)×Unit)
 | ((out_3,v_9,v_10,v_11,_),_)=>bif (decide (v_11<v_10)) then (bif decide (0≤v_11) then (v_9[v_11.toNat]?).bind fun x2=>(qfo x2).bind fun r3=>(qms out_3 r3).bind fun r4=>g ((r4,v_9,v_10,(iadd .i64 v_11 1),()),()) else none) else (some ((out_3,()),()))
def qhr (l_0:LEG):Option (List RAT) :=
 (qdk ).bind fun r1=>(lp qcq K0 ((([r1]:List RAT),l_0.2.2,(l_0.2.2.length:Int),0,()),())).bind fun t5=>some t5.1.1
def c40:Ctr:=⟨[(tLEG,.imm)],[((.sl tRAT),true)],(List RAT),fun x=>qhr x.1,fun r=>((),(r,())),none⟩
def qcU (l_0:LEG) (i_1:Int):Option ((List RAT)×Int) :=
 bif (decide (i_1<0)) then (some ([],8)) else (bif (decide (i_1≥(l_0.2.2.length:Int))) then (some ([],8)) else ((qhr l_0).bind fun r1=>bif decide (0≤i_1) then (l_0.2.2[i_1.toNat]?).bind fun x2=>(qfo x2).bind fun r3=>(qeT r1 r3).bind fun r4=>some (r4.1,r4.2.2) else none))
def c17:Ctr:=⟨[(tLEG,.imm),((.int .i64),.imm)],[((.sl tRAT),true),((.int .i64),false)],(List RAT)×Int,fun x=>qcU x.1 x.2.1,fun r=>((),(r.1,r.2,())),none⟩
def qnO :Option (Int×Int×Int×(List WH)) :=
 some (0,0,0,[])
abbrev w42:Wir:=⟨[],[],0,some 4,[],[],0⟩
def c42:Ctr:=⟨[],[((.int .u32),false),((.int .i32),false),((.int .u32),false),((.sl tWH),false)],Int×Int×Int×(List WH),fun x=>qnO ,fun r=>((),(r.1,r.2.1,r.2.2.1,r.2.2.2,())),some w42⟩
abbrev qcV:SG:=⟨[(1,.p 8 0 0),(2,.o tWH 23),(7,.v (.int .i64))],[(8,[.v .bool,.v (.sl (.int .u64))])],[],[]⟩
abbrev qdJ:List (Ex×SG):=[(.exit 0,⟨[(2,.o tWH 23)],[],[],[]⟩)]
abbrev qiI:=(((List WH)×Int×Unit)×((Bool×(List Int)×Unit)×Unit))
abbrev qiH:=(((List WH)×Unit)×Unit)
def qdI (g:qiI→Option qiH):qiI→Option qiH
 | ((out_2,v_7,_),((b8_0,b8_1,_),_))=>bif (decide (v_7<64)) then ((qhw (iadd .i64 v_7 1)).bind fun r2=>(qdH (b8_0,b8_1) r2).bind fun r3=>bif Nat.ble ((out_2.length+1)*32) 140737488355328&&!false then g (((out_2++([r3]:List WH)),(iadd .i64 v_7 1),()),((r3.1,r3.2,()),())) else none) else (some ((out_2,()),()))
def qes :Option (List WH) :=
 (qhw 1).bind fun r1=>(lp qdI K0 ((([r1]:List WH),0,()),((r1.1,r1.2,()),()))).bind fun t4=>some t4.1.1
def c135:Ctr:=⟨[],[((.sl tWH),true)],(List WH),fun x=>qes ,fun r=>((),(r,())),none⟩
def qfd (b_0:Int) (b_1:Int) (b_2:Int) (b_3:List WH):Option (Int×Int×Int×(List WH)) :=
 (qes ).bind fun r1=>some (b_0,b_1,b_2,r1)
abbrev w134:Wir:=⟨[.b],[[.b],[.x,.x,.x,.x]],0,none,[],[],0⟩
def c134:Ctr:=⟨[((.int .u32),.imm),((.int .i32),.imm),((.int .u32),.imm),((.sl tWH),.imm)],[((.int .u32),false),((.int .i32),false),((.int .u32),false),((.sl tWH),false)],Int×Int×Int×(List WH),fun x=>qfd x.1 x.2.1 x.2.2.1 x.2.2.2.1,fun r=>((),(r.1,r.2.1,r.2.2.1,r.2.2.2,())),some w134⟩
def qik (a0:Int) (a1:Int) (a2:Int) (a3:Int) (a4:List WH):Option (WH×Int×Int×Int×(List WH)):=bif decide (0≤a0) then (bif decide (a1=0) then (bif decide (a2=0) then (qes).bind fun p=>(p[a0.toNat]?).bind fun x=>some (x,1,0,a3,p) else none) else (a4[a0.toNat]?).bind fun x=>some (x,a1,a2,a3,a4)) else none
abbrev w125:Wir:=⟨[.b,.x],[[.x,.x,.x,.x]],1,none,[],[],0⟩
def c125:Ctr:=⟨[((.int .i64),.imm),((.int .u32),.imm),((.int .i32),.imm),((.int .u32),.imm),((.sl tWH),.imm)],[(tWH,false),((.int .u32),false),((.int .i32),false),((.int .u32),false),((.sl tWH),false)],WH×Int×Int×Int×(List WH),fun x=>qik x.1 x.2.1 x.2.2.1 x.2.2.2.1 x.2.2.2.2.1,fun r=>((),(r.1,r.2.1,r.2.2.1,r.2.2.2.1,r.2.2.2.2,())),some w125⟩
def qcL (a_0:Int) (b_1:Int) (c_2:Int) (b_3:Int) (b_4:Int) (b_5:Int) (b_6:List WH):Option (RAT×Int×Int×Int×(List WH)) :=
 (qik a_0 b_3 b_4 b_5 b_6).bind fun r1=>(qik b_1 r1.2.1 r1.2.2.1 r1.2.2.2.1 r1.2.2.2.2).bind fun r2=>(qdH r1.1 r2.1).bind fun r3=>(qik c_2 r2.2.1 r2.2.2.1 r2.2.2.2.1 r2.2.2.2.2).bind fun r4=>(qhh r3 r4.1).bind fun r5=>some (r5.1,r4.2.1,r4.2.2.1,r4.2.2.2.1,r4.2.2.2.2)
abbrev w110:Wir:=⟨[.b,.x,.x,.x],[[.x,.x,.x,.x]],1,none,[],[],0⟩
def c110:Ctr:=⟨[((.int .i64),.imm),((.int .i64),.imm),((.int .i64),.imm),((.int .u32),.imm),((.int .i32),.imm),((.int .u32),.imm),((.sl tWH),.imm)],[(tRAT,false),((.int .u32),false),((.int .i32),false),((.int .u32),false),((.sl tWH),false)],RAT×Int×Int×Int×(List WH),fun x=>qcL x.1 x.2.1 x.2.2.1 x.2.2.2.1 x.2.2.2.2.1 x.2.2.2.2.2.1 x.2.2.2.2.2.2.1,fun r=>((),(r.1,r.2.1,r.2.2.1,r.2.2.2.1,r.2.2.2.2,())),some w110⟩
def qdg (s_0:Int) (n_1:Int) (b_2:Int) (b_3:Int) (b_4:Int) (b_5:List WH):Option (RAT×Int×Int×Int×Int×(List WH)) :=
 bif (decide (n_1<1)) then (some (((false,[]),[]),8,b_2,b_3,b_4,b_5)) else (bif (decide (n_1>64)) then (some (((false,[]),[]),8,b_2,b_3,b_4,b_5)) else (bif (decide (s_0<0)) then (some (((false,[]),[]),8,b_2,b_3,b_4,b_5)) else (bif (decide (s_0≥n_1)) then (some (((false,[]),[]),8,b_2,b_3,b_4,b_5)) else ((qcL s_0 (isub .i64 (isub .i64 n_1 s_0) 1) n_1 b_2 b_3 b_4 b_5).bind fun r1=>some (r1.1,0,r1.2.1,r1.2.2.1,r1.2.2.2.1,r1.2.2.2.2)))))
abbrev w72:Wir:=⟨[.b,.x,.x],[[.x,.x,.x,.x]],2,none,[],[],0⟩
def c72:Ctr:=⟨[((.int .i64),.imm),((.int .i64),.imm),((.int .u32),.imm),((.int .i32),.imm),((.int .u32),.imm),((.sl tWH),.imm)],[(tRAT,false),((.int .i64),false),((.int .u32),false),((.int .i32),false),((.int .u32),false),((.sl tWH),false)],RAT×Int×Int×Int×Int×(List WH),fun x=>qdg x.1 x.2.1 x.2.2.1 x.2.2.2.1 x.2.2.2.2.1 x.2.2.2.2.2.1,fun r=>((),(r.1,r.2.1,r.2.2.1,r.2.2.2.1,r.2.2.2.2.1,r.2.2.2.2.2,())),some w72⟩
abbrev qcE:SG:=⟨[(0,.p 280 0 0),(1,.v (.int .i64)),(6,.o tRAT 55),(18,.v (.int .i64)),(19,.v (.int .i64))],[(280,[.v (.int .u32),.v (.int .i32),.v (.int .u32),.v (.sl tWH)])],[],[]⟩
abbrev qdh:List (Ex×SG):=[(.exit 0,⟨[(0,.p 280 0 0),(6,.o tRAT 55)],[(280,[.v (.int .u32),.v (.int .i32),.v (.int .u32),.v (.sl tWH)])],[],[]⟩)]
abbrev qie:=((Int×(List RAT)×Int×Int×Unit)×((Int×Int×Int×(List WH)×Unit)×Unit))
abbrev qid:=(((List RAT)×Unit)×((Int×Int×Int×(List WH)×Unit)×Unit))
def qbq (g:qie→Option qid):qie→Option qid
 | ((n_1,out_6,v_18,v_19,_),((b280_0,b280_1,b280_2,b280_3,_),_))=>bif (decide (v_19<v_18)) then ((qdg v_19 n_1 b280_0 b280_1 b280_2 b280_3).bind fun r1=>bif Nat.ble ((out_6.length+1)*56) 140737488355328&&!false then g ((n_1,(out_6++([r1.1]:List RAT)),v_18,(iadd .i64 v_19 1),()),((r1.2.2.1,r1.2.2.2.1,r1.2.2.2.2.1,r1.2.2.2.2.2,()),())) else none) else (some ((out_6,()),((b280_0,b280_1,b280_2,b280_3,()),())))
def qeL (n_0:Int) (b_1:Int) (b_2:Int) (b_3:Int) (b_4:List WH):Option ((List RAT)×Int×Int×Int×Int×(List WH)) :=
 bif (decide (n_0<1)) then (some ([],8,b_1,b_2,b_3,b_4)) else (bif (decide (n_0>64)) then (some ([],8,b_1,b_2,b_3,b_4)) else ((lp qbq K0 ((n_0,[],n_0,0,()),((b_1,b_2,b_3,b_4,()),()))).bind fun t2=>some (t2.1.1,0,t2.2.1.1,t2.2.1.2.1,t2.2.1.2.2.1,t2.2.1.2.2.2.1)))
abbrev w43:Wir:=⟨[.b,.x],[[.x,.x,.x,.x]],2,none,[],[],0⟩
def c43:Ctr:=⟨[((.int .i64),.imm),((.int .u32),.imm),((.int .i32),.imm),((.int .u32),.imm),((.sl tWH),.imm)],[((.sl tRAT),true),((.int .i64),false),((.int .u32),false),((.int .i32),false),((.int .u32),false),((.sl tWH),false)],(List RAT)×Int×Int×Int×Int×(List WH),fun x=>qeL x.1 x.2.1 x.2.2.1 x.2.2.2.1 x.2.2.2.2.1,fun r=>((),(r.1,r.2.1,r.2.2.1,r.2.2.2.1,r.2.2.2.2.1,r.2.2.2.2.2,())),some w43⟩
abbrev qdY:SG:=⟨[(4,.p 32 0 0),(6,.o tRAT 55),(8,.p 64 0 0),(27,.v (.sl tRAT)),(28,.v (.int .i64)),(29,.v (.int .i64))],[(32,[.v .bool,.o (.int .u64) 34,.o (.int .u64) 35]),(64,[.v .bool,.v (.sl (.int .u64)),.v (.sl (.int .u64))])],[],[]⟩
abbrev qe1:List (Ex×SG):=[(.exit 0,⟨[(4,.p 32 0 0),(8,.p 64 0 0)],[(32,[.v .bool,.o (.int .u64) 34,.o (.int .u64) 35]),(64,[.v .bool,.v (.sl (.int .u64)),.v (.sl (.int .u64))])],[],[]⟩)]
abbrev qkc:=(((List RAT)×(List RAT)×Int×Int×Unit)×((Bool×(List Int)×(List Int)×Unit)×(Bool×(List Int)×(List Int)×Unit)×Unit))
abbrev qkb:=(Unit×((Bool×(List Int)×(List Int)×Unit)×(Bool×(List Int)×(List Int)×Unit)×Unit))
def qb6 (g:qkc→Option qkb):qkc→Option qkb
 | ((w_6,v_27,v_28,v_29,_),((b32_0,b32_1,b32_2,_),(b64_0,b64_1,b64_2,_),_))=>bif (decide (v_29<v_28)) then (bif decide (0≤v_29) then (v_27[v_29.toNat]?).bind fun x4=>bif decide (0≤v_29)&&decide (v_29<(w_6.length:Int)) then (w_6[v_29.toNat]?).bind fun x5=>(qah x5 x4).bind fun r6=>(qct ((b64_0,b64_1),b64_2) r6).bind fun r7=>g ((w_6,v_27,v_28,(iadd .i64 v_29 1),()),((b32_0,b32_1,b32_2,()),(r7.1.1,r7.1.2,r7.2,()),())) else none else none) else (some ((()),((b32_0,b32_1,b32_2,()),(b64_0,b64_1,b64_2,()),())))
def qe2 (p_0:List RAT) (n_1:Int):Option (RAT×Int) :=
 (qnO ).bind fun r1=>(qeL n_1 r1.1 r1.2.1 r1.2.2.1 r1.2.2.2).bind fun r2=>bif (!decide (r2.2.1=0)) then (some (((false,[]),[]),r2.2.1)) else (bif (decide ((p_0.length:Int)>n_1)) then (some (((false,[]),[]),6)) else ((qdQ ).bind fun r3=>(lp qb6 K0 ((r2.1,p_0,(p_0.length:Int),0,()),((false,[],[],()),(r3.1.1,r3.1.2,r3.2,()),()))).bind fun t8=>some (((t8.2.2.1.1,t8.2.2.1.2.1),t8.2.2.1.2.2.1),0)))
def c18:Ctr:=⟨[((.sl tRAT),.imm),((.int .i64),.imm)],[(tRAT,false),((.int .i64),false)],RAT×Int,fun x=>qe2 x.1 x.2.1,fun r=>((),(r.1,r.2,())),none⟩
abbrev qcX:SG:=⟨[(1,.v (.sl qaz)),(7,.p 56 0 0),(15,.p 120 0 0),(44,.v (.sl (.sl qbo))),(45,.v (.int .i64)),(46,.v (.int .i64)),(56,.o tLEG 455),(57,.v (.int .i64)),(58,.v (.int .i64)),(63,.v (.sl qhd)),(64,.v (.int .i64)),(65,.v (.int .i64))],[(56,[.o tRAT 57]),(120,[.v (.int .i64),.v .bool,.v (.sl (.int .u64)),.v (.sl (.int .u64)),.v (.sl qhd)])],[],[(9,(14,[56]))]⟩
abbrev qdZ:List (Ex×SG):=[(.exit 6,⟨[(1,.v (.sl qaz)),(7,.p 56 0 0),(44,.v (.sl (.sl qbo))),(45,.v (.int .i64)),(46,.v (.int .i64)),(56,.o tLEG 455),(57,.v (.int .i64)),(58,.v (.int .i64))],[(56,[.o tRAT 57])],[],[(9,(14,[56]))]⟩)]
abbrev qi2:=(((List CELL)×(List (List NODE))×Int×Int×(List LEG)×Int×Int×(List PART)×Int×Int×Unit)×(((List RAT)×Unit)×(Int×Bool×(List Int)×(List Int)×(List PART)×Unit)×Unit))
abbrev qi1:=(((List CELL)×(List (List NODE))×Int×Int×(List LEG)×Int×Int×Unit)×(((List RAT)×Unit)×Unit))
def qaY (g:qi2→Option qi1):qi2→Option qi1
 | ((v_1,v_44,v_45,v_46,v_56,v_57,v_58,v_63,v_64,v_65,_),((b56_0,_),(b120_0,b120_1,b120_2,b120_3,b120_4,_),_))=>bif (decide (v_65<v_64)) then (bif decide (0≤v_65) then (v_63[v_65.toNat]?).bind fun x8=>(qcU (b120_0,(((b120_1,b120_2),b120_3),b120_4)) v_65).bind fun r9=>(qe2 r9.1 (b120_4.length:Int)).bind fun r10=>(qgA x8.2.1).bind fun r11=>bif x8.2.2 then ((qdk ).bind fun r12=>(qct r11 r12).bind fun r13=>(qah r13 r10.1).bind fun r14=>(qah r14 ((b120_1,b120_2),b120_3)).bind fun r15=>(qcf x8.1 r15 b56_0).bind fun r16=>g ((v_1,v_44,v_45,v_46,v_56,v_57,v_58,v_63,v_64,(iadd .i64 v_65 1),()),((r16,()),(b120_0,b120_1,b120_2,b120_3,b120_4,()),()))) else ((qah r11 r10.1).bind fun r17=>(qah r17 ((b120_1,b120_2),b120_3)).bind fun r18=>(qcf x8.1 r18 b56_0).bind fun r19=>g ((v_1,v_44,v_45,v_46,v_56,v_57,v_58,v_63,v_64,(iadd .i64 v_65 1),()),((r19,()),(b120_0,b120_1,b120_2,b120_3,b120_4,()),()))) else none) else (some ((v_1,v_44,v_45,v_46,v_56,v_57,v_58,()),((b56_0,()),())))
abbrev qcY:SG:=⟨[(1,.v (.sl qaz)),(7,.p 56 0 0),(44,.v (.sl (.sl qbo))),(45,.v (.int .i64)),(46,.v (.int .i64)),(56,.o tLEG 455),(57,.v (.int .i64)),(58,.v (.int .i64))],[(56,[.o tRAT 57])],[],[(9,(14,[56]))]⟩
abbrev qd0:List (Ex×SG):=[(.exit 4,⟨[(1,.v (.sl qaz)),(7,.p 56 0 0),(44,.v (.sl (.sl qbo))),(45,.v (.int .i64)),(46,.v (.int .i64))],[(56,[.o tRAT 57])],[],[(9,(14,[56]))]⟩)]
abbrev qi4:=(((List CELL)×(List (List NODE))×Int×Int×(List LEG)×Int×Int×Unit)×(((List RAT)×Unit)×Unit))
abbrev qi3:=(((List CELL)×(List (List NODE))×Int×Int×Unit)×(((List RAT)×Unit)×Unit))
def qbm (g:qi4→Option qi3):qi4→Option qi3
 | ((v_1,v_44,v_45,v_46,v_56,v_57,v_58,_),((b56_0,_),_))=>bif (decide (v_58<v_57)) then (bif decide (0≤v_58)&&decide (v_58<(v_56.length:Int)) then (v_56[v_58.toNat]?).bind fun x7=>(lp qaY K0 ((v_1,v_44,v_45,v_46,v_56,v_57,v_58,x7.2.2,(x7.2.2.length:Int),0,()),((b56_0,()),(x7.1,x7.2.1.1.1,x7.2.1.1.2,x7.2.1.2,x7.2.2,()),()))).bind fun t20=>g ((t20.1.1,t20.1.2.1,t20.1.2.2.1,t20.1.2.2.2.1,t20.1.2.2.2.2.1,t20.1.2.2.2.2.2.1,(iadd .i64 t20.1.2.2.2.2.2.2.1 1),()),((t20.2.1.1,()),())) else none) else (some ((v_1,v_44,v_45,v_46,()),((b56_0,()),())))
abbrev qdf:SG:=⟨[(1,.v (.sl qaz)),(2,.p 16 0 0),(7,.p 56 0 0),(33,.v (.int .i64)),(34,.v (.int .i64))],[(16,[.v (.int .i64),.v (.sl (.sl qbo))]),(56,[.o tRAT 57])],[],[]⟩
abbrev qem:List (Ex×SG):=[(.exit 0,⟨[(1,.v (.sl qaz)),(2,.p 16 0 0),(7,.p 56 0 0)],[(16,[.v (.int .i64),.v (.sl (.sl qbo))]),(56,[.o tRAT 57])],[],[]⟩)]
abbrev qjj:=(((List CELL)×Int×Int×Unit)×((Int×(List (List NODE))×Unit)×((List RAT)×Unit)×Unit))
abbrev qji:=(((List CELL)×Unit)×((Int×(List (List NODE))×Unit)×((List RAT)×Unit)×Unit))
def qbz (g:qjj→Option qji):qjj→Option qji
 | ((v_1,v_33,v_34,_),((b16_0,b16_1,_),(b56_0,_),_))=>bif (decide (v_34<v_33)) then ((qdQ ).bind fun r2=>bif decide (0≤v_34)&&decide (v_34<(b56_0.length:Int)) then (b56_0[v_34.toNat]?).bind fun _=>g ((v_1,v_33,(iadd .i64 v_34 1),()),((b16_0,b16_1,()),((b56_0.set v_34.toNat r2),()),())) else none) else (some ((v_1,()),((b16_0,b16_1,()),(b56_0,()),())))
abbrev qcZ:SG:=⟨[(1,.v (.sl qaz)),(7,.p 56 0 0),(44,.v (.sl (.sl qbo))),(45,.v (.int .i64)),(46,.v (.int .i64))],[(56,[.o tRAT 57])],[],[(9,(14,[56]))]⟩
abbrev qd1:List (Ex×SG):=[(.exit 2,⟨[(7,.p 56 0 0)],[(56,[.o tRAT 57])],[],[]⟩)]
abbrev qi6:=(((List CELL)×(List (List NODE))×Int×Int×Unit)×(((List RAT)×Unit)×Unit))
abbrev qi5:=(Unit×(((List RAT)×Unit)×Unit))
def qbn (g:qi6→Option qi5):qi6→Option qi5
 | ((v_1,v_44,v_45,v_46,_),((b56_0,_),_))=>bif (decide (v_46<v_45)) then (bif decide (0≤v_46) then (v_44[v_46.toNat]?).bind fun x5=>(qhu x5 v_1).bind fun r6=>(lp qbm K0 ((v_1,v_44,v_45,v_46,r6.1,(r6.1.length:Int),0,()),((b56_0,()),()))).bind fun t21=>g ((t21.1.1,t21.1.2.1,t21.1.2.2.1,(iadd .i64 t21.1.2.2.2.1 1),()),((t21.2.1.1,()),())) else none) else (some ((()),((b56_0,()),())))
def qei (a_0:qbf) (a_1:List CELL):Option ((List RAT)×Int) :=
 (qez a_0 a_1).bind fun r1=>bif (!decide (r1=0)) then (some ([],r1)) else (bif decide (a_0.1=a_0.1)&&decide (0≤a_0.1)&&decide (((56:Nat):Int)*a_0.1≤281474976710656)&&decide (a_0.1≤9223372036854775807) then (lp qbz K0 ((a_1,((List.replicate a_0.1.toNat (((false,[]),[]):RAT)).length:Int),0,()),((a_0.1,a_0.2,()),((List.replicate a_0.1.toNat (((false,[]),[]):RAT)),()),()))).bind fun t4=>(lp qbn K0 ((t4.1.1,t4.2.1.2.1,(t4.2.1.2.1.length:Int),0,()),((t4.2.2.1.1,()),()))).bind fun t22=>some (t22.2.1.1,0) else none)
def c5:Ctr:=⟨[(qiM,.imm),((.sl qaz),.imm)],[((.sl tRAT),true),((.int .i64),false)],(List RAT)×Int,fun x=>qei x.1 x.2.1,fun r=>((),(r.1,r.2,())),none⟩
abbrev qcW:SG:=⟨[(3,.o tRAT 31),(4,.v (.int .i64)),(5,.v (.int .i64))],[],[],[]⟩
abbrev qdT:List (Ex×SG):=[(.exit 0,⟨[(3,.o tRAT 31)],[],[],[]⟩)]
def qbg (g:(((List RAT)×Int×Int×Unit)×Unit)→Option (((List RAT)×Unit)×Unit)):(((List RAT)×Int×Int×Unit)×Unit)→Option (((List RAT)×Unit)×Unit)
 | ((out_3,v_4,v_5,_),_)=>bif (decide (v_5<v_4)) then ((qdQ ).bind fun r1=>bif Nat.ble ((out_3.length+1)*56) 140737488355328&&!false then g (((out_3++([r1]:List RAT)),v_4,(iadd .i64 v_5 1),()),()) else none) else (some ((out_3,()),()))
def qfH (n_0:Int):Option (List RAT) :=
 (lp qbg K0 (([],n_0,0,()),())).bind fun t2=>some t2.1.1
def c46:Ctr:=⟨[((.int .i64),.imm)],[((.sl tRAT),true)],(List RAT),fun x=>qfH x.1,fun r=>((),(r,())),none⟩
def qhQ :Option (List (Int×RAT×CELL)) :=
 (qdk ).bind fun r1=>(qdk ).bind fun r2=>some ([((-1),(r1,(true,r2)))]:List (Int×RAT×CELL))
abbrev w74:Wir:=⟨[],[],0,some 1,[],[],0⟩
def c74:Ctr:=⟨[],[((.sl (.pair (.int .i64) (.pair tRAT qaz))),true)],(List (Int×RAT×CELL)),fun x=>qhQ ,fun r=>((),(r,())),some w74⟩
abbrev qbH:SG:=⟨[(0,.p 232 0 0),(1,.v (.int .i64)),(13,.v (.int .i64)),(14,.v (.int .i64))],[(232,[.o (.pair (.int .i64) (.pair tRAT qaz)) 1232])],[(12,(232,0))],[]⟩
abbrev qcu:List (Ex×SG):=[(.exit 0,⟨[(0,.p 232 0 0)],[(232,[.o (.pair (.int .i64) (.pair tRAT qaz)) 1232])],[],[]⟩),(.ret,⟨[(0,.p 232 0 0),(4,.v (.int .i64))],[(232,[.o (.pair (.int .i64) (.pair tRAT qaz)) 1232])],[],[]⟩)]
abbrev qgD:=((Int×Int×Int×Unit)×(((List (Int×RAT×CELL))×Unit)×Unit))
abbrev qgC:=((Unit×(((List (Int×RAT×CELL))×Unit)×Unit)) ⊕ ((Int×Unit)×(((List (Int×RAT×CELL))×Unit)×Unit)))
def qak (g:qgD→Option qgC):qgD→Option qgC
 | ((feature_1,v_13,v_14,_),((b232_0,_),_))=>bif (decide (v_14<v_13)) then (bif decide (0≤v_14)&&decide (v_14<(b232_0.length:Int)) then (b232_0[v_14.toNat]?).bind fun x1=>bif (decide (v_14>0)) then (bif (decide (x1.1=feature_1)) then (some (.inr ((v_14,()),((b232_0,()),())))) else (g ((feature_1,v_13,(iadd .i64 v_14 1),()),((b232_0,()),())))) else (g ((feature_1,v_13,(iadd .i64 v_14 1),()),((b232_0,()),()))) else none) else (some (.inl ((()),((b232_0,()),()))))
def qbr (feature_0:Int) (b_1:List (Int×RAT×CELL)):Option (Int×(List (Int×RAT×CELL))) :=
 (lp qak K0 ((feature_0,(b_1.length:Int),0,()),((b_1,()),()))).bind fun t2=>(match t2 with | .inl t3=>some (0,t3.2.1.1) | .inr t4=>some (t4.1.1,t4.2.1.1))
abbrev w111:Wir:=⟨[.b,.x],[[.x]],1,none,[],[],0⟩
def c111:Ctr:=⟨[((.int .i64),.imm),((.sl (.pair (.int .i64) (.pair tRAT qaz))),.own)],[((.int .i64),false),((.sl (.pair (.int .i64) (.pair tRAT qaz))),true)],Int×(List (Int×RAT×CELL)),fun x=>qbr x.1 x.2.1,fun r=>((),(r.1,r.2,())),some w111⟩
abbrev qbt:SG:=⟨[(0,.p 256 0 0),(3,.o qhd 31),(12,.v (.int .i64)),(13,.v (.int .i64))],[(256,[.o (.pair (.int .i64) (.pair tRAT qaz)) 1256])],[(11,(256,0))],[]⟩
abbrev qch:List (Ex×SG):=[(.exit 0,⟨[(0,.p 256 0 0),(3,.o qhd 31)],[(256,[.o (.pair (.int .i64) (.pair tRAT qaz)) 1256])],[],[]⟩)]
abbrev qgf:=(((List PART)×Int×Int×Unit)×(((List (Int×RAT×CELL))×Unit)×Unit))
abbrev qge:=(((List PART)×Unit)×(((List (Int×RAT×CELL))×Unit)×Unit))
def qaA (g:qgf→Option qge):qgf→Option qge
 | ((out_3,v_12,v_13,_),((b256_0,_),_))=>bif (decide (v_13<v_12)) then (bif decide (0≤v_13)&&decide (v_13<(b256_0.length:Int)) then (b256_0[v_13.toNat]?).bind fun x1=>bif (decide (v_13>0)) then (bif Nat.ble ((out_3.length+1)*72) 140737488355328&&!false then g (((out_3++([(x1.1,(x1.2.1,x1.2.2.1))]:List PART)),v_12,(iadd .i64 v_13 1),()),((b256_0,()),())) else none) else (g ((out_3,v_12,(iadd .i64 v_13 1),()),((b256_0,()),()))) else none) else (some ((out_3,()),((b256_0,()),())))
def qck (b_0:List (Int×RAT×CELL)):Option ((List PART)×(List (Int×RAT×CELL))) :=
 (lp qaA K0 (([],(b_0.length:Int),0,()),((b_0,()),()))).bind fun t2=>some (t2.1.1,t2.2.1.1)
abbrev w112:Wir:=⟨[.b],[[.x]],1,none,[],[],0⟩
def c112:Ctr:=⟨[((.sl (.pair (.int .i64) (.pair tRAT qaz))),.own)],[((.sl qhd),true),((.sl (.pair (.int .i64) (.pair tRAT qaz))),true)],(List PART)×(List (Int×RAT×CELL)),fun x=>qck x.1,fun r=>((),(r.1,r.2,())),some w112⟩
def qdR (n_0:Int) (d_1:Int):Option RAT :=
 (qhw n_0).bind fun r1=>(qhw d_1).bind fun r2=>(qhh r1 r2).bind fun r3=>(qbb r3.1).bind fun r4=>some r4
def c127:Ctr:=⟨[((.int .i64),.imm),((.int .i64),.imm)],[(tRAT,false)],RAT,fun x=>qdR x.1 x.2.1,fun r=>((),(r,())),none⟩
abbrev qa5:SG:=⟨[(0,.p 832 0 0),(5,.v (.int .i64)),(6,.p 48 0 0),(7,.o tRAT 63),(8,.p 64 0 0),(10,.p 80 0 0),(11,.v (.int .i64))],[(48,[.v (.int .i64),.v .bool,.v (.sl (.int .u64)),.v (.sl (.int .u64)),.v .bool,.v .bool,.v (.sl (.int .u64)),.v (.sl (.int .u64))]),(64,[.v .bool,.v (.sl (.int .u64)),.v (.sl (.int .u64))]),(80,[.v .bool,.v (.sl (.int .u64)),.v (.sl (.int .u64))]),(832,[.o (.pair (.int .i64) (.pair tRAT qaz)) 1832])],[],[]⟩
abbrev qbF:List (Ex×SG):=[(.exit 0,⟨[(0,.p 832 0 0),(7,.o tRAT 63)],[(832,[.o (.pair (.int .i64) (.pair tRAT qaz)) 1832])],[],[]⟩)]
abbrev qfr:=((Int×(List RAT)×Int×Unit)×((Int×Bool×(List Int)×(List Int)×Bool×Bool×(List Int)×(List Int)×Unit)×(Bool×(List Int)×(List Int)×Unit)×(Bool×(List Int)×(List Int)×Unit)×((List (Int×RAT×CELL))×Unit)×Unit))
abbrev qfq:=(((List RAT)×Unit)×(((List (Int×RAT×CELL))×Unit)×Unit))
def qao (g:qfr→Option qfq):qfr→Option qfq
 | ((v_5,v_7,v_11,_),((b48_0,b48_1,b48_2,b48_3,b48_4,b48_5,b48_6,b48_7,_),(b64_0,b64_1,b64_2,_),(b80_0,b80_1,b80_2,_),(b832_0,_),_))=>bif (decide (v_11≥0)) then (bif (!b48_4) then (bif decide (0≤v_11)&&decide (v_11<(b832_0.length:Int)) then (b832_0[v_11.toNat]?).bind fun x4=>(qdR (iadd .i64 v_5 1) (isub .i64 v_5 v_11)).bind fun r5=>(qah x4.2.2.2 r5).bind fun r6=>(qah r6 ((b64_0,b64_1),b64_2)).bind fun r7=>bif decide (0≤v_11)&&decide (v_11<(v_7.length:Int)) then (v_7[v_11.toNat]?).bind fun _=>g ((v_5,(v_7.set v_11.toNat r7),(isub .i64 v_11 1),()),((b48_0,b48_1,b48_2,b48_3,b48_4,b48_5,b48_6,b48_7,()),(b64_0,b64_1,b64_2,()),(b80_0,b80_1,b80_2,()),(b832_0,()),())) else none else none) else ((qdR (iadd .i64 v_5 1) (iadd .i64 v_11 1)).bind fun r9=>(qah ((b80_0,b80_1),b80_2) r9).bind fun r10=>bif decide (0≤v_11)&&decide (v_11<(v_7.length:Int)) then (v_7[v_11.toNat]?).bind fun _=>bif decide (0≤v_11)&&decide (v_11<(b832_0.length:Int)) then (b832_0[v_11.toNat]?).bind fun x12=>bif decide (0≤v_11)&&decide (v_11<((v_7.set v_11.toNat r10).length:Int)) then ((v_7.set v_11.toNat r10)[v_11.toNat]?).bind fun x13=>(qah x13 ((b48_1,b48_2),b48_3)).bind fun r14=>(qdR (isub .i64 v_5 v_11) (iadd .i64 v_5 1)).bind fun r15=>(qah r14 r15).bind fun r16=>(qjM x12.2.2.2 r16).bind fun r17=>g ((v_5,(v_7.set v_11.toNat r10),(isub .i64 v_11 1),()),((b48_0,b48_1,b48_2,b48_3,b48_4,b48_5,b48_6,b48_7,()),(b64_0,b64_1,b64_2,()),(r17.1.1,r17.1.2,r17.2,()),(b832_0,()),())) else none else none else none)) else (some ((v_7,()),((b832_0,()),())))
def qbG (a_0:Int) (b_1:List (Int×RAT×CELL)):Option ((List RAT)×(List (Int×RAT×CELL))) :=
 bif decide (0≤a_0)&&decide (a_0<(b_1.length:Int)) then (b_1[a_0.toNat]?).bind fun x1=>bif decide ((isub .i64 (b_1.length:Int) 1)=(isub .i64 (b_1.length:Int) 1))&&decide (0≤(isub .i64 (b_1.length:Int) 1))&&decide (((56:Nat):Int)*(isub .i64 (b_1.length:Int) 1)≤281474976710656)&&decide ((isub .i64 (b_1.length:Int) 1)≤9223372036854775807) then (qhJ x1.2.1).bind fun r2=>bif decide (0≤(isub .i64 (b_1.length:Int) 1))&&decide ((isub .i64 (b_1.length:Int) 1)<(b_1.length:Int)) then (b_1[(isub .i64 (b_1.length:Int) 1).toNat]?).bind fun x3=>(lp qao K0 (((isub .i64 (b_1.length:Int) 1),(List.replicate (isub .i64 (b_1.length:Int) 1).toNat (((false,[]),[]):RAT)),(isub .i64 (isub .i64 (b_1.length:Int) 1) 1),()),((x1.1,x1.2.1.1.1,x1.2.1.1.2,x1.2.1.2,x1.2.2.1,x1.2.2.2.1.1,x1.2.2.2.1.2,x1.2.2.2.2,()),(r2.1.1.1,r2.1.1.2,r2.1.2,()),(x3.2.2.2.1.1,x3.2.2.2.1.2,x3.2.2.2.2,()),(b_1,()),()))).bind fun t18=>some (t18.1.1,t18.2.1.1) else none else none else none
abbrev w126:Wir:=⟨[.b,.x],[[.x]],1,none,[],[],0⟩
def c126:Ctr:=⟨[((.int .i64),.imm),((.sl (.pair (.int .i64) (.pair tRAT qaz))),.own)],[((.sl tRAT),true),((.sl (.pair (.int .i64) (.pair tRAT qaz))),true)],(List RAT)×(List (Int×RAT×CELL)),fun x=>qbG x.1 x.2.1,fun r=>((),(r.1,r.2,())),some w126⟩
abbrev qbk:SG:=⟨[(0,.p 528 0 0),(5,.o tRAT 47),(6,.o (.pair (.int .i64) (.pair tRAT qaz)) 55),(49,.v (.int .i64)),(50,.v (.int .i64))],[(528,[.o (.pair (.int .i64) (.pair tRAT qaz)) 1528])],[],[]⟩
abbrev qb1:List (Ex×SG):=[(.exit 0,⟨[(0,.p 528 0 0),(6,.o (.pair (.int .i64) (.pair tRAT qaz)) 55)],[(528,[.o (.pair (.int .i64) (.pair tRAT qaz)) 1528])],[],[]⟩)]
abbrev qfP:=(((List RAT)×(List (Int×RAT×CELL))×Int×Int×Unit)×(((List (Int×RAT×CELL))×Unit)×Unit))
abbrev qfO:=(((List (Int×RAT×CELL))×Unit)×(((List (Int×RAT×CELL))×Unit)×Unit))
def qau (g:qfP→Option qfO):qfP→Option qfO
 | ((v_5,v_6,v_49,v_50,_),((b528_0,_),_))=>bif (decide (v_50<v_49)) then (bif decide (0≤v_50)&&decide (v_50<(v_5.length:Int)) then (v_5[v_50.toNat]?).bind fun x2=>bif decide (0≤v_50)&&decide (v_50<(v_6.length:Int)) then (v_6[v_50.toNat]?).bind fun x3=>g ((v_5,(v_6.set v_50.toNat (x3.1,(x3.2.1,(x3.2.2.1,x2)))),v_49,(iadd .i64 v_50 1),()),((b528_0,()),())) else none else none) else (some ((v_6,()),((b528_0,()),())))
def qb9 (a_0:Int) (b_1:List (Int×RAT×CELL)):Option (Int×(List (Int×RAT×CELL))) :=
 bif (decide ((b_1.length:Int)=0)) then (some (18,b_1)) else (bif (decide (a_0<1)) then (some (8,b_1)) else (bif (decide (a_0≥(b_1.length:Int))) then (some (8,b_1)) else ((qbG a_0 b_1).bind fun r1=>bif decide ((0:Int)≤a_0)&&decide ((a_0:Int)≤a_0)&&decide ((a_0:Int)≤(r1.2.length:Int)) then bif Nat.ble ((([]:List (Int×RAT×CELL)).length+(r1.2.take ((a_0-0).toNat)).length)*128) 140737488355328&&!false then bif decide (0≤(iadd .i64 a_0 1))&&decide (((iadd .i64 a_0 1):Int)≤(r1.2.length:Int)) then bif Nat.ble (((([]:List (Int×RAT×CELL))++(r1.2.take ((a_0-0).toNat))).length+(r1.2.drop ((iadd .i64 a_0 1).toNat)).length)*128) 140737488355328&&!false then (lp qau K0 ((r1.1,((([]:List (Int×RAT×CELL))++(r1.2.take ((a_0-0).toNat)))++(r1.2.drop ((iadd .i64 a_0 1).toNat))),(((([]:List (Int×RAT×CELL))++(r1.2.take ((a_0-0).toNat)))++(r1.2.drop ((iadd .i64 a_0 1).toNat))).length:Int),0,()),((r1.2,()),()))).bind fun t4=>some (0,t4.1.1) else none else none else none else none)))
abbrev w113:Wir:=⟨[.b,.x],[[.x]],1,none,[],[],0⟩
def c113:Ctr:=⟨[((.int .i64),.imm),((.sl (.pair (.int .i64) (.pair tRAT qaz))),.own)],[((.int .i64),false),((.sl (.pair (.int .i64) (.pair tRAT qaz))),true)],Int×(List (Int×RAT×CELL)),fun x=>qb9 x.1 x.2.1,fun r=>((),(r.1,r.2,())),some w113⟩
abbrev qa6:SG:=⟨[(0,.p 904 0 0),(3,.v .bool),(6,.p 48 0 0),(9,.v (.int .i64)),(10,.v (.int .i64))],[(48,[.v .bool,.v (.sl (.int .u64)),.v (.sl (.int .u64))]),(904,[.o (.pair (.int .i64) (.pair tRAT qaz)) 1904])],[],[]⟩
abbrev qbI:List (Ex×SG):=[(.exit 1,⟨[(0,.p 904 0 0)],[(904,[.o (.pair (.int .i64) (.pair tRAT qaz)) 1904])],[],[]⟩)]
abbrev qft:=((Bool×Int×Int×Unit)×((Bool×(List Int)×(List Int)×Unit)×((List (Int×RAT×CELL))×Unit)×Unit))
abbrev qfs:=(Unit×(((List (Int×RAT×CELL))×Unit)×Unit))
def qap (g:qft→Option qfs):qft→Option qfs
 | ((v_3,v_9,v_10,_),((b48_0,b48_1,b48_2,_),(b904_0,_),_))=>bif (decide (v_10≥0)) then (bif decide (0≤v_10)&&decide (v_10<(b904_0.length:Int)) then (b904_0[v_10.toNat]?).bind fun x5=>bif v_3 then (bif decide (0≤(iadd .i64 v_10 1))&&decide ((iadd .i64 v_10 1)<(b904_0.length:Int)) then (b904_0[(iadd .i64 v_10 1).toNat]?).bind fun x6=>(qdR (iadd .i64 v_10 1) (iadd .i64 v_9 1)).bind fun r7=>(qah x5.2.2.2 r7).bind fun r8=>(qct x6.2.2.2 r8).bind fun r9=>bif decide (0≤(iadd .i64 v_10 1))&&decide ((iadd .i64 v_10 1)<(b904_0.length:Int)) then (b904_0[(iadd .i64 v_10 1).toNat]?).bind fun x10=>(qah ((b48_0,b48_1),b48_2) x5.2.2.2).bind fun r11=>(qdR (isub .i64 v_9 v_10) (iadd .i64 v_9 1)).bind fun r12=>(qah r11 r12).bind fun r13=>bif decide (0≤v_10)&&decide (v_10<((b904_0.set ((iadd .i64 v_10 1).toNat) (x10.1,(x10.2.1,(x10.2.2.1,r9)))).length:Int)) then ((b904_0.set ((iadd .i64 v_10 1).toNat) (x10.1,(x10.2.1,(x10.2.2.1,r9))))[v_10.toNat]?).bind fun x14=>g ((v_3,v_9,(isub .i64 v_10 1),()),((b48_0,b48_1,b48_2,()),(((b904_0.set ((iadd .i64 v_10 1).toNat) (x10.1,(x10.2.1,(x10.2.2.1,r9)))).set v_10.toNat (x14.1,(x14.2.1,(x14.2.2.1,r13)))),()),())) else none else none else none) else ((qah ((b48_0,b48_1),b48_2) x5.2.2.2).bind fun r15=>(qdR (isub .i64 v_9 v_10) (iadd .i64 v_9 1)).bind fun r16=>(qah r15 r16).bind fun r17=>bif decide (0≤v_10)&&decide (v_10<(b904_0.length:Int)) then (b904_0[v_10.toNat]?).bind fun x18=>g ((v_3,v_9,(isub .i64 v_10 1),()),((b48_0,b48_1,b48_2,()),((b904_0.set v_10.toNat (x18.1,(x18.2.1,(x18.2.2.1,r17)))),()),())) else none) else none) else (some ((()),((b904_0,()),())))
def qaM (a_0:Int) (a_1:RAT) (a_2:Bool) (b_3:List (Int×RAT×CELL)):Option (Int×(List (Int×RAT×CELL))) :=
 bif (decide ((b_3.length:Int)=0)) then (some (18,b_3)) else (bif (decide (a_0<0)) then (some (1,b_3)) else ((qbr a_0 b_3).bind fun r1=>bif (decide (r1.1>0)) then (some (1,r1.2)) else ((qhg a_1).bind fun r2=>bif (decide (r2≤0)) then (some (8,r1.2)) else ((qbb a_1).bind fun r3=>(qdQ ).bind fun r4=>bif Nat.ble ((r1.2.length+1)*128) 140737488355328&&!false then (lp qap K0 ((a_2,(r1.2.length:Int),(isub .i64 (r1.2.length:Int) 1),()),((a_1.1.1,a_1.1.2,a_1.2,()),((r1.2++([(a_0,(r3,(a_2,r4)))]:List (Int×RAT×CELL))),()),()))).bind fun t19=>some (0,t19.2.1.1) else none))))
abbrev w114:Wir:=⟨[.b,.x,.x,.x],[[.x]],1,none,[],[],0⟩
def c114:Ctr:=⟨[((.int .i64),.imm),(tRAT,.imm),(.bool,.imm),((.sl (.pair (.int .i64) (.pair tRAT qaz))),.own)],[((.int .i64),false),((.sl (.pair (.int .i64) (.pair tRAT qaz))),true)],Int×(List (Int×RAT×CELL)),fun x=>qaM x.1 x.2.1 x.2.2.1 x.2.2.2.1,fun r=>((),(r.1,r.2,())),some w114⟩
def qaU (b_0:Int) (b_1:Bool) (b_2:List Int) (b_3:List Int) (b_4:Int) (b_5:Bool) (b_6:List Int) (b_7:List Int) (b_8:Bool) (b_9:List (Int×RAT×CELL)):Option (Int×Bool×(List Int)×(List Int)×Int×Bool×(List Int)×(List Int)×Bool×(List (Int×RAT×CELL))) :=
 bif (decide (b_4<0)) then (some (b_0,b_1,b_2,b_3,b_4,b_5,b_6,b_7,b_8,b_9)) else ((qbr b_4 b_9).bind fun r1=>bif (decide (r1.1>0)) then ((qck r1.2).bind fun r2=>bif decide (0≤(isub .i64 r1.1 1))&&decide ((isub .i64 r1.1 1)<(r2.1.length:Int)) then (r2.1[(isub .i64 r1.1 1).toNat]?).bind fun x3=>(qah ((b_5,b_6),b_7) x3.2.1).bind fun r4=>bif b_8 then ((qb9 r1.1 r2.2).bind fun r5=>(qaM b_4 r4 x3.2.2 r5.2).bind fun r6=>some (b_0,b_1,b_2,b_3,b_4,b_5,b_6,b_7,b_8,r6.2)) else ((qb9 r1.1 r2.2).bind fun r7=>(qaM b_4 r4 false r7.2).bind fun r8=>some (b_0,b_1,b_2,b_3,b_4,b_5,b_6,b_7,b_8,r8.2)) else none) else ((qaM b_4 ((b_5,b_6),b_7) b_8 r1.2).bind fun r9=>some (b_0,b_1,b_2,b_3,b_4,b_5,b_6,b_7,b_8,r9.2)))
abbrev w75:Wir:=⟨[.b],[[.x,.b,.x,.x,.x,.x,.x,.x,.x,.x],[.x]],0,none,[],[],0⟩
def c75:Ctr:=⟨[((.int .i64),.imm),(.bool,.imm),((.sl (.int .u64)),.imm),((.sl (.int .u64)),.imm),((.int .i64),.imm),(.bool,.imm),((.sl (.int .u64)),.imm),((.sl (.int .u64)),.imm),(.bool,.imm),((.sl (.pair (.int .i64) (.pair tRAT qaz))),.own)],[((.int .i64),false),(.bool,false),((.sl (.int .u64)),false),((.sl (.int .u64)),false),((.int .i64),false),(.bool,false),((.sl (.int .u64)),false),((.sl (.int .u64)),false),(.bool,false),((.sl (.pair (.int .i64) (.pair tRAT qaz))),true)],Int×Bool×(List Int)×(List Int)×Int×Bool×(List Int)×(List Int)×Bool×(List (Int×RAT×CELL)),fun x=>qaU x.1 x.2.1 x.2.2.1 x.2.2.2.1 x.2.2.2.2.1 x.2.2.2.2.2.1 x.2.2.2.2.2.2.1 x.2.2.2.2.2.2.2.1 x.2.2.2.2.2.2.2.2.1 x.2.2.2.2.2.2.2.2.2.1,fun r=>((),(r.1,r.2.1,r.2.2.1,r.2.2.2.1,r.2.2.2.2.1,r.2.2.2.2.2.1,r.2.2.2.2.2.2.1,r.2.2.2.2.2.2.2.1,r.2.2.2.2.2.2.2.2.1,r.2.2.2.2.2.2.2.2.2,())),some w75⟩
abbrev qf7:SG:=⟨[(2,.p 16 0 0),(3,.p 24 0 0),(7,.v (.sl tRAT)),(8,.v (.int .i64)),(9,.v (.int .i64))],[(16,[.v .bool,.o (.int .u64) 18,.o (.int .u64) 19]),(24,[.v .bool,.v (.sl (.int .u64)),.v (.sl (.int .u64))])],[],[]⟩
abbrev qhI:List (Ex×SG):=[(.exit 0,⟨[(2,.p 16 0 0),(3,.p 24 0 0)],[(16,[.v .bool,.o (.int .u64) 18,.o (.int .u64) 19]),(24,[.v .bool,.v (.sl (.int .u64)),.v (.sl (.int .u64))])],[],[]⟩)]
abbrev qmU:=(((List RAT)×Int×Int×Unit)×((Bool×(List Int)×(List Int)×Unit)×(Bool×(List Int)×(List Int)×Unit)×Unit))
abbrev qmT:=(Unit×((Bool×(List Int)×(List Int)×Unit)×(Bool×(List Int)×(List Int)×Unit)×Unit))
def qdj (g:qmU→Option qmT):qmU→Option qmT
 | ((v_7,v_8,v_9,_),((b16_0,b16_1,b16_2,_),(b24_0,b24_1,b24_2,_),_))=>bif (decide (v_9<v_8)) then (bif decide (0≤v_9) then (v_7[v_9.toNat]?).bind fun x2=>(qct ((b24_0,b24_1),b24_2) x2).bind fun r3=>g ((v_7,v_8,(iadd .i64 v_9 1),()),((b16_0,b16_1,b16_2,()),(r3.1.1,r3.1.2,r3.2,()),())) else none) else (some ((()),((b16_0,b16_1,b16_2,()),(b24_0,b24_1,b24_2,()),())))
def qjL (l_0:List RAT):Option RAT :=
 (qdQ ).bind fun r1=>(lp qdj K0 ((l_0,(l_0.length:Int),0,()),((false,[],[],()),(r1.1.1,r1.1.2,r1.2,()),()))).bind fun t4=>some ((t4.2.2.1.1,t4.2.2.1.2.1),t4.2.2.1.2.2.1)
def c128:Ctr:=⟨[((.sl tRAT),.imm)],[(tRAT,false)],RAT,fun x=>qjL x.1,fun r=>((),(r,())),none⟩
def qdW (at_0:Int) (b_1:List (Int×RAT×CELL)):Option (RAT×Int×(List (Int×RAT×CELL))) :=
 bif (decide ((b_1.length:Int)=0)) then (some (((false,[]),[]),18,b_1)) else (bif (decide (at_0<1)) then (some (((false,[]),[]),8,b_1)) else (bif (decide (at_0≥(b_1.length:Int))) then (some (((false,[]),[]),8,b_1)) else ((qbG at_0 b_1).bind fun r1=>(qjL r1.1).bind fun r2=>some (r2,0,r1.2))))
abbrev w115:Wir:=⟨[.b,.x],[[.x]],2,none,[],[],0⟩
def c115:Ctr:=⟨[((.int .i64),.imm),((.sl (.pair (.int .i64) (.pair tRAT qaz))),.own)],[(tRAT,false),((.int .i64),false),((.sl (.pair (.int .i64) (.pair tRAT qaz))),true)],RAT×Int×(List (Int×RAT×CELL)),fun x=>qdW x.1 x.2.1,fun r=>((),(r.1,r.2.1,r.2.2,())),some w115⟩
abbrev qbj:SG:=⟨[(0,.p 552 0 0),(3,.p 24 0 0),(4,.p 32 0 0),(13,.p 552 0 0),(24,.o qhd 199),(25,.v (.int .i64)),(26,.v (.int .i64))],[(24,[.v (.int .i64),.p 553 0 0,.v .bool,.v (.sl (.int .u64)),.v (.sl (.int .u64)),.v (.int .i64),.v .bool,.v (.sl (.int .u64)),.v (.sl (.int .u64)),.v .bool]),(32,[.v .bool,.v (.sl (.int .u64)),.v (.sl (.int .u64))]),(552,[.v (.sl qbo),.v (.sl qaz),.v (.int .i64),.v .bool,.f tRAT 104,.h]),(553,[.o (.pair (.int .i64) (.pair tRAT qaz)) 1572])],[],[]⟩
abbrev qbZ:List (Ex×SG):=[(.exit 0,⟨[(0,.p 552 0 0),(13,.p 552 0 0)],[(552,[.v (.sl qbo),.v (.sl qaz),.v (.int .i64),.v .bool,.f tRAT 104,.h]),(553,[.o (.pair (.int .i64) (.pair tRAT qaz)) 1572])],[],[]⟩)]
abbrev qfN:=(((List PART)×Int×Int×Unit)×((Int×Bool×(List Int)×(List Int)×Int×Bool×(List Int)×(List Int)×Bool×Unit)×(Bool×(List Int)×(List Int)×Unit)×((List NODE)×(List CELL)×Int×Bool×(List RAT)×Unit)×((List (Int×RAT×CELL))×Unit)×Unit))
abbrev qfM:=(Unit×(((List NODE)×(List CELL)×Int×Bool×(List RAT)×Unit)×((List (Int×RAT×CELL))×Unit)×Unit))
def qat (g:qfN→Option qfM):qfN→Option qfM
 | ((v_24,v_25,v_26,_),((b24_0,b24_2,b24_3,b24_4,b24_5,b24_6,b24_7,b24_8,b24_9,_),(b32_0,b32_1,b32_2,_),(b552_0,b552_1,b552_2,b552_3,b552_4,_),(b553_0,_),_))=>bif (decide (v_26<v_25)) then (bif decide (0≤v_26)&&decide (v_26<(v_24.length:Int)) then (v_24[v_26.toNat]?).bind fun x4=>(qdW (iadd .i64 v_26 1) b553_0).bind fun r5=>(qgA x4.2.1).bind fun r6=>bif x4.2.2 then ((qdk ).bind fun r7=>(qct r7 r6).bind fun r8=>bif decide (0≤x4.1)&&decide (x4.1<(b552_4.length:Int)) then (b552_4[x4.1.toNat]?).bind fun x9=>(qah r5.1 r8).bind fun r10=>(qah r10 ((b32_0,b32_1),b32_2)).bind fun r11=>(qct x9 r11).bind fun r12=>bif decide (0≤x4.1)&&decide (x4.1<(b552_4.length:Int)) then (b552_4[x4.1.toNat]?).bind fun _=>g ((v_24,v_25,(iadd .i64 v_26 1),()),((b24_0,b24_2,b24_3,b24_4,b24_5,b24_6,b24_7,b24_8,b24_9,()),(b32_0,b32_1,b32_2,()),(b552_0,b552_1,b552_2,b552_3,(b552_4.set x4.1.toNat r12),()),(r5.2.2,()),())) else none else none) else (bif decide (0≤x4.1)&&decide (x4.1<(b552_4.length:Int)) then (b552_4[x4.1.toNat]?).bind fun x14=>(qah r5.1 r6).bind fun r15=>(qah r15 ((b32_0,b32_1),b32_2)).bind fun r16=>(qct x14 r16).bind fun r17=>bif decide (0≤x4.1)&&decide (x4.1<(b552_4.length:Int)) then (b552_4[x4.1.toNat]?).bind fun _=>g ((v_24,v_25,(iadd .i64 v_26 1),()),((b24_0,b24_2,b24_3,b24_4,b24_5,b24_6,b24_7,b24_8,b24_9,()),(b32_0,b32_1,b32_2,()),(b552_0,b552_1,b552_2,b552_3,(b552_4.set x4.1.toNat r17),()),(r5.2.2,()),())) else none else none) else none) else (some ((()),((b552_0,b552_1,b552_2,b552_3,b552_4,()),(b553_0,()),())))
def qbp (a_0:Int) (a_1:Bool) (a_2:List Int) (a_3:List Int) (a_4:Int) (a_5:Bool) (a_6:List Int) (a_7:List Int) (a_8:Bool) (b_9:List NODE) (b_10:List CELL) (b_11:Int) (b_12:Bool) (b_13:List RAT) (b_14:List (Int×RAT×CELL)):Option ((List RAT)×(List NODE)×(List CELL)×Int×Bool×(List (Int×RAT×CELL))) :=
 bif decide (0≤a_0) then (b_9[a_0.toNat]?).bind fun x1=>(qah ((a_1,a_2),a_3) x1.2.2.2.2.2.2.1).bind fun r2=>(qck b_14).bind fun r3=>(lp qat K0 ((r3.1,(r3.1.length:Int),0,()),((a_0,a_1,a_2,a_3,a_4,a_5,a_6,a_7,a_8,()),(r2.1.1,r2.1.2,r2.2,()),(b_9,b_10,b_11,b_12,b_13,()),(r3.2,()),()))).bind fun t19=>(bif Nat.beq t19.2.1.2.2.2.2.1.length b_13.length then some (t19.2.1.2.2.2.2.1,()) else none).bind fun l20=>some (l20.1,t19.2.1.1,t19.2.1.2.1,t19.2.1.2.2.1,t19.2.1.2.2.2.1,t19.2.2.1.1) else none
abbrev w76:Wir:=⟨[.b,.x,.b,.x,.x,.x,.x,.x,.x,.x,.x],[[.x,.x,.x,.x,.l,.h],[.x]],0,none,[.x,.g 10],[],0⟩
def c76:Ctr:=⟨[((.int .i64),.imm),(.bool,.imm),((.sl (.int .u64)),.imm),((.sl (.int .u64)),.imm),((.int .i64),.imm),(.bool,.imm),((.sl (.int .u64)),.imm),((.sl (.int .u64)),.imm),(.bool,.imm),((.sl qbo),.imm),((.sl qaz),.imm),((.int .i64),.imm),(.bool,.imm),((.sl tRAT),.lent),((.sl (.pair (.int .i64) (.pair tRAT qaz))),.own)],[((.sl qbo),false),((.sl qaz),false),((.int .i64),false),(.bool,false),((.sl (.pair (.int .i64) (.pair tRAT qaz))),true)],(List RAT)×(List NODE)×(List CELL)×Int×Bool×(List (Int×RAT×CELL)),fun x=>qbp x.1 x.2.1 x.2.2.1 x.2.2.2.1 x.2.2.2.2.1 x.2.2.2.2.2.1 x.2.2.2.2.2.2.1 x.2.2.2.2.2.2.2.1 x.2.2.2.2.2.2.2.2.1 x.2.2.2.2.2.2.2.2.2.1 x.2.2.2.2.2.2.2.2.2.2.1 x.2.2.2.2.2.2.2.2.2.2.2.1 x.2.2.2.2.2.2.2.2.2.2.2.2.1 x.2.2.2.2.2.2.2.2.2.2.2.2.2.1 x.2.2.2.2.2.2.2.2.2.2.2.2.2.2.1,fun r=>((r.1,()),(r.2.1,r.2.2.1,r.2.2.2.1,r.2.2.2.2.1,r.2.2.2.2.2,())),some w76⟩
def qdo (b_0:List (Int×RAT×CELL)):Option ((List (Int×RAT×CELL))×(List (Int×RAT×CELL))) :=
 bif Nat.ble ((([]:List (Int×RAT×CELL)).length+b_0.length)*128) 140737488355328&&!false then some (b_0,(([]:List (Int×RAT×CELL))++b_0)) else none
abbrev w116:Wir:=⟨[.b],[[.x]],0,some 1,[],[],0⟩
def c116:Ctr:=⟨[((.sl (.pair (.int .i64) (.pair tRAT qaz))),.own)],[((.sl (.pair (.int .i64) (.pair tRAT qaz))),true),((.sl (.pair (.int .i64) (.pair tRAT qaz))),true)],(List (Int×RAT×CELL))×(List (Int×RAT×CELL)),fun x=>qdo x.1,fun r=>((),(r.1,r.2,())),some w116⟩
def qbE (a_0:Int) (a_1:Bool) (a_2:List Int) (a_3:List Int) (a_4:Int) (a_5:Bool) (a_6:List Int) (a_7:List Int) (a_8:Bool) (a_9:Int) (a_10:Bool) (b_11:List NODE) (b_12:List CELL) (b_13:Int) (b_14:Bool) (b_15:List RAT) (b_16:List (Int×RAT×CELL)):Option ((List RAT)×Int×Bool×(List Int)×(List Int)×Int×Bool×(List Int)×(List Int)×Bool×Bool×(List NODE)×(List CELL)×Int×Bool×(List (Int×RAT×CELL))×(List (Int×RAT×CELL))) :=
 bif decide (0≤a_0) then (b_11[a_0.toNat]?).bind fun x1=>bif decide (0≤a_9) then (b_11[a_9.toNat]?).bind fun x2=>(qiN x2.2.2.2.2.2.2.2 x1.2.2.2.2.2.2.2).bind fun r3=>bif decide (0≤x1.2.1) then (b_12[x1.2.1.toNat]?).bind fun x4=>(qiy x1 x4).bind fun r5=>(qdo b_16).bind fun r6=>bif (!decide (x1.2.1=b_13)) then ((bif Nat.beq b_15.length b_15.length then some (b_15,()) else none).bind fun l7=>some (l7.1,a_9,a_1,a_2,a_3,x1.2.1,r3.1.1.1,r3.1.1.2,r3.1.2,(r5 == a_10),true,b_11,b_12,b_13,b_14,r6.1,r6.2)) else (bif b_14 then ((bif Nat.beq b_15.length b_15.length then some (b_15,()) else none).bind fun l8=>some (l8.1,a_9,a_1,a_2,a_3,(-1),r3.1.1.1,r3.1.1.2,r3.1.2,(r5 == a_10),(r5 == a_10),b_11,b_12,b_13,b_14,r6.1,r6.2)) else ((qah ((a_1,a_2),a_3) r3.1).bind fun r9=>(bif Nat.beq b_15.length b_15.length then some (b_15,()) else none).bind fun l10=>some (l10.1,a_9,r9.1.1,r9.1.2,r9.2,(-1),r3.1.1.1,r3.1.1.2,r3.1.2,(r5 == a_10),true,b_11,b_12,b_13,b_14,r6.1,r6.2))) else none else none else none
abbrev w77:Wir:=⟨[.b,.x,.b,.x,.x,.x,.x,.x,.x,.x,.x,.x,.x],[[.x,.x,.x,.x,.l,.h],[.x]],10,some 1,[.x,.g 10,.x,.x],[.g 10,.x],1⟩
def c77:Ctr:=⟨[((.int .i64),.imm),(.bool,.imm),((.sl (.int .u64)),.imm),((.sl (.int .u64)),.imm),((.int .i64),.imm),(.bool,.imm),((.sl (.int .u64)),.imm),((.sl (.int .u64)),.imm),(.bool,.imm),((.int .i64),.imm),(.bool,.imm),((.sl qbo),.imm),((.sl qaz),.imm),((.int .i64),.imm),(.bool,.imm),((.sl tRAT),.lent),((.sl (.pair (.int .i64) (.pair tRAT qaz))),.own)],[((.int .i64),false),(.bool,false),((.sl (.int .u64)),false),((.sl (.int .u64)),false),((.int .i64),false),(.bool,false),((.sl (.int .u64)),false),((.sl (.int .u64)),false),(.bool,false),(.bool,false),((.sl qbo),false),((.sl qaz),false),((.int .i64),false),(.bool,false),((.sl (.pair (.int .i64) (.pair tRAT qaz))),true),((.sl (.pair (.int .i64) (.pair tRAT qaz))),true)],(List RAT)×Int×Bool×(List Int)×(List Int)×Int×Bool×(List Int)×(List Int)×Bool×Bool×(List NODE)×(List CELL)×Int×Bool×(List (Int×RAT×CELL))×(List (Int×RAT×CELL)),fun x=>qbE x.1 x.2.1 x.2.2.1 x.2.2.2.1 x.2.2.2.2.1 x.2.2.2.2.2.1 x.2.2.2.2.2.2.1 x.2.2.2.2.2.2.2.1 x.2.2.2.2.2.2.2.2.1 x.2.2.2.2.2.2.2.2.2.1 x.2.2.2.2.2.2.2.2.2.2.1 x.2.2.2.2.2.2.2.2.2.2.2.1 x.2.2.2.2.2.2.2.2.2.2.2.2.1 x.2.2.2.2.2.2.2.2.2.2.2.2.2.1 x.2.2.2.2.2.2.2.2.2.2.2.2.2.2.1 x.2.2.2.2.2.2.2.2.2.2.2.2.2.2.2.1 x.2.2.2.2.2.2.2.2.2.2.2.2.2.2.2.2.1,fun r=>((r.1,()),(r.2.1,r.2.2.1,r.2.2.2.1,r.2.2.2.2.1,r.2.2.2.2.2.1,r.2.2.2.2.2.2.1,r.2.2.2.2.2.2.2.1,r.2.2.2.2.2.2.2.2.1,r.2.2.2.2.2.2.2.2.2.1,r.2.2.2.2.2.2.2.2.2.2.1,r.2.2.2.2.2.2.2.2.2.2.2.1,r.2.2.2.2.2.2.2.2.2.2.2.2.1,r.2.2.2.2.2.2.2.2.2.2.2.2.2.1,r.2.2.2.2.2.2.2.2.2.2.2.2.2.2.1,r.2.2.2.2.2.2.2.2.2.2.2.2.2.2.2.1,r.2.2.2.2.2.2.2.2.2.2.2.2.2.2.2.2,())),some w77⟩
abbrev qbh:SG:=⟨[(0,.p 728 0 0),(2,.p 16 0 0),(3,.p 24 0 0),(62,.v (.pair .bool (.pair .bool .unit))),(63,.v (.int .i64))],[(16,[.v (.int .i64),.p 268 0 0,.v .bool,.v (.sl (.int .u64)),.v (.sl (.int .u64)),.v (.int .i64),.v .bool,.v (.sl (.int .u64)),.v (.sl (.int .u64)),.v .bool]),(24,[.v .bool,.v (.int .i64),.v .bool,.v (.sl (.int .u64)),.v (.sl (.int .u64)),.v (.int .i64),.v (.int .i64),.v .bool,.v .bool,.v (.sl (.int .u64)),.v (.sl (.int .u64)),.v .bool,.v (.sl (.int .u64)),.v (.sl (.int .u64))]),(268,[.o (.pair (.int .i64) (.pair tRAT qaz)) 269]),(728,[.v (.sl qbo),.v (.sl qaz),.v (.int .i64),.v .bool,.f tRAT 32,.o (.pair (.int .i64) (.pair (.op (.pair (.os (.pair (.int .i64) (.pair tRAT qaz))) .unit)) (.pair tRAT qhd))) 1733])],[],[]⟩
abbrev qbX:List (Ex×SG):=[(.exit 2,⟨[(0,.p 728 0 0)],[(728,[.v (.sl qbo),.v (.sl qaz),.v (.int .i64),.v .bool,.f tRAT 32,.o (.pair (.int .i64) (.pair (.op (.pair (.os (.pair (.int .i64) (.pair tRAT qaz))) .unit)) (.pair tRAT qhd))) 1733])],[],[]⟩)]
abbrev qfJ:=(((Bool×Bool×Unit)×Int×Unit)×((Int×Bool×(List Int)×(List Int)×Int×Bool×(List Int)×(List Int)×Bool×Unit)×(Bool×Int×Bool×(List Int)×(List Int)×Int×Int×Bool×Bool×(List Int)×(List Int)×Bool×(List Int)×(List Int)×Unit)×((List (Int×RAT×CELL))×Unit)×((List NODE)×(List CELL)×Int×Bool×(List RAT)×(List (Int×(Option ((Option (List (Int×RAT×CELL)))×Unit))×RAT×PART))×Unit)×Unit))
abbrev qfI:=(Unit×(((List NODE)×(List CELL)×Int×Bool×(List RAT)×(List (Int×(Option ((Option (List (Int×RAT×CELL)))×Unit))×RAT×PART))×Unit)×Unit))
def qal (g:qfJ→Option qfI):qfJ→Option qfI
 | ((v_62,v_63,_),((b16_0,b16_2,b16_3,b16_4,b16_5,b16_6,b16_7,b16_8,b16_9,_),(b24_0,b24_1,b24_2,b24_3,b24_4,b24_5,b24_6,b24_7,b24_8,b24_9,b24_10,b24_11,b24_12,b24_13,_),(b268_0,_),(b728_0,b728_1,b728_2,b728_3,b728_4,b728_5,_),_))=>bif (decide (v_63<2)) then (bif decide (0≤v_63) then (([v_62.1,v_62.2.1]:List Bool)[v_63.toNat]?).bind fun x9=>bif x9 then ((qbE b16_0 b16_2 b16_3 b16_4 b16_5 b16_6 b16_7 b16_8 b16_9 b24_5 x9 b728_0 b728_1 b728_2 b728_3 b728_4 b268_0).bind fun r10=>bif r10.2.2.2.2.2.2.2.2.2.2.1 then (bif Nat.ble ((b728_5.length+([(r10.2.1,((some ((some r10.2.2.2.2.2.2.2.2.2.2.2.2.2.2.2.2),())),(((r10.2.2.1,r10.2.2.2.1),r10.2.2.2.2.1),(r10.2.2.2.2.2.1,(((r10.2.2.2.2.2.2.1,r10.2.2.2.2.2.2.2.1),r10.2.2.2.2.2.2.2.2.1),r10.2.2.2.2.2.2.2.2.2.1)))))]).length)*144) 140737488355328&&!false then g (((v_62.1,(v_62.2.1,())),(iadd .i64 v_63 1),()),((b16_0,b16_2,b16_3,b16_4,b16_5,b16_6,b16_7,b16_8,b16_9,()),(b24_0,b24_1,b24_2,b24_3,b24_4,b24_5,b24_6,b24_7,b24_8,b24_9,b24_10,b24_11,b24_12,b24_13,()),(r10.2.2.2.2.2.2.2.2.2.2.2.2.2.2.2.1,()),(r10.2.2.2.2.2.2.2.2.2.2.2.1,r10.2.2.2.2.2.2.2.2.2.2.2.2.1,r10.2.2.2.2.2.2.2.2.2.2.2.2.2.1,r10.2.2.2.2.2.2.2.2.2.2.2.2.2.2.1,(over b728_4 0 r10.1),(b728_5++[(r10.2.1,((some ((some r10.2.2.2.2.2.2.2.2.2.2.2.2.2.2.2.2),())),(((r10.2.2.1,r10.2.2.2.1),r10.2.2.2.2.1),(r10.2.2.2.2.2.1,(((r10.2.2.2.2.2.2.1,r10.2.2.2.2.2.2.2.1),r10.2.2.2.2.2.2.2.2.1),r10.2.2.2.2.2.2.2.2.2.1)))))]),()),())) else none) else (g (((v_62.1,(v_62.2.1,())),(iadd .i64 v_63 1),()),((b16_0,b16_2,b16_3,b16_4,b16_5,b16_6,b16_7,b16_8,b16_9,()),(b24_0,b24_1,b24_2,b24_3,b24_4,b24_5,b24_6,b24_7,b24_8,b24_9,b24_10,b24_11,b24_12,b24_13,()),(r10.2.2.2.2.2.2.2.2.2.2.2.2.2.2.2.1,()),(r10.2.2.2.2.2.2.2.2.2.2.2.1,r10.2.2.2.2.2.2.2.2.2.2.2.2.1,r10.2.2.2.2.2.2.2.2.2.2.2.2.2.1,r10.2.2.2.2.2.2.2.2.2.2.2.2.2.2.1,(over b728_4 0 r10.1),b728_5,()),())))) else ((qbE b16_0 b16_2 b16_3 b16_4 b16_5 b16_6 b16_7 b16_8 b16_9 b24_6 x9 b728_0 b728_1 b728_2 b728_3 b728_4 b268_0).bind fun r11=>bif r11.2.2.2.2.2.2.2.2.2.2.1 then (bif Nat.ble ((b728_5.length+([(r11.2.1,((some ((some r11.2.2.2.2.2.2.2.2.2.2.2.2.2.2.2.2),())),(((r11.2.2.1,r11.2.2.2.1),r11.2.2.2.2.1),(r11.2.2.2.2.2.1,(((r11.2.2.2.2.2.2.1,r11.2.2.2.2.2.2.2.1),r11.2.2.2.2.2.2.2.2.1),r11.2.2.2.2.2.2.2.2.2.1)))))]).length)*144) 140737488355328&&!false then g (((v_62.1,(v_62.2.1,())),(iadd .i64 v_63 1),()),((b16_0,b16_2,b16_3,b16_4,b16_5,b16_6,b16_7,b16_8,b16_9,()),(b24_0,b24_1,b24_2,b24_3,b24_4,b24_5,b24_6,b24_7,b24_8,b24_9,b24_10,b24_11,b24_12,b24_13,()),(r11.2.2.2.2.2.2.2.2.2.2.2.2.2.2.2.1,()),(r11.2.2.2.2.2.2.2.2.2.2.2.1,r11.2.2.2.2.2.2.2.2.2.2.2.2.1,r11.2.2.2.2.2.2.2.2.2.2.2.2.2.1,r11.2.2.2.2.2.2.2.2.2.2.2.2.2.2.1,(over b728_4 0 r11.1),(b728_5++[(r11.2.1,((some ((some r11.2.2.2.2.2.2.2.2.2.2.2.2.2.2.2.2),())),(((r11.2.2.1,r11.2.2.2.1),r11.2.2.2.2.1),(r11.2.2.2.2.2.1,(((r11.2.2.2.2.2.2.1,r11.2.2.2.2.2.2.2.1),r11.2.2.2.2.2.2.2.2.1),r11.2.2.2.2.2.2.2.2.2.1)))))]),()),())) else none) else (g (((v_62.1,(v_62.2.1,())),(iadd .i64 v_63 1),()),((b16_0,b16_2,b16_3,b16_4,b16_5,b16_6,b16_7,b16_8,b16_9,()),(b24_0,b24_1,b24_2,b24_3,b24_4,b24_5,b24_6,b24_7,b24_8,b24_9,b24_10,b24_11,b24_12,b24_13,()),(r11.2.2.2.2.2.2.2.2.2.2.2.2.2.2.2.1,()),(r11.2.2.2.2.2.2.2.2.2.2.2.1,r11.2.2.2.2.2.2.2.2.2.2.2.2.1,r11.2.2.2.2.2.2.2.2.2.2.2.2.2.1,r11.2.2.2.2.2.2.2.2.2.2.2.2.2.2.1,(over b728_4 0 r11.1),b728_5,()),())))) else none) else (some ((()),((b728_0,b728_1,b728_2,b728_3,b728_4,b728_5,()),())))
abbrev qbi:SG:=⟨[(0,.p 728 0 0)],[(728,[.v (.sl qbo),.v (.sl qaz),.v (.int .i64),.v .bool,.f tRAT 32,.o (.pair (.int .i64) (.pair (.op (.pair (.os (.pair (.int .i64) (.pair tRAT qaz))) .unit)) (.pair tRAT qhd))) 1733])],[],[]⟩
abbrev qbY:List (Ex×SG):=[(.exit 0,⟨[(0,.p 728 0 0)],[(728,[.v (.sl qbo),.v (.sl qaz),.v (.int .i64),.v .bool,.f tRAT 32,.o (.pair (.int .i64) (.pair (.op (.pair (.os (.pair (.int .i64) (.pair tRAT qaz))) .unit)) (.pair tRAT qhd))) 1733])],[],[]⟩)]
abbrev qfL:=(Unit×(((List NODE)×(List CELL)×Int×Bool×(List RAT)×(List (Int×(Option ((Option (List (Int×RAT×CELL)))×Unit))×RAT×PART))×Unit)×Unit))
abbrev qfK:=(Unit×(((List NODE)×(List CELL)×Int×Bool×(List RAT)×(List (Int×(Option ((Option (List (Int×RAT×CELL)))×Unit))×RAT×PART))×Unit)×Unit))
def qas (g:qfL→Option qfK):qfL→Option qfK
 | (_,((b728_0,b728_1,b728_2,b728_3,b728_4,b728_5,_),_))=>bif (decide ((b728_5.length:Int)>0)) then (bif decide (0≤(isub .i64 (b728_5.length:Int) 1))&&decide ((isub .i64 (b728_5.length:Int) 1)<(b728_5.length:Int)) then (b728_5[(isub .i64 (b728_5.length:Int) 1).toNat]?).bind fun x3=>(x3.2.1).bind fun x4=>(x4.1).bind fun x5=>bif decide ((0:Int)≤(isub .i64 ((b728_5.set ((isub .i64 (b728_5.length:Int) 1).toNat) (x3.1,(none,x3.2.2))).length:Int) 1))&&decide (((isub .i64 ((b728_5.set ((isub .i64 (b728_5.length:Int) 1).toNat) (x3.1,(none,x3.2.2))).length:Int) 1):Int)≤(isub .i64 ((b728_5.set ((isub .i64 (b728_5.length:Int) 1).toNat) (x3.1,(none,x3.2.2))).length:Int) 1))&&decide (((isub .i64 ((b728_5.set ((isub .i64 (b728_5.length:Int) 1).toNat) (x3.1,(none,x3.2.2))).length:Int) 1):Int)≤((b728_5.set ((isub .i64 (b728_5.length:Int) 1).toNat) (x3.1,(none,x3.2.2))).length:Int)) then (qaU x3.1 x3.2.2.1.1.1 x3.2.2.1.1.2 x3.2.2.1.2 x3.2.2.2.1 x3.2.2.2.2.1.1.1 x3.2.2.2.2.1.1.2 x3.2.2.2.2.1.2 x3.2.2.2.2.2 x5).bind fun r6=>bif decide (0≤r6.1) then (b728_0[r6.1.toNat]?).bind fun x7=>bif x7.1 then ((qbp r6.1 r6.2.1 r6.2.2.1 r6.2.2.2.1 r6.2.2.2.2.1 r6.2.2.2.2.2.1 r6.2.2.2.2.2.2.1 r6.2.2.2.2.2.2.2.1 r6.2.2.2.2.2.2.2.2.1 b728_0 b728_1 b728_2 b728_3 b728_4 r6.2.2.2.2.2.2.2.2.2).bind fun r8=>g ((()),((r8.2.1,r8.2.2.1,r8.2.2.2.1,r8.2.2.2.2.1,(over b728_4 0 r8.1),((b728_5.set ((isub .i64 (b728_5.length:Int) 1).toNat) (x3.1,(none,x3.2.2))).take (((isub .i64 ((b728_5.set ((isub .i64 (b728_5.length:Int) 1).toNat) (x3.1,(none,x3.2.2))).length:Int) 1)-0).toNat)),()),()))) else ((lp qal K0 (((false,(true,())),0,()),((r6.1,r6.2.1,r6.2.2.1,r6.2.2.2.1,r6.2.2.2.2.1,r6.2.2.2.2.2.1,r6.2.2.2.2.2.2.1,r6.2.2.2.2.2.2.2.1,r6.2.2.2.2.2.2.2.2.1,()),(x7.1,x7.2.1,x7.2.2.1.1.1,x7.2.2.1.1.2,x7.2.2.1.2,x7.2.2.2.1,x7.2.2.2.2.1,x7.2.2.2.2.2.1,x7.2.2.2.2.2.2.1.1.1,x7.2.2.2.2.2.2.1.1.2,x7.2.2.2.2.2.2.1.2,x7.2.2.2.2.2.2.2.1.1,x7.2.2.2.2.2.2.2.1.2,x7.2.2.2.2.2.2.2.2,()),(r6.2.2.2.2.2.2.2.2.2,()),(b728_0,b728_1,b728_2,b728_3,b728_4,((b728_5.set ((isub .i64 (b728_5.length:Int) 1).toNat) (x3.1,(none,x3.2.2))).take (((isub .i64 ((b728_5.set ((isub .i64 (b728_5.length:Int) 1).toNat) (x3.1,(none,x3.2.2))).length:Int) 1)-0).toNat)),()),()))).bind fun t12=>g ((()),((t12.2.1.1,t12.2.1.2.1,t12.2.1.2.2.1,t12.2.1.2.2.2.1,t12.2.1.2.2.2.2.1,t12.2.1.2.2.2.2.2.1,()),()))) else none else none else none) else (some ((()),((b728_0,b728_1,b728_2,b728_3,b728_4,b728_5,()),())))
def qb8 (b_0:List NODE) (b_1:List CELL) (b_2:Int) (b_3:Bool) (b_4:List RAT) (b_5:List (Int×(Option ((Option (List (Int×RAT×CELL)))×Unit))×RAT×PART)):Option ((List RAT)×(List NODE)×(List CELL)×Int×Bool×(List (Int×(Option ((Option (List (Int×RAT×CELL)))×Unit))×RAT×PART))) :=
 (qhQ ).bind fun r1=>(qdk ).bind fun r2=>(lp qas K0 ((()),((b_0,b_1,b_2,b_3,b_4,[(0,((some ((some r1),())),(r2,((-1),(((false,[]),[]),false)))))],()),()))).bind fun t13=>(bif Nat.beq t13.2.1.2.2.2.2.1.length b_4.length then some (t13.2.1.2.2.2.2.1,()) else none).bind fun l14=>some (l14.1,t13.2.1.1,t13.2.1.2.1,t13.2.1.2.2.1,t13.2.1.2.2.2.1,t13.2.1.2.2.2.2.2.1)
abbrev w47:Wir:=⟨[.b],[[.x,.x,.x,.x,.l,.x]],0,none,[],[],0⟩
def c47:Ctr:=⟨[((.sl qbo),.imm),((.sl qaz),.imm),((.int .i64),.imm),(.bool,.imm),((.sl tRAT),.lent),((.sl (.pair (.int .i64) (.pair (.op (.pair (.os (.pair (.int .i64) (.pair tRAT qaz))) .unit)) (.pair tRAT qhd)))),.imm)],[((.sl qbo),false),((.sl qaz),false),((.int .i64),false),(.bool,false),((.sl (.pair (.int .i64) (.pair (.op (.pair (.os (.pair (.int .i64) (.pair tRAT qaz))) .unit)) (.pair tRAT qhd)))),false)],(List RAT)×(List NODE)×(List CELL)×Int×Bool×(List (Int×(Option ((Option (List (Int×RAT×CELL)))×Unit))×RAT×PART)),fun x=>qb8 x.1 x.2.1 x.2.2.1 x.2.2.2.1 x.2.2.2.2.1 x.2.2.2.2.2.1,fun r=>((r.1,()),(r.2.1,r.2.2.1,r.2.2.2.1,r.2.2.2.2.1,r.2.2.2.2.2,())),some w47⟩
abbrev qdU:SG:=⟨[(1,.v (.sl qaz)),(2,.v (.int .i64)),(3,.v .bool),(9,.o tRAT 79),(17,.v (.sl (.sl qbo))),(18,.v (.int .i64)),(19,.v (.int .i64))],[],[],[]⟩
abbrev qeU:List (Ex×SG):=[(.exit 0,⟨[(9,.o tRAT 79)],[],[],[]⟩)]
abbrev qjS:=(((List CELL)×Int×Bool×(List RAT)×(List (List NODE))×Int×Int×Unit)×Unit)
abbrev qjR:=(((List RAT)×Unit)×Unit)
def qb0 (g:qjS→Option qjR):qjS→Option qjR
 | ((row_1,fixed_2,on_3,out_9,v_17,v_18,v_19,_),_)=>bif (decide (v_19<v_18)) then (bif decide (0≤v_19) then (v_17[v_19.toNat]?).bind fun x2=>(qb8 x2 row_1 fixed_2 on_3 out_9 ([])).bind fun r3=>g ((row_1,fixed_2,on_3,(over out_9 0 r3.1),v_17,v_18,(iadd .i64 v_19 1),()),()) else none) else (some ((out_9,()),()))
def qhO (m_0:qbf) (row_1:List CELL) (fixed_2:Int) (on_3:Bool):Option (List RAT) :=
 (qfH m_0.1).bind fun r1=>(lp qb0 K0 ((row_1,fixed_2,on_3,r1,m_0.2,(m_0.2.length:Int),0,()),())).bind fun t4=>some t4.1.1
def c22:Ctr:=⟨[(qiM,.imm),((.sl qaz),.imm),((.int .i64),.imm),(.bool,.imm)],[((.sl tRAT),true)],(List RAT),fun x=>qhO x.1 x.2.1 x.2.2.1 x.2.2.2.1,fun r=>((),(r,())),none⟩
def qc1 (m_0:qbf) (row_1:List CELL):Option ((List RAT)×Int) :=
 (qez m_0 row_1).bind fun r1=>bif (!decide (r1=0)) then (some ([],r1)) else ((qhO m_0 row_1 (-1) false).bind fun r2=>some (r2,0))
def c6:Ctr:=⟨[(qiM,.imm),((.sl qaz),.imm)],[((.sl tRAT),true),((.int .i64),false)],(List RAT)×Int,fun x=>qc1 x.1 x.2.1,fun r=>((),(r.1,r.2,())),none⟩
def qfX (m_0:qbf) (row_1:List CELL):Option Int :=
 (qhx m_0).bind fun r1=>bif (!r1) then (some 1) else (bif (!decide ((row_1.length:Int)=m_0.1)) then (some 14) else (some 0))
def c7:Ctr:=⟨[(qiM,.imm),((.sl qaz),.imm)],[((.int .i64),false)],Int,fun x=>qfX x.1 x.2.1,fun r=>((),(r,())),none⟩
abbrev qbP:SG:=⟨[(0,.v (.int .i64)),(3,.o (.int .i64) 31)],[],[],[]⟩
abbrev qcy:List (Ex×SG):=[(.exit 0,⟨[(3,.o (.int .i64) 31)],[],[],[]⟩)]
def qaT (g:((Int×(List Int)×Unit)×Unit)→Option (((List Int)×Unit)×Unit)):((Int×(List Int)×Unit)×Unit)→Option (((List Int)×Unit)×Unit)
 | ((n_0,out_3,_),_)=>bif (decide (n_0>0)) then (bif Nat.ble ((out_3.length+1)*8) 140737488355328&&!false then g (((iquo .i64 n_0 10000),(out_3++([(irem n_0 10000)]:List Int)),()),()) else none) else (some ((out_3,()),()))
def qam (n_0:Int):Option (List Int) :=
 (lp qaT K0 ((n_0,[],()),())).bind fun t1=>some t1.1.1
def c87:Ctr:=⟨[((.int .i64),.imm)],[((.sl (.int .i64)),true)],(List Int),fun x=>qam x.1,fun r=>((),(r,())),none⟩
def qaF (a_0:List Int) (i_1:Int):Option Int :=
 bif (decide (i_1<(a_0.length:Int))) then (bif decide (0≤i_1) then (a_0[i_1.toNat]?).bind fun x1=>some x1 else none) else (some 0)
def c118:Ctr:=⟨[((.sl (.int .i64)),.imm),((.int .i64),.imm)],[((.int .i64),false)],Int,fun x=>qaF x.1 x.2.1,fun r=>((),(r,())),none⟩
abbrev qcb:SG:=⟨[(0,.v (.sl (.int .i64))),(1,.v (.sl (.int .i64))),(5,.o (.int .i64) 47),(6,.v (.int .i64)),(7,.v (.int .i64))],[],[],[]⟩
abbrev qcN:List (Ex×SG):=[(.exit 0,⟨[(5,.o (.int .i64) 47)],[],[],[]⟩)]
abbrev qg1:=(((List Int)×(List Int)×(List Int)×Int×Int×Unit)×Unit)
abbrev qg0:=(((List Int)×Unit)×Unit)
def qaD (g:qg1→Option qg0):qg1→Option qg0
 | ((a_0,b_1,out_5,c_6,i_7,_),_)=>bif (decide (i_7<(a_0.length:Int))) then ((qaF a_0 i_7).bind fun r1=>(qaF b_1 i_7).bind fun r2=>bif Nat.ble ((out_5.length+1)*8) 140737488355328&&!false then g ((a_0,b_1,(out_5++([(irem (iadd .i64 (iadd .i64 c_6 r1) r2) 10000)]:List Int)),(iquo .i64 (iadd .i64 (iadd .i64 c_6 r1) r2) 10000),(iadd .i64 i_7 1),()),()) else none) else (bif (decide (i_7<(b_1.length:Int))) then ((qaF a_0 i_7).bind fun r3=>(qaF b_1 i_7).bind fun r4=>bif Nat.ble ((out_5.length+1)*8) 140737488355328&&!false then g ((a_0,b_1,(out_5++([(irem (iadd .i64 (iadd .i64 c_6 r3) r4) 10000)]:List Int)),(iquo .i64 (iadd .i64 (iadd .i64 c_6 r3) r4) 10000),(iadd .i64 i_7 1),()),()) else none) else (bif (decide (c_6>0)) then ((qaF a_0 i_7).bind fun r5=>(qaF b_1 i_7).bind fun r6=>bif Nat.ble ((out_5.length+1)*8) 140737488355328&&!false then g ((a_0,b_1,(out_5++([(irem (iadd .i64 (iadd .i64 c_6 r5) r6) 10000)]:List Int)),(iquo .i64 (iadd .i64 (iadd .i64 c_6 r5) r6) 10000),(iadd .i64 i_7 1),()),()) else none) else (some ((out_5,()),()))))
def qc0 (a_0:List Int) (b_1:List Int):Option (List Int) :=
 (lp qaD K0 ((a_0,b_1,[],0,0,()),())).bind fun t7=>some t7.1.1
def c91:Ctr:=⟨[((.sl (.int .i64)),.imm),((.sl (.int .i64)),.imm)],[((.sl (.int .i64)),true)],(List Int),fun x=>qc0 x.1 x.2.1,fun r=>((),(r,())),none⟩
abbrev qca:SG:=⟨[(0,.v (.sl (.int .i64))),(3,.v (.int .i64))],[],[],[]⟩
abbrev qcM:List (Ex×SG):=[(.exit 0,⟨[(0,.v (.sl (.int .i64))),(3,.v (.int .i64))],[],[],[]⟩)]
def qaN (g:(((List Int)×Int×Unit)×Unit)→Option (((List Int)×Int×Unit)×Unit)):(((List Int)×Int×Unit)×Unit)→Option (((List Int)×Int×Unit)×Unit)
 | ((a_0,n_3,_),_)=>bif (decide (n_3>0)) then (bif decide (0≤(isub .i64 n_3 1)) then (a_0[(isub .i64 n_3 1).toNat]?).bind fun x1=>bif (decide (x1=0)) then (g ((a_0,(isub .i64 n_3 1),()),())) else (some ((a_0,n_3,()),())) else none) else (some ((a_0,n_3,()),()))
def qbM (a_0:List Int):Option (List Int) :=
 (lp qaN K0 ((a_0,(a_0.length:Int),()),())).bind fun t2=>bif decide (0≤t2.1.2.1)&&decide ((t2.1.2.1:Int)≤(t2.1.1.length:Int)) then some (t2.1.1.take t2.1.2.1.toNat) else none
def c119:Ctr:=⟨[((.sl (.int .i64)),.imm)],[((.sl (.int .i64)),false)],(List Int),fun x=>qbM x.1,fun r=>((),(r,())),none⟩
abbrev qbN:SG:=⟨[(0,.v (.sl (.int .i64))),(1,.v (.sl (.int .i64))),(5,.o (.int .i64) 47),(6,.v (.int .i64)),(7,.v (.int .i64)),(8,.v (.int .i64))],[],[],[]⟩
abbrev qcw:List (Ex×SG):=[(.exit 2,⟨[(0,.v (.sl (.int .i64))),(1,.v (.sl (.int .i64))),(5,.o (.int .i64) 47),(6,.v (.int .i64)),(7,.v (.int .i64))],[],[],[]⟩)]
abbrev qgQ:=(((List Int)×(List Int)×(List Int)×Int×Int×Int×Unit)×Unit)
abbrev qgP:=(((List Int)×(List Int)×(List Int)×Int×Int×Unit)×Unit)
def qaG (g:qgQ→Option qgP):qgQ→Option qgP
 | ((a_0,b_1,out_5,i_6,c_7,k_8,_),_)=>bif (decide (k_8<(b_1.length:Int))) then (bif decide (0≤(iadd .i64 i_6 k_8))&&decide ((iadd .i64 i_6 k_8)<(out_5.length:Int)) then (out_5[(iadd .i64 i_6 k_8).toNat]?).bind fun x1=>bif decide (0≤i_6) then (a_0[i_6.toNat]?).bind fun x2=>bif decide (0≤k_8) then (b_1[k_8.toNat]?).bind fun x3=>bif decide (0≤(iadd .i64 i_6 k_8))&&decide ((iadd .i64 i_6 k_8)<(out_5.length:Int)) then (out_5[(iadd .i64 i_6 k_8).toNat]?).bind fun _=>g ((a_0,b_1,(out_5.set ((iadd .i64 i_6 k_8).toNat) (irem (iadd .i64 (iadd .i64 c_7 x1) (imul .i64 x2 x3)) 10000)),i_6,(iquo .i64 (iadd .i64 (iadd .i64 c_7 x1) (imul .i64 x2 x3)) 10000),(iadd .i64 k_8 1),()),()) else none else none else none else none) else (some ((a_0,b_1,out_5,i_6,c_7,()),()))
abbrev qbO:SG:=⟨[(0,.v (.sl (.int .i64))),(1,.v (.sl (.int .i64))),(5,.o (.int .i64) 47),(6,.v (.int .i64))],[],[],[]⟩
abbrev qcx:List (Ex×SG):=[(.exit 0,⟨[(5,.o (.int .i64) 47)],[],[],[]⟩)]
abbrev qgS:=(((List Int)×(List Int)×(List Int)×Int×Unit)×Unit)
abbrev qgR:=(((List Int)×Unit)×Unit)
def qaS (g:qgS→Option qgR):qgS→Option qgR
 | ((a_0,b_1,out_5,i_6,_),_)=>bif (decide (i_6<(a_0.length:Int))) then ((lp qaG K0 ((a_0,b_1,out_5,i_6,0,0,()),())).bind fun t5=>bif decide (0≤(iadd .i64 t5.1.2.2.2.1 (t5.1.2.1.length:Int)))&&decide ((iadd .i64 t5.1.2.2.2.1 (t5.1.2.1.length:Int))<(t5.1.2.2.1.length:Int)) then (t5.1.2.2.1[(iadd .i64 t5.1.2.2.2.1 (t5.1.2.1.length:Int)).toNat]?).bind fun _=>g ((t5.1.1,t5.1.2.1,(t5.1.2.2.1.set ((iadd .i64 t5.1.2.2.2.1 (t5.1.2.1.length:Int)).toNat) t5.1.2.2.2.2.1),(iadd .i64 t5.1.2.2.2.1 1),()),()) else none) else (some ((out_5,()),()))
def qbs (a_0:List Int) (b_1:List Int):Option (List Int) :=
 bif decide ((iadd .i64 (a_0.length:Int) (b_1.length:Int))=(iadd .i64 (a_0.length:Int) (b_1.length:Int)))&&decide (0≤(iadd .i64 (a_0.length:Int) (b_1.length:Int)))&&decide (((8:Nat):Int)*(iadd .i64 (a_0.length:Int) (b_1.length:Int))≤281474976710656)&&decide ((iadd .i64 (a_0.length:Int) (b_1.length:Int))≤9223372036854775807) then (lp qaS K0 ((a_0,b_1,(List.replicate (iadd .i64 (a_0.length:Int) (b_1.length:Int)).toNat (0:Int)),0,()),())).bind fun t7=>(qbM t7.1.1).bind fun r8=>some r8 else none
def c92:Ctr:=⟨[((.sl (.int .i64)),.imm),((.sl (.int .i64)),.imm)],[((.sl (.int .i64)),false)],(List Int),fun x=>qbs x.1 x.2.1,fun r=>((),(r,())),none⟩
abbrev qcd:SG:=⟨[(0,.v (.sl (.int .u64))),(3,.o (.int .i64) 31),(4,.v (.sl (.int .i64))),(5,.v (.int .i64))],[],[],[]⟩
abbrev qcP:List (Ex×SG):=[(.exit 0,⟨[(3,.o (.int .i64) 31)],[],[],[]⟩)]
abbrev qg5:=(((List Int)×(List Int)×(List Int)×Int×Unit)×Unit)
abbrev qg4:=(((List Int)×Unit)×Unit)
def qa0 (g:qg5→Option qg4):qg5→Option qg4
 | ((a_0,out_3,unit_4,i_5,_),_)=>bif (decide (i_5≥0)) then ((qbs out_3 unit_4).bind fun r2=>bif decide (0≤i_5) then (a_0[i_5.toNat]?).bind fun x3=>(qam (IntKind.wrap .i64 (iand .u64 x3 4294967295))).bind fun r4=>(qc0 r2 r4).bind fun r5=>g ((a_0,r5,unit_4,(isub .i64 i_5 1),()),()) else none) else (some ((out_3,()),()))
def qaE (a_0:List Int):Option (List Int) :=
 (qam 4294967296).bind fun r1=>(lp qa0 K0 ((a_0,[],r1,(isub .i64 (a_0.length:Int) 1),()),())).bind fun t6=>some t6.1.1
def c51:Ctr:=⟨[((.sl (.int .u64)),.imm)],[((.sl (.int .i64)),true)],(List Int),fun x=>qaE x.1,fun r=>((),(r,())),none⟩
def qbL (neg_0:Bool) (n_1:List Int):Option (Bool×List Int) :=
 bif neg_0 then (some ((decide ((n_1.length:Int)>0)),n_1)) else (some (false,n_1))
def c94:Ctr:=⟨[(.bool,.imm),((.sl (.int .i64)),.imm)],[((.pair .bool (.sl (.int .i64))),false)],(Bool×List Int),fun x=>qbL x.1 x.2.1,fun r=>((),(r,())),none⟩
def qeJ (n_0:Int):Option (Bool×List Int) :=
 bif (decide (n_0<0)) then ((qam (isub .i64 0 (iadd .i64 n_0 1))).bind fun r1=>(qam 1).bind fun r2=>(qc0 r1 r2).bind fun r3=>(qbL true r3).bind fun r4=>some r4) else ((qam n_0).bind fun r5=>(qbL false r5).bind fun r6=>some r6)
def c93:Ctr:=⟨[((.int .i64),.imm)],[((.pair .bool (.sl (.int .i64))),false)],(Bool×List Int),fun x=>qeJ x.1,fun r=>((),(r,())),none⟩
def qeI (n_0:Int) (d_1:Int):Option ((Bool×List Int)×List Int) :=
 (qeJ n_0).bind fun r1=>(qam d_1).bind fun r2=>some (r1,r2)
def c52:Ctr:=⟨[((.int .i64),.imm),((.int .i64),.imm)],[((.pair (.pair .bool (.sl (.int .i64))) (.sl (.int .i64))),false)],((Bool×List Int)×List Int),fun x=>qeI x.1 x.2.1,fun r=>((),(r,())),none⟩
def qd4 (a_0:WH):Option (Bool×List Int) :=
 (qaE a_0.2).bind fun r1=>(qbL a_0.1 r1).bind fun r2=>some r2
def c53:Ctr:=⟨[(tWH,.imm)],[((.pair .bool (.sl (.int .i64))),false)],(Bool×List Int),fun x=>qd4 x.1,fun r=>((),(r,())),none⟩
def qbK (a_0:RAT):Option ((Bool×List Int)×List Int) :=
 (qaE a_0.2).bind fun r1=>bif (decide ((r1.length:Int)=0)) then ((qeI 0 1).bind fun r2=>some r2) else ((qd4 a_0.1).bind fun r3=>some (r3,r1))
def c25:Ctr:=⟨[(tRAT,.imm)],[((.pair (.pair .bool (.sl (.int .i64))) (.sl (.int .i64))),false)],((Bool×List Int)×List Int),fun x=>qbK x.1,fun r=>((),(r,())),none⟩
abbrev qbQ:SG:=⟨[(0,.v (.sl (.int .u64))),(3,.v (.int .i64))],[],[],[]⟩
abbrev qcz:List (Ex×SG):=[(.exit 0,⟨[(0,.v (.sl (.int .u64)))],[],[],[]⟩),(.ret,⟨[(2,.v .bool)],[],[],[]⟩)]
def qaH (g:(((List Int)×Int×Unit)×Unit)→Option ((((List Int)×Unit)×Unit) ⊕ ((Bool×Unit)×Unit))):(((List Int)×Int×Unit)×Unit)→Option ((((List Int)×Unit)×Unit) ⊕ ((Bool×Unit)×Unit))
 | ((a_0,i_3,_),_)=>bif (decide (i_3<(a_0.length:Int))) then (bif decide (0≤i_3) then (a_0[i_3.toNat]?).bind fun x1=>bif (decide (x1>4294967295)) then (some (.inr ((false,()),()))) else (g ((a_0,(iadd .i64 i_3 1),()),())) else none) else (some (.inl ((a_0,()),())))
def qcG (a_0:List Int):Option Bool :=
 (lp qaH K0 ((a_0,0,()),())).bind fun t2=>(match t2 with | .inl t3=>bif (decide ((t3.1.1.length:Int)=0)) then (some true) else (bif decide (0≤(isub .i64 (t3.1.1.length:Int) 1)) then (t3.1.1[(isub .i64 (t3.1.1.length:Int) 1).toNat]?).bind fun x5=>some (!decide (x5=0)) else none) | .inr t4=>some t4.1.1)
def c84:Ctr:=⟨[((.sl (.int .u64)),.imm)],[(.bool,false)],Bool,fun x=>qcG x.1,fun r=>((),(r,())),none⟩
abbrev qbS:SG:=⟨[(0,.v (.sl (.int .i64))),(1,.v (.sl (.int .i64))),(5,.v (.int .i64))],[],[],[]⟩
abbrev qcB:List (Ex×SG):=[(.exit 0,⟨[],[],[],[]⟩),(.ret,⟨[(4,.v (.int .i64))],[],[],[]⟩)]
def qax (g:(((List Int)×(List Int)×Int×Unit)×Unit)→Option ((Unit×Unit) ⊕ ((Int×Unit)×Unit))):(((List Int)×(List Int)×Int×Unit)×Unit)→Option ((Unit×Unit) ⊕ ((Int×Unit)×Unit))
 | ((a_0,b_1,i_5,_),_)=>bif (decide (i_5≥0)) then (bif decide (0≤i_5) then (a_0[i_5.toNat]?).bind fun x1=>bif decide (0≤i_5) then (b_1[i_5.toNat]?).bind fun x2=>bif (decide (x1<x2)) then (some (.inr (((-1),()),()))) else (bif decide (0≤i_5) then (a_0[i_5.toNat]?).bind fun x3=>bif decide (0≤i_5) then (b_1[i_5.toNat]?).bind fun x4=>bif (decide (x3>x4)) then (some (.inr ((1,()),()))) else (g ((a_0,b_1,(isub .i64 i_5 1),()),())) else none else none) else none else none) else (some (.inl ((()),())))
def qaj (a_0:List Int) (b_1:List Int):Option Int :=
 bif (!decide ((a_0.length:Int)=(b_1.length:Int))) then (bif (decide ((a_0.length:Int)<(b_1.length:Int))) then (some (-1)) else (some 1)) else ((lp qax K0 ((a_0,b_1,(isub .i64 (a_0.length:Int) 1),()),())).bind fun t5=>(match t5 with | .inl t6=>some 0 | .inr t7=>some t7.1.1))
def c86:Ctr:=⟨[((.sl (.int .i64)),.imm),((.sl (.int .i64)),.imm)],[((.int .i64),false)],Int,fun x=>qaj x.1 x.2.1,fun r=>((),(r,())),none⟩
abbrev qbT:SG:=⟨[(0,.v (.sl (.int .i64))),(1,.v (.sl (.int .i64))),(5,.o (.int .i64) 47),(6,.v (.int .i64)),(7,.v (.int .i64))],[],[],[]⟩
abbrev qcC:List (Ex×SG):=[(.exit 0,⟨[(5,.o (.int .i64) 47)],[],[],[]⟩)]
abbrev qgW:=(((List Int)×(List Int)×(List Int)×Int×Int×Unit)×Unit)
abbrev qgV:=(((List Int)×Unit)×Unit)
def qaI (g:qgW→Option qgV):qgW→Option qgV
 | ((a_0,b_1,out_5,c_6,i_7,_),_)=>bif (decide (i_7<(a_0.length:Int))) then (bif decide (0≤i_7) then (a_0[i_7.toNat]?).bind fun x1=>(qaF b_1 i_7).bind fun r2=>bif (decide ((isub .i64 (isub .i64 x1 r2) c_6)<0)) then (bif Nat.ble ((out_5.length+1)*8) 140737488355328&&!false then g ((a_0,b_1,(out_5++([(iadd .i64 (isub .i64 (isub .i64 x1 r2) c_6) 10000)]:List Int)),1,(iadd .i64 i_7 1),()),()) else none) else (bif Nat.ble ((out_5.length+1)*8) 140737488355328&&!false then g ((a_0,b_1,(out_5++([(isub .i64 (isub .i64 x1 r2) c_6)]:List Int)),0,(iadd .i64 i_7 1),()),()) else none) else none) else (some ((out_5,()),()))
def qdy (a_0:List Int) (b_1:List Int):Option (List Int) :=
 (lp qaI K0 ((a_0,b_1,[],0,0,()),())).bind fun t3=>(qbM t3.1.1).bind fun r4=>some r4
def c129:Ctr:=⟨[((.sl (.int .i64)),.imm),((.sl (.int .i64)),.imm)],[((.sl (.int .i64)),false)],(List Int),fun x=>qdy x.1 x.2.1,fun r=>((),(r,())),none⟩
abbrev qbR:SG:=⟨[(0,.v (.sl (.int .i64))),(1,.v (.sl (.int .i64))),(6,.o (.int .i64) 55),(7,.v (.sl (.int .i64))),(8,.v (.int .i64)),(10,.v (.int .i64)),(11,.v (.int .i64))],[],[],[]⟩
abbrev qcA:List (Ex×SG):=[(.exit 2,⟨[(0,.v (.sl (.int .i64))),(1,.v (.sl (.int .i64))),(6,.o (.int .i64) 55),(7,.v (.sl (.int .i64))),(8,.v (.int .i64)),(10,.v (.int .i64))],[],[],[]⟩)]
abbrev qgU:=(((List Int)×(List Int)×(List Int)×(List Int)×Int×Int×Int×Unit)×Unit)
abbrev qgT:=(((List Int)×(List Int)×(List Int)×(List Int)×Int×Int×Unit)×Unit)
def qaw (g:qgU→Option qgT):qgU→Option qgT
 | ((v_0,v_1,v_6,v_7,v_8,v_10,v_11,_),_)=>bif (decide ((isub .i64 v_11 v_10)>1)) then ((qam (iquo .i64 (iadd .i64 v_10 v_11) 2)).bind fun r3=>(qbs v_1 r3).bind fun r4=>(qaj r4 v_7).bind fun r5=>bif (decide (r5≤0)) then (g ((v_0,v_1,v_6,v_7,v_8,(iquo .i64 (iadd .i64 v_10 v_11) 2),v_11,()),())) else (g ((v_0,v_1,v_6,v_7,v_8,v_10,(iquo .i64 (iadd .i64 v_10 v_11) 2),()),()))) else (some ((v_0,v_1,v_6,v_7,v_8,v_10,()),()))
abbrev qcc:SG:=⟨[(0,.v (.sl (.int .i64))),(1,.v (.sl (.int .i64))),(6,.o (.int .i64) 55),(7,.v (.sl (.int .i64))),(8,.v (.int .i64))],[],[],[]⟩
abbrev qcO:List (Ex×SG):=[(.exit 0,⟨[(6,.o (.int .i64) 55),(7,.v (.sl (.int .i64)))],[],[],[]⟩)]
abbrev qg3:=(((List Int)×(List Int)×(List Int)×(List Int)×Int×Unit)×Unit)
abbrev qg2:=(((List Int)×(List Int)×Unit)×Unit)
def qaZ (g:qg3→Option qg2):qg3→Option qg2
 | ((v_0,v_1,v_6,v_7,v_8,_),_)=>bif (decide (v_8≥0)) then (bif decide (0≤v_8) then (v_0[v_8.toNat]?).bind fun x1=>bif Nat.ble ((([x1]:List Int).length+v_7.length)*8) 140737488355328&&!false then (qbM (([x1]:List Int)++v_7)).bind fun r2=>(lp qaw K0 ((v_0,v_1,v_6,r2,v_8,0,10000,()),())).bind fun t6=>bif decide (0≤t6.1.2.2.2.2.1)&&decide (t6.1.2.2.2.2.1<(t6.1.2.2.1.length:Int)) then (t6.1.2.2.1[t6.1.2.2.2.2.1.toNat]?).bind fun _=>(qam t6.1.2.2.2.2.2.1).bind fun r8=>(qbs t6.1.2.1 r8).bind fun r9=>(qdy t6.1.2.2.2.1 r9).bind fun r10=>g ((t6.1.1,t6.1.2.1,(t6.1.2.2.1.set t6.1.2.2.2.2.1.toNat t6.1.2.2.2.2.2.1),r10,(isub .i64 t6.1.2.2.2.2.1 1),()),()) else none else none else none) else (some ((v_6,v_7,()),()))
def qd5 (a_0:List Int) (a_1:List Int):Option ((List Int)×(List Int)) :=
 bif decide ((a_0.length:Int)=(a_0.length:Int))&&decide (0≤(a_0.length:Int))&&decide (((8:Nat):Int)*(a_0.length:Int)≤281474976710656)&&decide ((a_0.length:Int)≤9223372036854775807) then (lp qaZ K0 ((a_0,a_1,(List.replicate (a_0.length:Int).toNat (0:Int)),[],(isub .i64 (a_0.length:Int) 1),()),())).bind fun t11=>(qbM t11.1.1).bind fun r12=>some (r12,t11.1.2.1) else none
def c117:Ctr:=⟨[((.sl (.int .i64)),.imm),((.sl (.int .i64)),.imm)],[((.sl (.int .i64)),false),((.sl (.int .i64)),false)],(List Int)×(List Int),fun x=>qd5 x.1 x.2.1,fun r=>((),(r.1,r.2,())),none⟩
abbrev qcl:SG:=⟨[(0,.v (.sl (.int .i64))),(1,.v (.sl (.int .i64)))],[],[],[]⟩
abbrev qc3:List (Ex×SG):=[(.exit 0,⟨[(0,.v (.sl (.int .i64)))],[],[],[]⟩)]
def qbd (g:(((List Int)×(List Int)×Unit)×Unit)→Option (((List Int)×Unit)×Unit)):(((List Int)×(List Int)×Unit)×Unit)→Option (((List Int)×Unit)×Unit)
 | ((a_0,b_1,_),_)=>bif (decide ((b_1.length:Int)>0)) then ((qd5 a_0 b_1).bind fun r1=>g ((b_1,r1.2,()),())) else (some ((a_0,()),()))
def qcJ (a_0:List Int) (b_1:List Int):Option (List Int) :=
 (lp qbd K0 ((a_0,b_1,()),())).bind fun t2=>some t2.1.1
def c85:Ctr:=⟨[((.sl (.int .i64)),.imm),((.sl (.int .i64)),.imm)],[((.sl (.int .i64)),false)],(List Int),fun x=>qcJ x.1 x.2.1,fun r=>((),(r,())),none⟩
def qdu (a_0:RAT):Option Bool :=
 (qcG a_0.1.2).bind fun r1=>bif (!r1) then (some false) else ((qcG a_0.2).bind fun r2=>bif (!r2) then (some false) else (bif (decide ((a_0.2.length:Int)=0)) then (some false) else (bif (decide ((a_0.1.2.length:Int)=0)) then (bif a_0.1.1 then (some false) else ((qaE a_0.1.2).bind fun r3=>(qaE a_0.2).bind fun r4=>(qcJ r3 r4).bind fun r5=>(qam 1).bind fun r6=>(qaj r5 r6).bind fun r7=>some (decide (r7=0)))) else ((qaE a_0.1.2).bind fun r8=>(qaE a_0.2).bind fun r9=>(qcJ r8 r9).bind fun r10=>(qam 1).bind fun r11=>(qaj r10 r11).bind fun r12=>some (decide (r12=0))))))
def c49:Ctr:=⟨[(tRAT,.imm)],[(.bool,false)],Bool,fun x=>qdu x.1,fun r=>((),(r,())),none⟩
def qdw (a_0:Bool×List Int) (b_1:Bool×List Int):Option Int :=
 bif a_0.1 then (bif (!b_1.1) then (some (-1)) else (bif (!a_0.1) then (bif b_1.1 then (some 1) else (bif a_0.1 then ((qaj b_1.2 a_0.2).bind fun r1=>some r1) else ((qaj a_0.2 b_1.2).bind fun r2=>some r2))) else (bif a_0.1 then ((qaj b_1.2 a_0.2).bind fun r3=>some r3) else ((qaj a_0.2 b_1.2).bind fun r4=>some r4)))) else (bif (!a_0.1) then (bif b_1.1 then (some 1) else (bif a_0.1 then ((qaj b_1.2 a_0.2).bind fun r5=>some r5) else ((qaj a_0.2 b_1.2).bind fun r6=>some r6))) else (bif a_0.1 then ((qaj b_1.2 a_0.2).bind fun r7=>some r7) else ((qaj a_0.2 b_1.2).bind fun r8=>some r8)))
def c88:Ctr:=⟨[((.pair .bool (.sl (.int .i64))),.imm),((.pair .bool (.sl (.int .i64))),.imm)],[((.int .i64),false)],Int,fun x=>qdw x.1 x.2.1,fun r=>((),(r,())),none⟩
def qcF (a_0:Bool×List Int) (b_1:Bool×List Int):Option (Bool×List Int) :=
 (qbs a_0.2 b_1.2).bind fun r1=>(qbL (!(a_0.1 == b_1.1)) r1).bind fun r2=>some r2
def c89:Ctr:=⟨[((.pair .bool (.sl (.int .i64))),.imm),((.pair .bool (.sl (.int .i64))),.imm)],[((.pair .bool (.sl (.int .i64))),false)],(Bool×List Int),fun x=>qcF x.1 x.2.1,fun r=>((),(r,())),none⟩
def qeo (a_0:(Bool×List Int)×List Int):Option (Bool×List Int) :=
 (qbL false a_0.2).bind fun r1=>some r1
def c90:Ctr:=⟨[((.pair (.pair .bool (.sl (.int .i64))) (.sl (.int .i64))),.imm)],[((.pair .bool (.sl (.int .i64))),false)],(Bool×List Int),fun x=>qeo x.1,fun r=>((),(r,())),none⟩
def qdv (a_0:(Bool×List Int)×List Int) (b_1:(Bool×List Int)×List Int):Option Int :=
 (qeo b_1).bind fun r1=>(qcF a_0.1 r1).bind fun r2=>(qeo a_0).bind fun r3=>(qcF b_1.1 r3).bind fun r4=>(qdw r2 r4).bind fun r5=>some r5
def c50:Ctr:=⟨[((.pair (.pair .bool (.sl (.int .i64))) (.sl (.int .i64))),.imm),((.pair (.pair .bool (.sl (.int .i64))) (.sl (.int .i64))),.imm)],[((.int .i64),false)],Int,fun x=>qdv x.1 x.2.1,fun r=>((),(r,())),none⟩
def qgO (a_0:RAT) (x_1:(Bool×List Int)×List Int):Option Bool :=
 (qdu a_0).bind fun r1=>bif r1 then ((qbK a_0).bind fun r2=>(qdv r2 x_1).bind fun r3=>some (decide (r3=0))) else (some false)
def c24:Ctr:=⟨[(tRAT,.imm),((.pair (.pair .bool (.sl (.int .i64))) (.sl (.int .i64))),.imm)],[(.bool,false)],Bool,fun x=>qgO x.1 x.2.1,fun r=>((),(r,())),none⟩
def qd3 (a_0:RAT) (b_1:RAT):Option Bool :=
 (qbK b_1).bind fun r1=>(qgO a_0 r1).bind fun r2=>some r2
def c8:Ctr:=⟨[(tRAT,.imm),(tRAT,.imm)],[(.bool,false)],Bool,fun x=>qd3 x.1 x.2.1,fun r=>((),(r,())),none⟩
def qcH :Option Bool :=
 (qdk ).bind fun r1=>(qdk ).bind fun r2=>(qe2 ([r1,r2]:List RAT) 2).bind fun r3=>bif (decide (r3.2=0)) then ((qdk ).bind fun r4=>(qiz r3.1 r4).bind fun r5=>some r5) else (some false)
def c9:Ctr:=⟨[],[(.bool,false)],Bool,fun x=>qcH ,fun r=>((),(r,())),none⟩
abbrev qaL:SG:=⟨[(5,.o tRAT 47),(7,.o tRAT 63),(9,.v (.int .i64))],[],[],[]⟩
abbrev qa3:List (Ex×SG):=[(.exit 0,⟨[],[],[],[]⟩),(.ret,⟨[(4,.v .bool)],[],[],[]⟩)]
def qaf (g:(((List RAT)×(List RAT)×Int×Unit)×Unit)→Option ((Unit×Unit) ⊕ ((Bool×Unit)×Unit))):(((List RAT)×(List RAT)×Int×Unit)×Unit)→Option ((Unit×Unit) ⊕ ((Bool×Unit)×Unit))
 | ((a_5,b_7,i_9,_),_)=>bif (decide (i_9<(a_5.length:Int))) then (bif decide (0≤i_9)&&decide (i_9<(a_5.length:Int)) then (a_5[i_9.toNat]?).bind fun x5=>bif decide (0≤i_9)&&decide (i_9<(b_7.length:Int)) then (b_7[i_9.toNat]?).bind fun x6=>(qd3 x5 x6).bind fun r7=>bif (!r7) then (some (.inr ((false,()),()))) else (g ((a_5,b_7,(iadd .i64 i_9 1),()),())) else none else none) else (some (.inl ((()),())))
def qcr (m_0:qbf) (row_1:List CELL):Option Bool :=
 (qcI m_0 row_1).bind fun r1=>(qei r1.1 r1.2).bind fun r2=>(qc1 r1.1 r1.2).bind fun r3=>bif (!decide (r2.2=r3.2)) then (some false) else ((qfX r1.1 r1.2).bind fun r4=>bif (!decide (r2.2=r4)) then (some false) else (bif (!decide ((r2.1.length:Int)=(r3.1.length:Int))) then (some false) else ((lp qaf K0 ((r2.1,r3.1,0,()),())).bind fun t8=>(match t8 with | .inl t9=>(qcH ).bind fun r11=>some r11 | .inr t10=>some t10.1.1))))
def c3:Ctr:=⟨[(qiM,.imm),((.sl qaz),.imm)],[(.bool,false)],Bool,fun x=>qcr x.1 x.2.1,fun r=>((),(r,())),none⟩
end Go.Proofs.YtemlifeamdpjeaaGreatDoor.X
