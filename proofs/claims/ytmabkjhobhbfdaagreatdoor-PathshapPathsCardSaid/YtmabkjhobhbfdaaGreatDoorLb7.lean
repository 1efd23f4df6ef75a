/- Own work: part of the proof; the first line of each part says what it tells. -/
import Derived.Test.YtmabkjhobhbfdaaGreatDoorLb5
import Derived.Test.YtmabkjhobhbfdaaGreatDoorProg


namespace Go.Proofs.YtmabkjhobhbfdaaGreatDoor.X
open Go
set_option linter.unusedVariables false
set_option linter.unusedSimpArgs false
set_option maxRecDepth 100000
def tb:Tb:=[(2,.sc (.int .i64)),(3,.sc (.int .i64)),(4,.sc .bool),(5,.sc (.int .u8)),(6,.sc (.int .u8)),(7,.stc (.pair (.int .i64) (.pair (.int .i64) (.pair .bool (.int .u8)))) [(0,2),(1,3),(2,4),(3,6)] false),(21,.sc (.int .i32)),(22,.slc 33 (.pair (.int .i64) (.pair (.int .i64) qea)) 88),(23,.pt 56 (.pair (.os (.pair (.int .i64) (.pair tRAT qax))) .unit)),(25,.slc 43 qea 72),(27,.slc 88 (.int .u64) 8),(29,.stc tWH [(0,4),(1,27)] false),(31,.stc tRAT [(0,29),(2,27)] false),(33,.stc (.pair (.int .i64) (.pair (.int .i64) qea)) [(0,3),(1,3),(2,3),(3,31),(6,4)] false),(34,.sc (.int .i64)),(43,.stc qea [(0,3),(1,31),(4,4)] false),(46,.slc 31 tRAT 56),(53,.stc (.pair (.int .i64) (.pair tRAT qax)) [(0,3),(1,31),(4,4),(5,31)] false),(54,.slc 53 (.pair (.int .i64) (.pair tRAT qax)) 128),(56,.stc (.pair (.sl (.pair (.int .i64) (.pair tRAT qax))) .unit) [(0,54)] false),(64,.stc qax [(0,4),(1,31)] false),(65,.slc 64 qax 64),(73,.stc qc8 [(0,4),(1,3),(2,31),(5,3),(6,3),(7,4),(8,31),(11,31)] false),(74,.slc 73 qc8 208),(75,.slc 74 (.sl qc8) 24),(77,.stc qnI [(0,3),(1,75)] false),(82,.pt 124 (.pair (.pair .unit (.pair (.pair .unit (.int .u32)) (.pair .unit (.pair (.int .i32) (.int .u32))))) (.sl tWH))),(88,.sc (.int .u64)),(94,.slc 3 (.int .i64) 8),(95,.slc 3 (.int .i64) 8),(97,.stc (.pair .bool (.sl (.int .i64))) [(0,4),(1,95)] false),(99,.stc (.pair (.pair .bool (.sl (.int .i64))) (.sl (.int .i64))) [(0,97),(2,95)] false),(111,.stc .unit [] false),(112,.stc .unit [] false),(113,.sc (.int .u32)),(115,.stc (.pair .unit (.int .u32)) [(0,112),(0,113)] false),(117,.stc (.pair (.int .i32) (.int .u32)) [(0,21),(1,113)] true),(119,.stc (.pair .unit (.pair (.int .i32) (.int .u32))) [(0,111),(0,117)] false),(121,.stc (.pair .unit (.pair (.pair .unit (.int .u32)) (.pair .unit (.pair (.int .i32) (.int .u32))))) [(0,111),(0,115),(1,119)] false),(122,.slc 29 tWH 32),(124,.stc (.pair (.pair .unit (.pair (.pair .unit (.int .u32)) (.pair .unit (.pair (.int .i32) (.int .u32))))) (.sl tWH)) [(0,121),(3,122)] false),(126,.sc (.int .u64)),(138,.pt 141 (.pair (.sl qc8) (.pair (.sl qax) (.pair (.int .i64) (.pair .bool (.pair (.sl tRAT) (.sl (.pair (.int .i64) (.pair (.op (.pair (.os (.pair (.int .i64) (.pair tRAT qax))) .unit)) (.pair tRAT qea)))))))))),(139,.slc 161 (.pair (.int .i64) (.pair (.op (.pair (.os (.pair (.int .i64) (.pair tRAT qax))) .unit)) (.pair tRAT qea))) 144),(141,.stc (.pair (.sl qc8) (.pair (.sl qax) (.pair (.int .i64) (.pair .bool (.pair (.sl tRAT) (.sl (.pair (.int .i64) (.pair (.op (.pair (.os (.pair (.int .i64) (.pair tRAT qax))) .unit)) (.pair tRAT qea))))))))) [(0,74),(1,65),(2,3),(3,4),(4,46),(5,139)] false),(161,.stc (.pair (.int .i64) (.pair (.op (.pair (.os (.pair (.int .i64) (.pair tRAT qax))) .unit)) (.pair tRAT qea))) [(0,3),(1,23),(2,31),(5,3),(6,31),(9,4)] false),(163,.arr 4 .bool),(178,.stc (.pair (.int .i64) (.pair (.int .i64) (.pair (.int .i64) (.int .i64)))) [(0,34),(1,3),(2,3),(3,3)] true),(180,.pt 161 (.pair (.int .i64) (.pair (.op (.pair (.os (.pair (.int .i64) (.pair tRAT qax))) .unit)) (.pair tRAT qea)))),(195,.slc 4 .bool 1)]
abbrev qgM:SG:=⟨[(0,.o (.int .u64) 7),(3,.v (.int .i64))],[],[],[],[]⟩
abbrev qhW:List (Ex×SG):=[(.exit 0,⟨[(0,.o (.int .u64) 7),(3,.v (.int .i64))],[],[],[],[]⟩)]
def qdW (g:(((List Int)×Int×Unit)×Unit)->Option (((List Int)×Int×Unit)×Unit)):(((List Int)×Int×Unit)×Unit)->Option (((List Int)×Int×Unit)×Unit)
 | ((a_0,n_3,_),_)=>bif (decide (n_3>0)) then (bif decide (0<=(isub .i64 n_3 1))&&decide ((isub .i64 n_3 1)<(a_0.length:Int)) then (a_0[(isub .i64 n_3 1).toNat]?).bind fun x1=>bif (decide (x1=0)) then (g ((a_0,(isub .i64 n_3 1),()),())) else (some ((a_0,n_3,()),())) else none) else (some ((a_0,n_3,()),()))
def qed (a_0:List Int):Option (List Int) :=
 (lp qdW K0 ((a_0,(a_0.length:Int),()),())).bind fun t2=>bif (decide (t2.1.2.1=0)) then (some ([])) else (bif decide ((0:Int)<=t2.1.2.1)&&decide ((t2.1.2.1:Int)<=t2.1.2.1)&&decide ((t2.1.2.1:Int)<=(t2.1.1.length:Int)) then some (t2.1.1.take ((t2.1.2.1-0).toNat)) else none)
def c60:Ctr:=⟨[((.sl (.int .u64)),.own)],[((.sl (.int .u64)),true)],(List Int),fun x=>qed x.1,fun r=>((),(r,())),none⟩
def qki (n_0:Int):Option (List Int) :=
 (qed ([(iand .u64 n_0 4294967295),(shrV .u64 n_0 32)]:List Int)).bind fun r1=>some r1
def c40:Ctr:=⟨[((.int .u64),.imm)],[((.sl (.int .u64)),true)],(List Int),fun x=>qki x.1,fun r=>((),(r,())),none⟩
def qdr (neg_0:Bool) (abs_1:List Int):Option WH :=
 bif neg_0 then (some ((decide ((abs_1.length:Int)>0)),abs_1)) else (some (false,abs_1))
def c63:Ctr:=⟨[(.bool,.imm),((.sl (.int .u64)),.imm)],[(tWH,false)],WH,fun x=>qdr x.1 x.2.1,fun r=>((),(r,())),none⟩
def qgS (n_0:Int):Option WH :=
 bif (decide (n_0<0)) then ((qki (ineg .u64 (IntKind.wrap .u64 n_0))).bind fun r1=>(qdr true r1).bind fun r2=>some r2) else ((qki (IntKind.wrap .u64 n_0)).bind fun r3=>(qdr false r3).bind fun r4=>some r4)
def c52:Ctr:=⟨[((.int .i64),.imm)],[(tWH,false)],WH,fun x=>qgS x.1,fun r=>((),(r,())),none⟩
def qi0 (n_0:Int):Option RAT :=
 (qgS n_0).bind fun r1=>(qki 1).bind fun r2=>some (r1,r2)
def c23:Ctr:=⟨[((.int .i64),.imm)],[(tRAT,false)],RAT,fun x=>qi0 x.1,fun r=>((),(r,())),none⟩
def qdB :Option RAT :=
 (qi0 1).bind fun r1=>some r1
def c8:Ctr:=⟨[],[(tRAT,false)],RAT,fun x=>qdB ,fun r=>((),(r,())),none⟩
def qfH :Option (List (Int×RAT×CELL)) :=
 (qdB ).bind fun r1=>(qdB ).bind fun r2=>some ([((-1),(r1,(true,r2)))]:List (Int×RAT×CELL))
abbrev w5:Wir:=⟨[],[],0,some 1,[],[],0⟩
def c5:Ctr:=⟨[],[((.sl (.pair (.int .i64) (.pair tRAT qax))),true)],(List (Int×RAT×CELL)),fun x=>qfH ,fun r=>((),(r,())),some w5⟩
def qcs (b_0:List (Int×RAT×CELL)):Option ((List (Int×RAT×CELL))×(List (Int×RAT×CELL))) :=
 bif Nat.ble ((([]:List (Int×RAT×CELL)).length+b_0.length)*128) 140737488355328&&!false then some (b_0,(([]:List (Int×RAT×CELL))++b_0)) else none
abbrev w6:Wir:=⟨[.b],[[.x]],0,some 1,[],[],0⟩
def c6:Ctr:=⟨[((.sl (.pair (.int .i64) (.pair tRAT qax))),.own)],[((.sl (.pair (.int .i64) (.pair tRAT qax))),true),((.sl (.pair (.int .i64) (.pair tRAT qax))),true)],(List (Int×RAT×CELL))×(List (Int×RAT×CELL)),fun x=>qcs x.1,fun r=>((),(r.1,r.2,())),some w6⟩
def qeL :Option RAT :=
 (qki 1).bind fun r1=>some ((false,[]),r1)
def c15:Ctr:=⟨[],[(tRAT,false)],RAT,fun x=>qeL ,fun r=>((),(r,())),none⟩
abbrev qfP:SG:=⟨[(3,.o (.int .u64) 31),(9,.v (.sl (.int .u64))),(10,.v (.int .i64)),(11,.v (.int .i64))],[],[],[],[]⟩
abbrev qg9:List (Ex×SG):=[(.exit 0,⟨[(3,.o (.int .u64) 31)],[],[],[],[]⟩)]
def qdd (g:(((List Int)×(List Int)×Int×Int×Unit)×Unit)->Option (((List Int)×Unit)×Unit)):(((List Int)×(List Int)×Int×Int×Unit)×Unit)->Option (((List Int)×Unit)×Unit)
 | ((out_3,v_9,v_10,v_11,_),_)=>bif (decide (v_11<v_10)) then (bif decide (0<=v_11) then (v_9[v_11.toNat]?).bind fun x1=>bif decide (0<=v_11)&&decide (v_11<(out_3.length:Int)) then (out_3[v_11.toNat]?).bind fun _=>g (((out_3.set v_11.toNat (iand .u64 x1 4294967295)),v_9,v_10,(iadd .i64 v_11 1),()),()) else none else none) else (some ((out_3,()),()))
def qbT (a_0:List Int):Option (List Int) :=
 bif decide ((a_0.length:Int)=(a_0.length:Int))&&decide (0<=(a_0.length:Int))&&decide (((8:Nat):Int)*(a_0.length:Int)<=281474976710656)&&decide ((a_0.length:Int)<=9223372036854775807) then (lp qdd K0 (((List.replicate (a_0.length:Int).toNat (0:Int)),a_0,(a_0.length:Int),0,()),())).bind fun t3=>(qed t3.1.1).bind fun r4=>some r4 else none
def c49:Ctr:=⟨[((.sl (.int .u64)),.imm)],[((.sl (.int .u64)),true)],(List Int),fun x=>qbT x.1,fun r=>((),(r,())),none⟩
def qpY (a_0:List Int):Option (Int×Bool) :=
 (qbT a_0).bind fun r1=>bif (decide ((r1.length:Int)=0)) then (some (0,true)) else (bif (decide ((r1.length:Int)=1)) then (bif decide ((0:Int)<(r1.length:Int)) then (r1[0]?).bind fun x2=>some (x2,true) else none) else (bif (decide ((r1.length:Int)=2)) then (bif decide ((1:Int)<(r1.length:Int)) then (r1[1]?).bind fun x3=>bif decide ((0:Int)<(r1.length:Int)) then (r1[0]?).bind fun x4=>some ((ior .u64 (shlV .u64 x3 32) x4),true) else none else none) else (some (0,false))))
def c107:Ctr:=⟨[((.sl (.int .u64)),.imm)],[((.int .u64),false),(.bool,false)],Int×Bool,fun x=>qpY x.1,fun r=>((),(r.1,r.2,())),none⟩
abbrev qeO:SG:=⟨[(5,.v (.int .u64)),(7,.v (.int .u64))],[],[],[],[]⟩
abbrev qf9:List (Ex×SG):=[(.exit 0,⟨[(5,.v (.int .u64))],[],[],[],[]⟩)]
def qdc (g:((Int×Int×Unit)×Unit)->Option ((Int×Unit)×Unit)):((Int×Int×Unit)×Unit)->Option ((Int×Unit)×Unit)
 | ((x_5,y_7,_),_)=>bif (!decide (y_7=0)) then (bif decide (y_7=0) then none else (g ((y_7,(irem x_5 y_7),()),()))) else (some ((x_5,()),()))
def qiM (a_0:List Int) (b_1:List Int):Option (List Int) :=
 (qpY a_0).bind fun r1=>(qpY b_1).bind fun r2=>(lp qdc K0 ((r1.1,r2.1,()),())).bind fun t3=>(qki t3.1.1).bind fun r4=>some r4
def c79:Ctr:=⟨[((.sl (.int .u64)),.imm),((.sl (.int .u64)),.imm)],[((.sl (.int .u64)),true)],(List Int),fun x=>qiM x.1 x.2.1,fun r=>((),(r,())),none⟩
def tz64 (a0:Int):Option Int:=bif decide (0<a0)&&decide (a0<18446744073709551616) then some ((tzN 64 a0.toNat:Nat):Int) else none
def c108:Ctr:=⟨[((.int .u64),.imm)],[((.int .i64),false)],Int,fun x=>tz64 x.1,fun r=>((),(r,())),none⟩
abbrev qfJ:SG:=⟨[(3,.v (.int .i64)),(6,.v (.sl (.int .u64))),(7,.v (.int .i64)),(8,.v (.int .i64))],[],[],[],[]⟩
abbrev qg3:List (Ex×SG):=[(.exit 0,⟨[(3,.v (.int .i64))],[],[],[],[]⟩),(.ret,⟨[(2,.v (.int .i64))],[],[],[],[]⟩)]
def qdQ (g:((Int×(List Int)×Int×Int×Unit)×Unit)->Option (((Int×Unit)×Unit) ⊕ ((Int×Unit)×Unit))):((Int×(List Int)×Int×Int×Unit)×Unit)->Option (((Int×Unit)×Unit) ⊕ ((Int×Unit)×Unit))
 | ((n_3,v_6,v_7,v_8,_),_)=>bif (decide (v_8<v_7)) then (bif decide (0<=v_8) then (v_6[v_8.toNat]?).bind fun x1=>bif (!decide (x1=0)) then ((tz64 x1).bind fun r2=>some (.inr (((iadd .i64 (imul .i64 32 v_8) r2),()),()))) else (g (((iadd .i64 n_3 32),v_6,v_7,(iadd .i64 v_8 1),()),())) else none) else (some (.inl ((n_3,()),())))
def qb5 (a_0:List Int):Option Int :=
 (lp qdQ K0 ((0,a_0,(a_0.length:Int),0,()),())).bind fun t3=>(match t3 with | .inl t4=>some t4.1.1 | .inr t5=>some t5.1.1)
def c80:Ctr:=⟨[((.sl (.int .u64)),.imm)],[((.int .i64),false)],Int,fun x=>qb5 x.1,fun r=>((),(r,())),none⟩
def qgU (a_0:List Int) (i_1:Int):Option Int :=
 bif (decide (i_1<(a_0.length:Int))) then (bif decide (0<=i_1) then (a_0[i_1.toNat]?).bind fun x1=>some x1 else none) else (some 0)
def c88:Ctr:=⟨[((.sl (.int .u64)),.imm),((.int .i64),.imm)],[((.int .u64),false)],Int,fun x=>qgU x.1 x.2.1,fun r=>((),(r,())),none⟩
abbrev qhF:SG:=⟨[(0,.v (.sl (.int .u64))),(5,.v (.int .i64)),(6,.v (.int .i64)),(7,.o (.int .u64) 63),(23,.v (.int .i64)),(24,.v (.int .i64))],[],[],[],[]⟩
abbrev qiK:List (Ex×SG):=[(.exit 0,⟨[(7,.o (.int .u64) 63)],[],[],[],[]⟩)]
abbrev qnX:=(((List Int)×Int×Int×(List Int)×Int×Int×Unit)×Unit)
abbrev qnW:=(((List Int)×Unit)×Unit)
def qeM (g:qnX->Option qnW):qnX->Option qnW
 | ((a_0,words_5,s_6,out_7,v_23,v_24,_),_)=>bif (decide (v_24<v_23)) then ((qgU a_0 (iadd .i64 (iadd .i64 v_24 words_5) 1)).bind fun r1=>bif decide (0<=(iadd .i64 v_24 words_5)) then (a_0[(iadd .i64 v_24 words_5).toNat]?).bind fun x2=>bif decide (s_6<0) then none else (bif decide (0<=v_24)&&decide (v_24<(out_7.length:Int)) then (out_7[v_24.toNat]?).bind fun _=>g ((a_0,words_5,s_6,(out_7.set v_24.toNat (iand .u64 (shrV .u64 (ior .u64 (shlV .u64 r1 32) x2) s_6) 4294967295)),v_23,(iadd .i64 v_24 1),()),()) else none) else none) else (some ((out_7,()),()))
def qdX (a_0:List Int) (n_1:Int):Option (List Int) :=
 bif (decide ((iquo .i64 n_1 32)>=(a_0.length:Int))) then (some ([])) else (bif decide ((isub .i64 (a_0.length:Int) (iquo .i64 n_1 32))=(isub .i64 (a_0.length:Int) (iquo .i64 n_1 32)))&&decide (0<=(isub .i64 (a_0.length:Int) (iquo .i64 n_1 32)))&&decide (((8:Nat):Int)*(isub .i64 (a_0.length:Int) (iquo .i64 n_1 32))<=281474976710656)&&decide ((isub .i64 (a_0.length:Int) (iquo .i64 n_1 32))<=9223372036854775807) then (lp qeM K0 ((a_0,(iquo .i64 n_1 32),(irem n_1 32),(List.replicate (isub .i64 (a_0.length:Int) (iquo .i64 n_1 32)).toNat (0:Int)),((List.replicate (isub .i64 (a_0.length:Int) (iquo .i64 n_1 32)).toNat (0:Int)).length:Int),0,()),())).bind fun t4=>(qed t4.1.1).bind fun r5=>some r5 else none)
def c81:Ctr:=⟨[((.sl (.int .u64)),.imm),((.int .i64),.imm)],[((.sl (.int .u64)),true)],(List Int),fun x=>qdX x.1 x.2.1,fun r=>((),(r,())),none⟩
abbrev qfL:SG:=⟨[(0,.v (.sl (.int .u64))),(1,.v (.sl (.int .u64))),(5,.v (.int .i64))],[],[],[],[]⟩
abbrev qg5:List (Ex×SG):=[(.exit 1,⟨[],[],[],[],[]⟩),(.ret,⟨[(4,.v (.int .i64))],[],[],[],[]⟩)]
def qcO (g:(((List Int)×(List Int)×Int×Unit)×Unit)->Option ((Unit×Unit) ⊕ ((Int×Unit)×Unit))):(((List Int)×(List Int)×Int×Unit)×Unit)->Option ((Unit×Unit) ⊕ ((Int×Unit)×Unit))
 | ((a_0,b_1,i_5,_),_)=>bif (decide (i_5>=0)) then (bif decide (0<=i_5) then (a_0[i_5.toNat]?).bind fun x1=>bif decide (0<=i_5) then (b_1[i_5.toNat]?).bind fun x2=>bif (decide (x1<x2)) then (some (.inr (((-1),()),()))) else (bif decide (0<=i_5) then (a_0[i_5.toNat]?).bind fun x3=>bif decide (0<=i_5) then (b_1[i_5.toNat]?).bind fun x4=>bif (decide (x3>x4)) then (some (.inr ((1,()),()))) else (g ((a_0,b_1,(isub .i64 i_5 1),()),())) else none else none) else none else none) else (some (.inl ((()),())))
def qg6 (a_0:List Int) (b_1:List Int):Option Int :=
 bif (decide ((a_0.length:Int)<(b_1.length:Int))) then (some (-1)) else (bif (decide ((a_0.length:Int)>(b_1.length:Int))) then (some 1) else ((lp qcO K0 ((a_0,b_1,(isub .i64 (a_0.length:Int) 1),()),())).bind fun t5=>(match t5 with | .inl t6=>some 0 | .inr t7=>some t7.1.1)))
def c82:Ctr:=⟨[((.sl (.int .u64)),.imm),((.sl (.int .u64)),.imm)],[((.int .i64),false)],Int,fun x=>qg6 x.1 x.2.1,fun r=>((),(r,())),none⟩
abbrev qhG:SG:=⟨[(5,.v (.int .i64)),(6,.v (.int .i64)),(7,.o (.int .u64) 63),(20,.v (.sl (.int .u64))),(21,.v (.int .i64)),(22,.v (.int .i64))],[],[],[],[]⟩
abbrev qiL:List (Ex×SG):=[(.exit 0,⟨[(7,.o (.int .u64) 63)],[],[],[],[]⟩)]
abbrev qnZ:=((Int×Int×(List Int)×(List Int)×Int×Int×Unit)×Unit)
abbrev qnY:=(((List Int)×Unit)×Unit)
def qeN (g:qnZ->Option qnY):qnZ->Option qnY
 | ((words_5,s_6,out_7,v_20,v_21,v_22,_),_)=>bif (decide (v_22<v_21)) then (bif decide (0<=v_22) then (v_20[v_22.toNat]?).bind fun x1=>bif decide (s_6<0) then none else (bif decide (0<=(iadd .i64 v_22 words_5))&&decide ((iadd .i64 v_22 words_5)<(out_7.length:Int)) then (out_7[(iadd .i64 v_22 words_5).toNat]?).bind fun x2=>bif decide (0<=(iadd .i64 v_22 words_5))&&decide ((iadd .i64 v_22 words_5)<(out_7.length:Int)) then (out_7[(iadd .i64 v_22 words_5).toNat]?).bind fun _=>bif decide (0<=(iadd .i64 (iadd .i64 v_22 words_5) 1))&&decide ((iadd .i64 (iadd .i64 v_22 words_5) 1)<((out_7.set ((iadd .i64 v_22 words_5).toNat) (ior .u64 x2 (iand .u64 (shlV .u64 x1 s_6) 4294967295))).length:Int)) then ((out_7.set ((iadd .i64 v_22 words_5).toNat) (ior .u64 x2 (iand .u64 (shlV .u64 x1 s_6) 4294967295)))[(iadd .i64 (iadd .i64 v_22 words_5) 1).toNat]?).bind fun _=>g ((words_5,s_6,((out_7.set ((iadd .i64 v_22 words_5).toNat) (ior .u64 x2 (iand .u64 (shlV .u64 x1 s_6) 4294967295))).set ((iadd .i64 (iadd .i64 v_22 words_5) 1).toNat) (shrV .u64 (shlV .u64 x1 s_6) 32)),v_20,v_21,(iadd .i64 v_22 1),()),()) else none else none else none) else none) else (some ((out_7,()),()))
def qhY (a_0:List Int) (n_1:Int):Option (List Int) :=
 bif decide ((iadd .i64 (iadd .i64 (a_0.length:Int) (iquo .i64 n_1 32)) 1)=(iadd .i64 (iadd .i64 (a_0.length:Int) (iquo .i64 n_1 32)) 1))&&decide (0<=(iadd .i64 (iadd .i64 (a_0.length:Int) (iquo .i64 n_1 32)) 1))&&decide (((8:Nat):Int)*(iadd .i64 (iadd .i64 (a_0.length:Int) (iquo .i64 n_1 32)) 1)<=281474976710656)&&decide ((iadd .i64 (iadd .i64 (a_0.length:Int) (iquo .i64 n_1 32)) 1)<=9223372036854775807) then (lp qeN K0 (((iquo .i64 n_1 32),(irem n_1 32),(List.replicate (iadd .i64 (iadd .i64 (a_0.length:Int) (iquo .i64 n_1 32)) 1).toNat (0:Int)),a_0,(a_0.length:Int),0,()),())).bind fun t5=>(qed t5.1.1).bind fun r6=>some r6 else none
def c83:Ctr:=⟨[((.sl (.int .u64)),.imm),((.int .i64),.imm)],[((.sl (.int .u64)),true)],(List Int),fun x=>qhY x.1 x.2.1,fun r=>((),(r,())),none⟩
abbrev qfK:SG:=⟨[(0,.v (.sl (.int .u64))),(1,.v (.int .u64)),(6,.o (.int .u64) 55),(7,.v (.int .u64)),(8,.v (.int .i64))],[],[],[],[]⟩
abbrev qg4:List (Ex×SG):=[(.exit 0,⟨[(6,.o (.int .u64) 55),(7,.v (.int .u64))],[],[],[],[]⟩)]
def qdR (g:(((List Int)×Int×(List Int)×Int×Int×Unit)×Unit)->Option (((List Int)×Int×Unit)×Unit)):(((List Int)×Int×(List Int)×Int×Int×Unit)×Unit)->Option (((List Int)×Int×Unit)×Unit)
 | ((a_0,d_1,out_6,rest_7,i_8,_),_)=>bif (decide (i_8>=0)) then (bif decide (0<=i_8) then (a_0[i_8.toNat]?).bind fun x1=>bif decide (d_1=0) then none else (bif decide (0<=i_8)&&decide (i_8<(out_6.length:Int)) then (out_6[i_8.toNat]?).bind fun _=>bif decide (d_1=0) then none else (g ((a_0,d_1,(out_6.set i_8.toNat (iquo .u64 (ior .u64 (shlV .u64 rest_7 32) x1) d_1)),(irem (ior .u64 (shlV .u64 rest_7 32) x1) d_1),(isub .i64 i_8 1),()),())) else none) else none) else (some ((out_6,rest_7,()),()))
def qkd (a_0:List Int) (d_1:Int):Option ((List Int)×Int) :=
 bif decide ((a_0.length:Int)=(a_0.length:Int))&&decide (0<=(a_0.length:Int))&&decide (((8:Nat):Int)*(a_0.length:Int)<=281474976710656)&&decide ((a_0.length:Int)<=9223372036854775807) then (lp qdR K0 ((a_0,d_1,(List.replicate (a_0.length:Int).toNat (0:Int)),0,(isub .i64 (a_0.length:Int) 1),()),())).bind fun t3=>(qed t3.1.1).bind fun r4=>some (r4,t3.1.2.1) else none
def c86:Ctr:=⟨[((.sl (.int .u64)),.imm),((.int .u64),.imm)],[((.sl (.int .u64)),true),((.int .u64),false)],(List Int)×Int,fun x=>qkd x.1 x.2.1,fun r=>((),(r.1,r.2,())),none⟩
def qvn (a0:Int):Option Int:=bif decide (0<=a0)&&decide (a0<4294967296) then some ((lenN a0.toNat:Nat):Int) else none
def c119:Ctr:=⟨[((.int .u32),.imm)],[((.int .i64),false)],Int,fun x=>qvn x.1,fun r=>((),(r,())),none⟩
def qc3 (x_0:Int):Option Int :=
 (qvn x_0).bind fun r1=>some (isub .i64 32 r1)
def c109:Ctr:=⟨[((.int .u32),.imm)],[((.int .i64),false)],Int,fun x=>qc3 x.1,fun r=>((),(r,())),none⟩
abbrev qgN:SG:=⟨[(0,.l (.int .u64) 0),(1,.v (.sl (.int .u64))),(2,.v (.int .u64)),(7,.v (.int .u64)),(8,.v (.int .u64)),(12,.v (.int .i64)),(13,.v (.int .i64))],[],[],[],[]⟩
abbrev qhX:List (Ex×SG):=[(.exit 0,⟨[(0,.l (.int .u64) 0),(8,.v (.int .u64))],[],[],[],[]⟩)]
abbrev qmw:=(((List Int)×(List Int)×Int×Int×Int×Int×Int×Unit)×Unit)
abbrev qmv:=(((List Int)×Int×Unit)×Unit)
def qey (g:qmw->Option qmv):qmw->Option qmv
 | ((u_0,v_1,times_2,carry_7,debt_8,v_12,v_13,_),_)=>bif (decide (v_13<v_12)) then ((qgU v_1 v_13).bind fun r1=>bif decide (0<=v_13)&&decide (v_13<(u_0.length:Int)) then (u_0[v_13.toNat]?).bind fun x2=>bif decide (0<=v_13)&&decide (v_13<(u_0.length:Int)) then (u_0[v_13.toNat]?).bind fun _=>g (((u_0.set v_13.toNat (iand .u64 (isub .u64 (isub .u64 (iadd .u64 4294967296 x2) (iand .u64 (iadd .u64 carry_7 (imul .u64 times_2 r1)) 4294967295)) debt_8) 4294967295)),v_1,times_2,(shrV .u64 (iadd .u64 carry_7 (imul .u64 times_2 r1)) 32),(isub .u64 1 (shrV .u64 (isub .u64 (isub .u64 (iadd .u64 4294967296 x2) (iand .u64 (iadd .u64 carry_7 (imul .u64 times_2 r1)) 4294967295)) debt_8) 32)),v_12,(iadd .i64 v_13 1),()),()) else none else none) else (some ((u_0,debt_8,()),()))
def qmx (u_0:List Int) (v_1:List Int) (times_2:Int):Option ((List Int)×Bool) :=
 (lp qey K0 ((u_0,v_1,times_2,0,0,(u_0.length:Int),0,()),())).bind fun t4=>(bif Nat.beq t4.1.1.length u_0.length then some (t4.1.1,()) else none).bind fun l5=>some (l5.1,(decide (t4.1.2.1=1)))
def c120:Ctr:=⟨[((.sl (.int .u64)),.lent),((.sl (.int .u64)),.imm),((.int .u64),.imm)],[(.bool,false)],(List Int)×Bool,fun x=>qmx x.1 x.2.1 x.2.2.1,fun r=>((r.1,()),(r.2,())),none⟩
abbrev qgP:SG:=⟨[(0,.l (.int .u64) 0),(1,.v (.sl (.int .u64))),(4,.v (.int .u64)),(7,.v (.int .i64)),(8,.v (.int .i64))],[],[],[],[]⟩
abbrev qh0:List (Ex×SG):=[(.exit 0,⟨[(0,.l (.int .u64) 0)],[],[],[],[]⟩)]
def qez (g:(((List Int)×(List Int)×Int×Int×Int×Unit)×Unit)->Option (((List Int)×Unit)×Unit)):(((List Int)×(List Int)×Int×Int×Int×Unit)×Unit)->Option (((List Int)×Unit)×Unit)
 | ((u_0,v_1,carry_4,v_7,v_8,_),_)=>bif (decide (v_8<v_7)) then (bif decide (0<=v_8)&&decide (v_8<(u_0.length:Int)) then (u_0[v_8.toNat]?).bind fun x1=>(qgU v_1 v_8).bind fun r2=>bif decide (0<=v_8)&&decide (v_8<(u_0.length:Int)) then (u_0[v_8.toNat]?).bind fun _=>g (((u_0.set v_8.toNat (iand .u64 (iadd .u64 carry_4 (iadd .u64 x1 r2)) 4294967295)),v_1,(shrV .u64 (iadd .u64 carry_4 (iadd .u64 x1 r2)) 32),v_7,(iadd .i64 v_8 1),()),()) else none else none) else (some ((u_0,()),()))
def qmB (u_0:List Int) (v_1:List Int):Option (List Int) :=
 (lp qez K0 ((u_0,v_1,0,(u_0.length:Int),0,()),())).bind fun t4=>(bif Nat.beq t4.1.1.length u_0.length then some (t4.1.1,()) else none).bind fun l5=>some l5.1
def c121:Ctr:=⟨[((.sl (.int .u64)),.lent),((.sl (.int .u64)),.imm)],[],(List Int),fun x=>qmB x.1 x.2.1,fun r=>((r,()),()),none⟩
abbrev qfN:SG:=⟨[(0,.l (.int .u64) 0),(1,.v (.sl (.int .u64))),(5,.v (.int .i64)),(7,.v (.int .u64)),(8,.v (.int .u64))],[],[],[],[]⟩
abbrev qg8:List (Ex×SG):=[(.exit 0,⟨[(0,.l (.int .u64) 0),(1,.v (.sl (.int .u64))),(7,.v (.int .u64))],[],[],[],[]⟩)]
def qbv (g:(((List Int)×(List Int)×Int×Int×Int×Unit)×Unit)->Option (((List Int)×(List Int)×Int×Unit)×Unit)):(((List Int)×(List Int)×Int×Int×Int×Unit)×Unit)->Option (((List Int)×(List Int)×Int×Unit)×Unit)
 | ((v_0,v_1,v_5,v_7,v_8,_),_)=>bif (decide (v_7>=4294967296)) then (bif decide (0<=(isub .i64 v_5 1)) then (v_1[(isub .i64 v_5 1).toNat]?).bind fun x5=>bif (decide ((iadd .u64 v_8 x5)>=4294967296)) then (some ((v_0,v_1,(isub .u64 v_7 1),()),())) else (g ((v_0,v_1,v_5,(isub .u64 v_7 1),(iadd .u64 v_8 x5),()),())) else none) else (bif decide (0<=(isub .i64 v_5 2)) then (v_1[(isub .i64 v_5 2).toNat]?).bind fun x6=>bif decide (0<=(isub .i64 v_5 2))&&decide ((isub .i64 v_5 2)<(v_0.length:Int)) then (v_0[(isub .i64 v_5 2).toNat]?).bind fun x7=>bif (decide ((imul .u64 v_7 x6)>(ior .u64 (shlV .u64 v_8 32) x7))) then (bif decide (0<=(isub .i64 v_5 1)) then (v_1[(isub .i64 v_5 1).toNat]?).bind fun x8=>bif (decide ((iadd .u64 v_8 x8)>=4294967296)) then (some ((v_0,v_1,(isub .u64 v_7 1),()),())) else (g ((v_0,v_1,v_5,(isub .u64 v_7 1),(iadd .u64 v_8 x8),()),())) else none) else (some ((v_0,v_1,v_7,()),())) else none else none)
def qiN (a_0:List Int) (a_1:List Int):Option ((List Int)×Int) :=
 bif decide (0<=(a_1.length:Int))&&decide ((a_1.length:Int)<(a_0.length:Int)) then (a_0[(a_1.length:Int).toNat]?).bind fun x1=>bif decide (0<=(isub .i64 (a_1.length:Int) 1))&&decide ((isub .i64 (a_1.length:Int) 1)<(a_0.length:Int)) then (a_0[(isub .i64 (a_1.length:Int) 1).toNat]?).bind fun x2=>bif decide (0<=(isub .i64 (a_1.length:Int) 1)) then (a_1[(isub .i64 (a_1.length:Int) 1).toNat]?).bind fun x3=>bif decide (x3=0) then none else (bif decide (0<=(isub .i64 (a_1.length:Int) 1)) then (a_1[(isub .i64 (a_1.length:Int) 1).toNat]?).bind fun x4=>bif decide (x4=0) then none else ((lp qbv K0 ((a_0,a_1,(a_1.length:Int),(iquo .u64 (ior .u64 (shlV .u64 x1 32) x2) x3),(irem (ior .u64 (shlV .u64 x1 32) x2) x4),()),())).bind fun t9=>(qmx t9.1.1 t9.1.2.1 t9.1.2.2.1).bind fun r10=>bif r10.2 then ((qmB (over t9.1.1 0 r10.1) t9.1.2.1).bind fun r11=>(bif Nat.beq (over (over t9.1.1 0 r10.1) 0 r11).length a_0.length then some ((over (over t9.1.1 0 r10.1) 0 r11),()) else none).bind fun l12=>some (l12.1,(isub .u64 t9.1.2.2.1 1))) else ((bif Nat.beq (over t9.1.1 0 r10.1).length a_0.length then some ((over t9.1.1 0 r10.1),()) else none).bind fun l13=>some (l13.1,t9.1.2.2.1))) else none) else none else none else none
def c110:Ctr:=⟨[((.sl (.int .u64)),.lent),((.sl (.int .u64)),.imm)],[((.int .u64),false)],(List Int)×Int,fun x=>qiN x.1 x.2.1,fun r=>((r.1,()),(r.2,())),none⟩
abbrev qgO:SG:=⟨[(6,.v (.int .i64)),(7,.v (.sl (.int .u64))),(8,.o (.int .u64) 71),(9,.v (.int .i64)),(10,.o (.int .u64) 87),(11,.v (.int .i64))],[],[],[],[]⟩
abbrev qhZ:List (Ex×SG):=[(.exit 0,⟨[(6,.v (.int .i64)),(8,.o (.int .u64) 71),(10,.o (.int .u64) 87)],[],[],[],[]⟩)]
abbrev qmz:=((Int×(List Int)×(List Int)×Int×(List Int)×Int×Unit)×Unit)
abbrev qmy:=((Int×(List Int)×(List Int)×Unit)×Unit)
def qdY (g:qmz->Option qmy):qmz->Option qmy
 | ((s_6,v_7,u_8,n_9,q_10,j_11,_),_)=>bif (decide (j_11>=0)) then (bif decide (0<=j_11)&&decide ((j_11:Int)<=(iadd .i64 (iadd .i64 j_11 n_9) 1))&&decide (((iadd .i64 (iadd .i64 j_11 n_9) 1):Int)<=(iadd .i64 (iadd .i64 j_11 n_9) 1))&&decide (((iadd .i64 (iadd .i64 j_11 n_9) 1):Int)<=(u_8.length:Int)) then (qiN ((u_8.drop j_11.toNat).take (((iadd .i64 (iadd .i64 j_11 n_9) 1)-j_11).toNat)) v_7).bind fun r5=>bif decide (0<=j_11)&&decide (j_11<(q_10.length:Int)) then (q_10[j_11.toNat]?).bind fun _=>g ((s_6,v_7,(over u_8 j_11.toNat r5.1),n_9,(q_10.set j_11.toNat r5.2),(isub .i64 j_11 1),()),()) else none else none) else (some ((s_6,u_8,q_10,()),()))
def qmA (a_0:List Int) (b_1:List Int):Option ((List Int)×(List Int)) :=
 bif decide (0<=(isub .i64 (b_1.length:Int) 1)) then (b_1[(isub .i64 (b_1.length:Int) 1).toNat]?).bind fun x1=>(qc3 (IntKind.wrap .u32 x1)).bind fun r2=>(qhY b_1 r2).bind fun r3=>(qhY a_0 r2).bind fun r4=>bif Nat.ble ((r4.length+2)*8) 140737488355328&&!false then bif decide ((0:Int)<=(iadd .i64 (a_0.length:Int) 1))&&decide (((iadd .i64 (a_0.length:Int) 1):Int)<=(iadd .i64 (a_0.length:Int) 1))&&decide (((iadd .i64 (a_0.length:Int) 1):Int)<=((r4++([0,0]:List Int)).length:Int)) then bif decide ((isub .i64 (((iadd .i64 (a_0.length:Int) 1)-0).toNat:Int) (r3.length:Int))=(isub .i64 (((iadd .i64 (a_0.length:Int) 1)-0).toNat:Int) (r3.length:Int)))&&decide (0<=(isub .i64 (((iadd .i64 (a_0.length:Int) 1)-0).toNat:Int) (r3.length:Int)))&&decide (((8:Nat):Int)*(isub .i64 (((iadd .i64 (a_0.length:Int) 1)-0).toNat:Int) (r3.length:Int))<=281474976710656)&&decide ((isub .i64 (((iadd .i64 (a_0.length:Int) 1)-0).toNat:Int) (r3.length:Int))<=9223372036854775807) then (lp qdY K0 ((r2,r3,((r4++([0,0]:List Int)).take (((iadd .i64 (a_0.length:Int) 1)-0).toNat)),(r3.length:Int),(List.replicate (isub .i64 (((iadd .i64 (a_0.length:Int) 1)-0).toNat:Int) (r3.length:Int)).toNat (0:Int)),(isub .i64 ((List.replicate (isub .i64 (((iadd .i64 (a_0.length:Int) 1)-0).toNat:Int) (r3.length:Int)).toNat (0:Int)).length:Int) 1),()),())).bind fun t7=>(qed t7.1.2.2.1).bind fun r8=>(qed t7.1.2.1).bind fun r9=>(qdX r9 t7.1.1).bind fun r10=>some (r8,r10) else none else none else none else none
def c87:Ctr:=⟨[((.sl (.int .u64)),.imm),((.sl (.int .u64)),.imm)],[((.sl (.int .u64)),true),((.sl (.int .u64)),true)],(List Int)×(List Int),fun x=>qmA x.1 x.2.1,fun r=>((),(r.1,r.2,())),none⟩
def qeQ (a_0:List Int) (b_1:List Int):Option ((List Int)×(List Int)×Int) :=
 (qbT a_0).bind fun r1=>(qbT b_1).bind fun r2=>bif (decide ((r2.length:Int)=0)) then (some ([],[],2)) else ((qg6 r1 r2).bind fun r3=>bif (decide (r3<0)) then (some ([],r1,0)) else (bif (decide ((r2.length:Int)=1)) then (bif decide ((0:Int)<(r2.length:Int)) then (r2[0]?).bind fun x4=>(qkd r1 x4).bind fun r5=>(qki r5.2).bind fun r6=>some (r5.1,r6,0) else none) else ((qmA r1 r2).bind fun r7=>some (r7.1,r7.2,0))))
def c62:Ctr:=⟨[((.sl (.int .u64)),.imm),((.sl (.int .u64)),.imm)],[((.sl (.int .u64)),true),((.sl (.int .u64)),false),((.int .i64),false)],(List Int)×(List Int)×Int,fun x=>qeQ x.1 x.2.1,fun r=>((),(r.1,r.2.1,r.2.2,())),none⟩
def qh7 (a_0:List Int) (b_1:List Int):Option ((List Int)×(List Int)) :=
 (qeQ a_0 b_1).bind fun r1=>some (r1.1,r1.2.1)
def c84:Ctr:=⟨[((.sl (.int .u64)),.imm),((.sl (.int .u64)),.imm)],[((.sl (.int .u64)),true),((.sl (.int .u64)),false)],(List Int)×(List Int),fun x=>qh7 x.1 x.2.1,fun r=>((),(r.1,r.2,())),none⟩
abbrev qfM:SG:=⟨[(0,.v (.sl (.int .u64))),(1,.v (.sl (.int .u64))),(5,.o (.int .u64) 47),(6,.v (.int .u64)),(13,.v (.int .i64)),(14,.v (.int .i64))],[],[],[],[]⟩
abbrev qg7:List (Ex×SG):=[(.exit 0,⟨[(5,.o (.int .u64) 47)],[],[],[],[]⟩)]
abbrev qlJ:=(((List Int)×(List Int)×(List Int)×Int×Int×Int×Unit)×Unit)
abbrev qlI:=(((List Int)×Unit)×Unit)
def qdS (g:qlJ->Option qlI):qlJ->Option qlI
 | ((a_0,b_1,out_5,debt_6,v_13,v_14,_),_)=>bif (decide (v_14<v_13)) then (bif decide (0<=v_14) then (a_0[v_14.toNat]?).bind fun x1=>(qgU b_1 v_14).bind fun r2=>bif decide (0<=v_14)&&decide (v_14<(out_5.length:Int)) then (out_5[v_14.toNat]?).bind fun _=>g ((a_0,b_1,(out_5.set v_14.toNat (iand .u64 (isub .u64 (isub .u64 (iadd .u64 4294967296 x1) r2) debt_6) 4294967295)),(isub .u64 1 (shrV .u64 (isub .u64 (isub .u64 (iadd .u64 4294967296 x1) r2) debt_6) 32)),v_13,(iadd .i64 v_14 1),()),()) else none else none) else (some ((out_5,()),()))
def qf8 (a_0:List Int) (b_1:List Int):Option (List Int) :=
 bif decide ((a_0.length:Int)=(a_0.length:Int))&&decide (0<=(a_0.length:Int))&&decide (((8:Nat):Int)*(a_0.length:Int)<=281474976710656)&&decide ((a_0.length:Int)<=9223372036854775807) then (lp qdS K0 ((a_0,b_1,(List.replicate (a_0.length:Int).toNat (0:Int)),0,((List.replicate (a_0.length:Int).toNat (0:Int)).length:Int),0,()),())).bind fun t4=>(qed t4.1.1).bind fun r5=>some r5 else none
def c85:Ctr:=⟨[((.sl (.int .u64)),.imm),((.sl (.int .u64)),.imm)],[((.sl (.int .u64)),true)],(List Int),fun x=>qf8 x.1 x.2.1,fun r=>((),(r,())),none⟩
abbrev qgQ:SG:=⟨[(0,.o (.int .u64) 7),(1,.v (.sl (.int .u64))),(5,.v (.int .i64)),(6,.v (.int .i64))],[],[],[],[]⟩
abbrev qh1:List (Ex×SG):=[(.ret,⟨[(4,.o (.int .u64) 39)],[],[],[],[]⟩)]
def qbS (g:(((List Int)×(List Int)×Int×Int×Unit)×Unit)->Option (((List Int)×Unit)×Unit)):(((List Int)×(List Int)×Int×Int×Unit)×Unit)->Option (((List Int)×Unit)×Unit)
 | ((v_0,v_1,v_5,v_6,_),_)=>(qg6 v_0 v_1).bind fun r8=>bif (decide (r8=0)) then ((qhY v_0 (mn v_5 v_6)).bind fun r9=>some ((r9,()),())) else (bif (decide (r8<0)) then (bif (decide ((v_1.length:Int)>(iadd .i64 (v_0.length:Int) 1))) then ((qh7 v_1 v_0).bind fun r10=>bif (decide ((r10.2.length:Int)=0)) then ((qhY v_0 (mn v_5 v_6)).bind fun r11=>some ((r11,()),())) else ((qb5 r10.2).bind fun r12=>(qdX r10.2 r12).bind fun r13=>g ((r13,v_0,v_5,v_6,()),()))) else ((qf8 v_1 v_0).bind fun r14=>(qb5 r14).bind fun r15=>(qdX r14 r15).bind fun r16=>g ((r16,v_0,v_5,v_6,()),()))) else (bif (decide ((v_0.length:Int)>(iadd .i64 (v_1.length:Int) 1))) then ((qh7 v_0 v_1).bind fun r17=>bif (decide ((r17.2.length:Int)=0)) then ((qhY v_1 (mn v_5 v_6)).bind fun r18=>some ((r18,()),())) else ((qb5 r17.2).bind fun r19=>(qdX r17.2 r19).bind fun r20=>g ((r20,v_1,v_5,v_6,()),()))) else ((qf8 v_0 v_1).bind fun r21=>(qb5 r21).bind fun r22=>(qdX r21 r22).bind fun r23=>g ((r23,v_1,v_5,v_6,()),()))))
def qo2 (a_0:List Int) (a_1:List Int):Option (List Int) :=
 (qbT a_0).bind fun r1=>(qbT a_1).bind fun r2=>bif (decide ((r1.length:Int)=0)) then (some r2) else (bif (decide ((r2.length:Int)=0)) then (some r1) else (bif (decide ((r1.length:Int)<=2)) then (bif (decide ((r2.length:Int)<=2)) then ((qiM r1 r2).bind fun r3=>some r3) else ((qb5 r1).bind fun r4=>(qb5 r2).bind fun r5=>(qdX r1 r4).bind fun r6=>(qdX r2 r5).bind fun r7=>(lp qbS K0 ((r6,r7,r4,r5,()),())).bind fun t24=>some t24.1.1)) else ((qb5 r1).bind fun r25=>(qb5 r2).bind fun r26=>(qdX r1 r25).bind fun r27=>(qdX r2 r26).bind fun r28=>(lp qbS K0 ((r27,r28,r25,r26,()),())).bind fun t29=>some t29.1.1)))
def c61:Ctr:=⟨[((.sl (.int .u64)),.imm),((.sl (.int .u64)),.imm)],[((.sl (.int .u64)),true)],(List Int),fun x=>qo2 x.1 x.2.1,fun r=>((),(r,())),none⟩
def qd9 (num_0:WH) (den_1:List Int):Option RAT :=
 bif (decide ((num_0.2.length:Int)=0)) then ((qki 1).bind fun r1=>some ((false,[]),r1)) else ((qo2 num_0.2 den_1).bind fun r2=>bif (decide ((r2.length:Int)=1)) then (bif decide ((0:Int)<(r2.length:Int)) then (r2[0]?).bind fun x3=>bif (decide (x3=1)) then (some (num_0,den_1)) else ((qeQ num_0.2 r2).bind fun r4=>(qeQ den_1 r2).bind fun r5=>some ((num_0.1,r4.1),r5.1)) else none) else ((qeQ num_0.2 r2).bind fun r6=>(qeQ den_1 r2).bind fun r7=>some ((num_0.1,r6.1),r7.1)))
def c41:Ctr:=⟨[(tWH,.imm),((.sl (.int .u64)),.imm)],[(tRAT,false)],RAT,fun x=>qd9 x.1 x.2.1,fun r=>((),(r,())),none⟩
def qbm (a_0:WH):Option WH :=
 (qbT a_0.2).bind fun r1=>(qdr a_0.1 r1).bind fun r2=>some r2
def c50:Ctr:=⟨[(tWH,.imm)],[(tWH,false)],WH,fun x=>qbm x.1,fun r=>((),(r,())),none⟩
def qbn (a_0:RAT):Option RAT :=
 (qbT a_0.2).bind fun r1=>bif (decide ((r1.length:Int)=0)) then ((qeL ).bind fun r2=>some r2) else ((qbm a_0.1).bind fun r3=>(qd9 r3 r1).bind fun r4=>some r4)
def c20:Ctr:=⟨[(tRAT,.imm)],[(tRAT,false)],RAT,fun x=>qbn x.1,fun r=>((),(r,())),none⟩
abbrev qhJ:SG:=⟨[(0,.v (.sl (.int .u64))),(1,.v (.sl (.int .u64))),(5,.o (.int .u64) 47),(6,.v (.int .u64)),(20,.v (.int .i64)),(21,.v (.int .i64))],[],[],[],[]⟩
abbrev qiQ:List (Ex×SG):=[(.exit 0,⟨[(5,.o (.int .u64) 47)],[],[],[],[]⟩)]
abbrev qn5:=(((List Int)×(List Int)×(List Int)×Int×Int×Int×Unit)×Unit)
abbrev qn4:=(((List Int)×Unit)×Unit)
def qfQ (g:qn5->Option qn4):qn5->Option qn4
 | ((a_0,b_1,out_5,carry_6,v_20,v_21,_),_)=>bif (decide (v_21<v_20)) then ((qgU a_0 v_21).bind fun r3=>(qgU b_1 v_21).bind fun r4=>bif decide (0<=v_21)&&decide (v_21<(out_5.length:Int)) then (out_5[v_21.toNat]?).bind fun _=>g ((a_0,b_1,(out_5.set v_21.toNat (iand .u64 (iadd .u64 carry_6 (iadd .u64 r3 r4)) 4294967295)),(shrV .u64 (iadd .u64 carry_6 (iadd .u64 r3 r4)) 32),v_20,(iadd .i64 v_21 1),()),()) else none) else (some ((out_5,()),()))
def qnk (a_0:List Int) (b_1:List Int):Option (List Int) :=
 (qbT a_0).bind fun r1=>(qbT b_1).bind fun r2=>bif decide ((iadd .i64 (mx (r1.length:Int) (r2.length:Int)) 1)=(iadd .i64 (mx (r1.length:Int) (r2.length:Int)) 1))&&decide (0<=(iadd .i64 (mx (r1.length:Int) (r2.length:Int)) 1))&&decide (((8:Nat):Int)*(iadd .i64 (mx (r1.length:Int) (r2.length:Int)) 1)<=281474976710656)&&decide ((iadd .i64 (mx (r1.length:Int) (r2.length:Int)) 1)<=9223372036854775807) then (lp qfQ K0 ((r1,r2,(List.replicate (iadd .i64 (mx (r1.length:Int) (r2.length:Int)) 1).toNat (0:Int)),0,((List.replicate (iadd .i64 (mx (r1.length:Int) (r2.length:Int)) 1).toNat (0:Int)).length:Int),0,()),())).bind fun t6=>(qed t6.1.1).bind fun r7=>some r7 else none
def c64:Ctr:=⟨[((.sl (.int .u64)),.imm),((.sl (.int .u64)),.imm)],[((.sl (.int .u64)),true)],(List Int),fun x=>qnk x.1 x.2.1,fun r=>((),(r,())),none⟩
def qig (a_0:List Int) (b_1:List Int):Option Int :=
 (qbT a_0).bind fun r1=>(qbT b_1).bind fun r2=>(qg6 r1 r2).bind fun r3=>some r3
def c65:Ctr:=⟨[((.sl (.int .u64)),.imm),((.sl (.int .u64)),.imm)],[((.int .i64),false)],Int,fun x=>qig x.1 x.2.1,fun r=>((),(r,())),none⟩
def qkh (a_0:List Int) (b_1:List Int):Option ((List Int)×Int) :=
 (qbT a_0).bind fun r1=>(qbT b_1).bind fun r2=>(qg6 r1 r2).bind fun r3=>bif (decide (r3<0)) then (some ([],3)) else ((qf8 r1 r2).bind fun r4=>some (r4,0))
def c66:Ctr:=⟨[((.sl (.int .u64)),.imm),((.sl (.int .u64)),.imm)],[((.sl (.int .u64)),true),((.int .i64),false)],(List Int)×Int,fun x=>qkh x.1 x.2.1,fun r=>((),(r.1,r.2,())),none⟩
def qjO (a_0:WH) (b_1:WH):Option WH :=
 (qbm a_0).bind fun r1=>(qbm b_1).bind fun r2=>bif (r1.1 == r2.1) then ((qnk r1.2 r2.2).bind fun r3=>(qdr r1.1 r3).bind fun r4=>some r4) else ((qig r1.2 r2.2).bind fun r5=>bif (decide (r5<0)) then ((qkh r2.2 r1.2).bind fun r6=>(qdr r2.1 r6.1).bind fun r7=>some r7) else ((qkh r1.2 r2.2).bind fun r8=>(qdr r1.1 r8.1).bind fun r9=>some r9))
def c42:Ctr:=⟨[(tWH,.imm),(tWH,.imm)],[(tWH,false)],WH,fun x=>qjO x.1 x.2.1,fun r=>((),(r,())),none⟩
abbrev qhH:SG:=⟨[(1,.v (.sl (.int .u64))),(5,.o (.int .u64) 47),(6,.v (.int .i64)),(7,.v (.int .u64)),(8,.v (.int .u64)),(21,.o (.int .u64) 175),(22,.v (.int .i64)),(23,.v (.int .i64)),(28,.v (.sl (.int .u64))),(29,.v (.int .i64)),(30,.v (.int .i64))],[],[],[],[]⟩
abbrev qiO:List (Ex×SG):=[(.exit 2,⟨[(1,.v (.sl (.int .u64))),(5,.o (.int .u64) 47),(6,.v (.int .i64)),(8,.v (.int .u64)),(21,.o (.int .u64) 175),(22,.v (.int .i64)),(23,.v (.int .i64))],[],[],[],[]⟩)]
abbrev qn1:=(((List Int)×(List Int)×Int×Int×Int×(List Int)×Int×Int×(List Int)×Int×Int×Unit)×Unit)
abbrev qn0:=(((List Int)×(List Int)×Int×Int×(List Int)×Int×Int×Unit)×Unit)
def qeP (g:qn1->Option qn0):qn1->Option qn0
 | ((v_1,v_5,v_6,v_7,v_8,v_21,v_22,v_23,v_28,v_29,v_30,_),_)=>bif (decide (v_30<v_29)) then (bif decide (0<=v_30) then (v_28[v_30.toNat]?).bind fun x4=>bif decide (0<=(iadd .i64 v_6 v_30))&&decide ((iadd .i64 v_6 v_30)<(v_5.length:Int)) then (v_5[(iadd .i64 v_6 v_30).toNat]?).bind fun x5=>bif decide (0<=(iadd .i64 v_6 v_30))&&decide ((iadd .i64 v_6 v_30)<(v_5.length:Int)) then (v_5[(iadd .i64 v_6 v_30).toNat]?).bind fun _=>g ((v_1,(v_5.set ((iadd .i64 v_6 v_30).toNat) (iand .u64 (iadd .u64 v_8 (iadd .u64 x5 (imul .u64 v_7 x4))) 4294967295)),v_6,v_7,(shrV .u64 (iadd .u64 v_8 (iadd .u64 x5 (imul .u64 v_7 x4))) 32),v_21,v_22,v_23,v_28,v_29,(iadd .i64 v_30 1),()),()) else none else none else none) else (some ((v_1,v_5,v_6,v_8,v_21,v_22,v_23,()),()))
abbrev qhI:SG:=⟨[(1,.v (.sl (.int .u64))),(5,.o (.int .u64) 47),(21,.o (.int .u64) 175),(22,.v (.int .i64)),(23,.v (.int .i64))],[],[],[],[]⟩
abbrev qiP:List (Ex×SG):=[(.exit 0,⟨[(5,.o (.int .u64) 47)],[],[],[],[]⟩)]
abbrev qn3:=(((List Int)×(List Int)×(List Int)×Int×Int×Unit)×Unit)
abbrev qn2:=(((List Int)×Unit)×Unit)
def qfO (g:qn3->Option qn2):qn3->Option qn2
 | ((v_1,v_5,v_21,v_22,v_23,_),_)=>bif (decide (v_23<v_22)) then (bif decide (0<=v_23)&&decide (v_23<(v_21.length:Int)) then (v_21[v_23.toNat]?).bind fun x3=>(lp qeP K0 ((v_1,v_5,v_23,x3,0,v_21,v_22,v_23,v_1,(v_1.length:Int),0,()),())).bind fun t7=>bif decide (0<=(iadd .i64 t7.1.2.2.1 (t7.1.1.length:Int)))&&decide ((iadd .i64 t7.1.2.2.1 (t7.1.1.length:Int))<(t7.1.2.1.length:Int)) then (t7.1.2.1[(iadd .i64 t7.1.2.2.1 (t7.1.1.length:Int)).toNat]?).bind fun _=>g ((t7.1.1,(t7.1.2.1.set ((iadd .i64 t7.1.2.2.1 (t7.1.1.length:Int)).toNat) t7.1.2.2.2.1),t7.1.2.2.2.2.1,t7.1.2.2.2.2.2.1,(iadd .i64 t7.1.2.2.2.2.2.2.1 1),()),()) else none else none) else (some ((v_5,()),()))
def qkj (a_0:List Int) (a_1:List Int):Option (List Int) :=
 (qbT a_0).bind fun r1=>(qbT a_1).bind fun r2=>bif decide ((iadd .i64 (r1.length:Int) (r2.length:Int))=(iadd .i64 (r1.length:Int) (r2.length:Int)))&&decide (0<=(iadd .i64 (r1.length:Int) (r2.length:Int)))&&decide (((8:Nat):Int)*(iadd .i64 (r1.length:Int) (r2.length:Int))<=281474976710656)&&decide ((iadd .i64 (r1.length:Int) (r2.length:Int))<=9223372036854775807) then (lp qfO K0 ((r2,(List.replicate (iadd .i64 (r1.length:Int) (r2.length:Int)).toNat (0:Int)),r1,(r1.length:Int),0,()),())).bind fun t9=>(qed t9.1.1).bind fun r10=>some r10 else none
def c45:Ctr:=⟨[((.sl (.int .u64)),.imm),((.sl (.int .u64)),.imm)],[((.sl (.int .u64)),true)],(List Int),fun x=>qkj x.1 x.2.1,fun r=>((),(r,())),none⟩
def qds (a_0:WH) (b_1:WH):Option WH :=
 (qbm a_0).bind fun r1=>(qbm b_1).bind fun r2=>(qkj r1.2 r2.2).bind fun r3=>(qdr (!(r1.1 == r2.1)) r3).bind fun r4=>some r4
def c43:Ctr:=⟨[(tWH,.imm),(tWH,.imm)],[(tWH,false)],WH,fun x=>qds x.1 x.2.1,fun r=>((),(r,())),none⟩
def qf3 (a_0:RAT):Option WH :=
 some (false,a_0.2)
def c44:Ctr:=⟨[(tRAT,.imm)],[(tWH,false)],WH,fun x=>qf3 x.1,fun r=>((),(r,())),none⟩
def qdC (a_0:RAT) (b_1:RAT):Option RAT :=
 (qbn a_0).bind fun r1=>(qbn b_1).bind fun r2=>(qf3 r2).bind fun r3=>(qds r1.1 r3).bind fun r4=>(qf3 r1).bind fun r5=>(qds r2.1 r5).bind fun r6=>(qjO r4 r6).bind fun r7=>(qkj r1.2 r2.2).bind fun r8=>(qd9 r7 r8).bind fun r9=>some r9
def c16:Ctr:=⟨[(tRAT,.imm),(tRAT,.imm)],[(tRAT,false)],RAT,fun x=>qdC x.1 x.2.1,fun r=>((),(r,())),none⟩
abbrev qbt:SG:=⟨[(0,.p 232 0 0),(1,.v (.int .i64)),(13,.v (.int .i64)),(14,.v (.int .i64))],[(232,[.o (.pair (.int .i64) (.pair tRAT qax)) 1232])],[(12,(232,0))],[],[]⟩
abbrev qce:List (Ex×SG):=[(.exit 0,⟨[(0,.p 232 0 0)],[(232,[.o (.pair (.int .i64) (.pair tRAT qax)) 1232])],[],[],[]⟩),(.ret,⟨[(0,.p 232 0 0),(4,.v (.int .i64))],[(232,[.o (.pair (.int .i64) (.pair tRAT qax)) 1232])],[],[],[]⟩)]
abbrev qf6:=((Int×Int×Int×Unit)×(((List (Int×RAT×CELL))×Unit)×Unit))
abbrev qf5:=((Unit×(((List (Int×RAT×CELL))×Unit)×Unit)) ⊕ ((Int×Unit)×(((List (Int×RAT×CELL))×Unit)×Unit)))
def qak (g:qf6->Option qf5):qf6->Option qf5
 | ((feature_1,v_13,v_14,_),((b232_0,_),_))=>bif (decide (v_14<v_13)) then (bif decide (0<=v_14)&&decide (v_14<(b232_0.length:Int)) then (b232_0[v_14.toNat]?).bind fun x1=>bif (decide (v_14>0)) then (bif (decide (x1.1=feature_1)) then (some (.inr ((v_14,()),((b232_0,()),())))) else (g ((feature_1,v_13,(iadd .i64 v_14 1),()),((b232_0,()),())))) else (g ((feature_1,v_13,(iadd .i64 v_14 1),()),((b232_0,()),()))) else none) else (some (.inl ((()),((b232_0,()),()))))
def qaP (feature_0:Int) (b_1:List (Int×RAT×CELL)):Option (Int×(List (Int×RAT×CELL))) :=
 (lp qak K0 ((feature_0,(b_1.length:Int),0,()),((b_1,()),()))).bind fun t2=>(match t2 with | .inl t3=>some (0,t3.2.1.1) | .inr t4=>some (t4.1.1,t4.2.1.1))
abbrev w18:Wir:=⟨[.b,.x],[[.x]],1,none,[],[],0⟩
def c18:Ctr:=⟨[((.int .i64),.imm),((.sl (.pair (.int .i64) (.pair tRAT qax))),.own)],[((.int .i64),false),((.sl (.pair (.int .i64) (.pair tRAT qax))),true)],Int×(List (Int×RAT×CELL)),fun x=>qaP x.1 x.2.1,fun r=>((),(r.1,r.2,())),some w18⟩
def qhD (a_0:WH):Option Int :=
 (qbm a_0).bind fun r1=>bif r1.1 then (some (-1)) else (bif (decide ((r1.2.length:Int)=0)) then (some 0) else (some 1))
def c48:Ctr:=⟨[(tWH,.imm)],[((.int .i64),false)],Int,fun x=>qhD x.1,fun r=>((),(r,())),none⟩
def qfD (a_0:RAT):Option Int :=
 (qbn a_0).bind fun r1=>(qhD r1.1).bind fun r2=>some r2
def c19:Ctr:=⟨[(tRAT,.imm)],[((.int .i64),false)],Int,fun x=>qfD x.1,fun r=>((),(r,())),none⟩
def qay (a_0:RAT) (b_1:RAT):Option RAT :=
 (qbn a_0).bind fun r1=>(qbn b_1).bind fun r2=>(qds r1.1 r2.1).bind fun r3=>(qkj r1.2 r2.2).bind fun r4=>(qd9 r3 r4).bind fun r5=>some r5
def c21:Ctr:=⟨[(tRAT,.imm),(tRAT,.imm)],[(tRAT,false)],RAT,fun x=>qay x.1 x.2.1,fun r=>((),(r,())),none⟩
def qin (a_0:WH):Option WH :=
 (qbm a_0).bind fun r1=>(qdr (!r1.1) r1.2).bind fun r2=>some r2
def c72:Ctr:=⟨[(tWH,.imm)],[(tWH,false)],WH,fun x=>qin x.1,fun r=>((),(r,())),none⟩
def qgH (num_0:WH) (den_1:WH):Option (RAT×Int) :=
 (qbm num_0).bind fun r1=>(qbm den_1).bind fun r2=>(qhD r2).bind fun r3=>bif (decide (r3=0)) then (some (((false,[]),[]),2)) else (bif r2.1 then ((qin r1).bind fun r4=>(qd9 r4 r2.2).bind fun r5=>some (r5,0)) else ((qd9 r1 r2.2).bind fun r6=>some (r6,0)))
def c51:Ctr:=⟨[(tWH,.imm),(tWH,.imm)],[(tRAT,false),((.int .i64),false)],RAT×Int,fun x=>qgH x.1 x.2.1,fun r=>((),(r.1,r.2,())),none⟩
def qc4 (n_0:Int) (d_1:Int):Option RAT :=
 (qgS n_0).bind fun r1=>(qgS d_1).bind fun r2=>(qgH r1 r2).bind fun r3=>(qbn r3.1).bind fun r4=>some r4
def c22:Ctr:=⟨[((.int .i64),.imm),((.int .i64),.imm)],[(tRAT,false)],RAT,fun x=>qc4 x.1 x.2.1,fun r=>((),(r,())),none⟩
abbrev qa6:SG:=⟨[(0,.p 904 0 0),(3,.v .bool),(6,.p 48 0 0),(9,.v (.int .i64)),(10,.v (.int .i64))],[(48,[.v .bool,.v (.sl (.int .u64)),.v (.sl (.int .u64))]),(904,[.o (.pair (.int .i64) (.pair tRAT qax)) 1904])],[],[],[]⟩
abbrev qbu:List (Ex×SG):=[(.exit 1,⟨[(0,.p 904 0 0)],[(904,[.o (.pair (.int .i64) (.pair tRAT qax)) 1904])],[],[],[]⟩)]
abbrev qeZ:=((Bool×Int×Int×Unit)×((Bool×(List Int)×(List Int)×Unit)×((List (Int×RAT×CELL))×Unit)×Unit))
abbrev qeY:=(Unit×(((List (Int×RAT×CELL))×Unit)×Unit))
def qao (g:qeZ->Option qeY):qeZ->Option qeY
 | ((v_3,v_9,v_10,_),((b48_0,b48_1,b48_2,_),(b904_0,_),_))=>bif (decide (v_10>=0)) then (bif decide (0<=v_10)&&decide (v_10<(b904_0.length:Int)) then (b904_0[v_10.toNat]?).bind fun x5=>bif v_3 then (bif decide (0<=(iadd .i64 v_10 1))&&decide ((iadd .i64 v_10 1)<(b904_0.length:Int)) then (b904_0[(iadd .i64 v_10 1).toNat]?).bind fun x6=>(qc4 (iadd .i64 v_10 1) (iadd .i64 v_9 1)).bind fun r7=>(qay x5.2.2.2 r7).bind fun r8=>(qdC x6.2.2.2 r8).bind fun r9=>bif decide (0<=(iadd .i64 v_10 1))&&decide ((iadd .i64 v_10 1)<(b904_0.length:Int)) then (b904_0[(iadd .i64 v_10 1).toNat]?).bind fun x10=>(qay ((b48_0,b48_1),b48_2) x5.2.2.2).bind fun r11=>(qc4 (isub .i64 v_9 v_10) (iadd .i64 v_9 1)).bind fun r12=>(qay r11 r12).bind fun r13=>bif decide (0<=v_10)&&decide (v_10<((b904_0.set ((iadd .i64 v_10 1).toNat) (x10.1,(x10.2.1,(x10.2.2.1,r9)))).length:Int)) then ((b904_0.set ((iadd .i64 v_10 1).toNat) (x10.1,(x10.2.1,(x10.2.2.1,r9))))[v_10.toNat]?).bind fun x14=>g ((v_3,v_9,(isub .i64 v_10 1),()),((b48_0,b48_1,b48_2,()),(((b904_0.set ((iadd .i64 v_10 1).toNat) (x10.1,(x10.2.1,(x10.2.2.1,r9)))).set v_10.toNat (x14.1,(x14.2.1,(x14.2.2.1,r13)))),()),())) else none else none else none) else ((qay ((b48_0,b48_1),b48_2) x5.2.2.2).bind fun r15=>(qc4 (isub .i64 v_9 v_10) (iadd .i64 v_9 1)).bind fun r16=>(qay r15 r16).bind fun r17=>bif decide (0<=v_10)&&decide (v_10<(b904_0.length:Int)) then (b904_0[v_10.toNat]?).bind fun x18=>g ((v_3,v_9,(isub .i64 v_10 1),()),((b48_0,b48_1,b48_2,()),((b904_0.set v_10.toNat (x18.1,(x18.2.1,(x18.2.2.1,r17)))),()),())) else none) else none) else (some ((()),((b904_0,()),())))
def qae (a_0:Int) (a_1:RAT) (a_2:Bool) (b_3:List (Int×RAT×CELL)):Option (Int×(List (Int×RAT×CELL))) :=
 bif (decide ((b_3.length:Int)=0)) then (some (18,b_3)) else (bif (decide (a_0<0)) then (some (1,b_3)) else ((qaP a_0 b_3).bind fun r1=>bif (decide (r1.1>0)) then (some (1,r1.2)) else ((qfD a_1).bind fun r2=>bif (decide (r2<=0)) then (some (8,r1.2)) else ((qbn a_1).bind fun r3=>(qeL ).bind fun r4=>bif Nat.ble ((r1.2.length+1)*128) 140737488355328&&!false then (lp qao K0 ((a_2,(r1.2.length:Int),(isub .i64 (r1.2.length:Int) 1),()),((a_1.1.1,a_1.1.2,a_1.2,()),((r1.2++([(a_0,(r3,(a_2,r4)))]:List (Int×RAT×CELL))),()),()))).bind fun t19=>some (0,t19.2.1.1) else none))))
abbrev w7:Wir:=⟨[.b,.x,.x,.x],[[.x]],1,none,[],[],0⟩
def c7:Ctr:=⟨[((.int .i64),.imm),(tRAT,.imm),(.bool,.imm),((.sl (.pair (.int .i64) (.pair tRAT qax))),.own)],[((.int .i64),false),((.sl (.pair (.int .i64) (.pair tRAT qax))),true)],Int×(List (Int×RAT×CELL)),fun x=>qae x.1 x.2.1 x.2.2.1 x.2.2.2.1,fun r=>((),(r.1,r.2,())),some w7⟩
def qcG (parts_0:List PART) (i_1:Int):Option (List PART) :=
 bif decide (0<=i_1)&&decide ((i_1:Int)<=(parts_0.length:Int)) then bif Nat.ble ((([]:List PART).length+(parts_0.take i_1.toNat).length)*72) 140737488355328&&!false then bif decide (0<=(iadd .i64 i_1 1))&&decide (((iadd .i64 i_1 1):Int)<=(parts_0.length:Int)) then bif Nat.ble (((([]:List PART)++(parts_0.take i_1.toNat)).length+(parts_0.drop (iadd .i64 i_1 1).toNat).length)*72) 140737488355328&&!false then some ((([]:List PART)++(parts_0.take i_1.toNat))++(parts_0.drop (iadd .i64 i_1 1).toNat)) else none else none else none else none
def c14:Ctr:=⟨[((.sl qea),.imm),((.int .i64),.imm)],[((.sl qea),true)],(List PART),fun x=>qcG x.1 x.2.1,fun r=>((),(r,())),none⟩
def qix (a_0:RAT):Option (RAT×Int) :=
 (qbn a_0).bind fun r1=>(qf3 r1).bind fun r2=>(qgH r2 r1.1).bind fun r3=>some (r3.1,r3.2)
def c57:Ctr:=⟨[(tRAT,.imm)],[(tRAT,false),((.int .i64),false)],RAT×Int,fun x=>qix x.1,fun r=>((),(r.1,r.2,())),none⟩
def qiw (a_0:RAT):Option RAT :=
 (qbn a_0).bind fun r1=>(qin r1.1).bind fun r2=>some (r2,r1.2)
def c77:Ctr:=⟨[(tRAT,.imm)],[(tRAT,false)],RAT,fun x=>qiw x.1,fun r=>((),(r,())),none⟩
def qjW (a_0:RAT) (b_1:RAT):Option RAT :=
 (qiw b_1).bind fun r1=>(qdC a_0 r1).bind fun r2=>some r2
def c58:Ctr:=⟨[(tRAT,.imm),(tRAT,.imm)],[(tRAT,false)],RAT,fun x=>qjW x.1 x.2.1,fun r=>((),(r,())),none⟩
abbrev qa4:SG:=⟨[(0,.p 832 0 0),(5,.v (.int .i64)),(6,.p 48 0 0),(7,.o tRAT 63),(8,.p 64 0 0),(10,.p 80 0 0),(11,.v (.int .i64))],[(48,[.v (.int .i64),.v .bool,.v (.sl (.int .u64)),.v (.sl (.int .u64)),.v .bool,.v .bool,.v (.sl (.int .u64)),.v (.sl (.int .u64))]),(64,[.v .bool,.v (.sl (.int .u64)),.v (.sl (.int .u64))]),(80,[.v .bool,.v (.sl (.int .u64)),.v (.sl (.int .u64))]),(832,[.o (.pair (.int .i64) (.pair tRAT qax)) 1832])],[],[],[]⟩
abbrev qbq:List (Ex×SG):=[(.exit 0,⟨[(0,.p 832 0 0),(7,.o tRAT 63)],[(832,[.o (.pair (.int .i64) (.pair tRAT qax)) 1832])],[],[],[]⟩)]
abbrev qeV:=((Int×(List RAT)×Int×Unit)×((Int×Bool×(List Int)×(List Int)×Bool×Bool×(List Int)×(List Int)×Unit)×(Bool×(List Int)×(List Int)×Unit)×(Bool×(List Int)×(List Int)×Unit)×((List (Int×RAT×CELL))×Unit)×Unit))
abbrev qeU:=(((List RAT)×Unit)×(((List (Int×RAT×CELL))×Unit)×Unit))
def qan (g:qeV->Option qeU):qeV->Option qeU
 | ((v_5,v_7,v_11,_),((b48_0,b48_1,b48_2,b48_3,b48_4,b48_5,b48_6,b48_7,_),(b64_0,b64_1,b64_2,_),(b80_0,b80_1,b80_2,_),(b832_0,_),_))=>bif (decide (v_11>=0)) then (bif (!b48_4) then (bif decide (0<=v_11)&&decide (v_11<(b832_0.length:Int)) then (b832_0[v_11.toNat]?).bind fun x4=>(qc4 (iadd .i64 v_5 1) (isub .i64 v_5 v_11)).bind fun r5=>(qay x4.2.2.2 r5).bind fun r6=>(qay r6 ((b64_0,b64_1),b64_2)).bind fun r7=>bif decide (0<=v_11)&&decide (v_11<(v_7.length:Int)) then (v_7[v_11.toNat]?).bind fun _=>g ((v_5,(v_7.set v_11.toNat r7),(isub .i64 v_11 1),()),((b48_0,b48_1,b48_2,b48_3,b48_4,b48_5,b48_6,b48_7,()),(b64_0,b64_1,b64_2,()),(b80_0,b80_1,b80_2,()),(b832_0,()),())) else none else none) else ((qc4 (iadd .i64 v_5 1) (iadd .i64 v_11 1)).bind fun r9=>(qay ((b80_0,b80_1),b80_2) r9).bind fun r10=>bif decide (0<=v_11)&&decide (v_11<(v_7.length:Int)) then (v_7[v_11.toNat]?).bind fun _=>bif decide (0<=v_11)&&decide (v_11<(b832_0.length:Int)) then (b832_0[v_11.toNat]?).bind fun x12=>bif decide (0<=v_11)&&decide (v_11<((v_7.set v_11.toNat r10).length:Int)) then ((v_7.set v_11.toNat r10)[v_11.toNat]?).bind fun x13=>(qay x13 ((b48_1,b48_2),b48_3)).bind fun r14=>(qc4 (isub .i64 v_5 v_11) (iadd .i64 v_5 1)).bind fun r15=>(qay r14 r15).bind fun r16=>(qjW x12.2.2.2 r16).bind fun r17=>g ((v_5,(v_7.set v_11.toNat r10),(isub .i64 v_11 1),()),((b48_0,b48_1,b48_2,b48_3,b48_4,b48_5,b48_6,b48_7,()),(b64_0,b64_1,b64_2,()),(r17.1.1,r17.1.2,r17.2,()),(b832_0,()),())) else none else none else none)) else (some ((v_7,()),((b832_0,()),())))
def qbr (a_0:Int) (b_1:List (Int×RAT×CELL)):Option ((List RAT)×(List (Int×RAT×CELL))) :=
 bif decide (0<=a_0)&&decide (a_0<(b_1.length:Int)) then (b_1[a_0.toNat]?).bind fun x1=>bif decide ((isub .i64 (b_1.length:Int) 1)=(isub .i64 (b_1.length:Int) 1))&&decide (0<=(isub .i64 (b_1.length:Int) 1))&&decide (((56:Nat):Int)*(isub .i64 (b_1.length:Int) 1)<=281474976710656)&&decide ((isub .i64 (b_1.length:Int) 1)<=9223372036854775807) then (qix x1.2.1).bind fun r2=>bif decide (0<=(isub .i64 (b_1.length:Int) 1))&&decide ((isub .i64 (b_1.length:Int) 1)<(b_1.length:Int)) then (b_1[(isub .i64 (b_1.length:Int) 1).toNat]?).bind fun x3=>(lp qan K0 (((isub .i64 (b_1.length:Int) 1),(List.replicate (isub .i64 (b_1.length:Int) 1).toNat (((false,[]),[]):RAT)),(isub .i64 (isub .i64 (b_1.length:Int) 1) 1),()),((x1.1,x1.2.1.1.1,x1.2.1.1.2,x1.2.1.2,x1.2.2.1,x1.2.2.2.1.1,x1.2.2.2.1.2,x1.2.2.2.2,()),(r2.1.1.1,r2.1.1.2,r2.1.2,()),(x3.2.2.2.1.1,x3.2.2.2.1.2,x3.2.2.2.2,()),(b_1,()),()))).bind fun t18=>some (t18.1.1,t18.2.1.1) else none else none else none
abbrev w34:Wir:=⟨[.b,.x],[[.x]],1,none,[],[],0⟩
def c34:Ctr:=⟨[((.int .i64),.imm),((.sl (.pair (.int .i64) (.pair tRAT qax))),.own)],[((.sl tRAT),true),((.sl (.pair (.int .i64) (.pair tRAT qax))),true)],(List RAT)×(List (Int×RAT×CELL)),fun x=>qbr x.1 x.2.1,fun r=>((),(r.1,r.2,())),some w34⟩
abbrev qbd:SG:=⟨[(0,.p 528 0 0),(5,.o tRAT 47),(6,.o (.pair (.int .i64) (.pair tRAT qax)) 55),(49,.v (.int .i64)),(50,.v (.int .i64))],[(528,[.o (.pair (.int .i64) (.pair tRAT qax)) 1528])],[],[],[]⟩
abbrev qbQ:List (Ex×SG):=[(.exit 0,⟨[(0,.p 528 0 0),(6,.o (.pair (.int .i64) (.pair tRAT qax)) 55)],[(528,[.o (.pair (.int .i64) (.pair tRAT qax)) 1528])],[],[],[]⟩)]
abbrev qfj:=(((List RAT)×(List (Int×RAT×CELL))×Int×Int×Unit)×(((List (Int×RAT×CELL))×Unit)×Unit))
abbrev qfi:=(((List (Int×RAT×CELL))×Unit)×(((List (Int×RAT×CELL))×Unit)×Unit))
def qat (g:qfj->Option qfi):qfj->Option qfi
 | ((v_5,v_6,v_49,v_50,_),((b528_0,_),_))=>bif (decide (v_50<v_49)) then (bif decide (0<=v_50)&&decide (v_50<(v_5.length:Int)) then (v_5[v_50.toNat]?).bind fun x2=>bif decide (0<=v_50)&&decide (v_50<(v_6.length:Int)) then (v_6[v_50.toNat]?).bind fun x3=>g ((v_5,(v_6.set v_50.toNat (x3.1,(x3.2.1,(x3.2.2.1,x2)))),v_49,(iadd .i64 v_50 1),()),((b528_0,()),())) else none else none) else (some ((v_6,()),((b528_0,()),())))
def qar (a_0:Int) (b_1:List (Int×RAT×CELL)):Option (Int×(List (Int×RAT×CELL))) :=
 bif (decide ((b_1.length:Int)=0)) then (some (18,b_1)) else (bif (decide (a_0<1)) then (some (8,b_1)) else (bif (decide (a_0>=(b_1.length:Int))) then (some (8,b_1)) else ((qbr a_0 b_1).bind fun r1=>bif decide ((0:Int)<=a_0)&&decide ((a_0:Int)<=a_0)&&decide ((a_0:Int)<=(r1.2.length:Int)) then bif Nat.ble ((([]:List (Int×RAT×CELL)).length+(r1.2.take ((a_0-0).toNat)).length)*128) 140737488355328&&!false then bif decide (0<=(iadd .i64 a_0 1))&&decide (((iadd .i64 a_0 1):Int)<=(r1.2.length:Int)) then bif Nat.ble (((([]:List (Int×RAT×CELL))++(r1.2.take ((a_0-0).toNat))).length+(r1.2.drop ((iadd .i64 a_0 1).toNat)).length)*128) 140737488355328&&!false then (lp qat K0 ((r1.1,((([]:List (Int×RAT×CELL))++(r1.2.take ((a_0-0).toNat)))++(r1.2.drop ((iadd .i64 a_0 1).toNat))),(((([]:List (Int×RAT×CELL))++(r1.2.take ((a_0-0).toNat)))++(r1.2.drop ((iadd .i64 a_0 1).toNat))).length:Int),0,()),((r1.2,()),()))).bind fun t4=>some (0,t4.1.1) else none else none else none else none)))
abbrev w24:Wir:=⟨[.b,.x],[[.x]],1,none,[],[],0⟩
def c24:Ctr:=⟨[((.int .i64),.imm),((.sl (.pair (.int .i64) (.pair tRAT qax))),.own)],[((.int .i64),false),((.sl (.pair (.int .i64) (.pair tRAT qax))),true)],Int×(List (Int×RAT×CELL)),fun x=>qar x.1 x.2.1,fun r=>((),(r.1,r.2,())),some w24⟩
def qc1 (a_0:RAT):Option RAT :=
 bif (decide ((a_0.1.2.length:Int)>3)) then (bif decide ((3:Int)<=(a_0.1.2.length:Int)) then bif (decide ((a_0.2.length:Int)>3)) then (bif decide ((3:Int)<=(a_0.2.length:Int)) then some ((a_0.1.1,(a_0.1.2.take 3)),(a_0.2.take 3)) else none) else (some ((a_0.1.1,(a_0.1.2.take 3)),a_0.2)) else none) else (bif (decide ((a_0.2.length:Int)>3)) then (bif decide ((3:Int)<=(a_0.2.length:Int)) then some (a_0.1,(a_0.2.take 3)) else none) else (some a_0))
def c53:Ctr:=⟨[(tRAT,.imm)],[(tRAT,false)],RAT,fun x=>qc1 x.1,fun r=>((),(r,())),none⟩
abbrev qcb:SG:=⟨[(0,.v (.sl qax)),(1,.v (.int .i64)),(5,.o qax 47),(6,.v (.int .i64))],[],[],[],[]⟩
abbrev qc2:List (Ex×SG):=[(.exit 0,⟨[(5,.o qax 47)],[],[],[],[]⟩)]
def qaW (g:(((List CELL)×Int×(List CELL)×Int×Unit)×Unit)->Option (((List CELL)×Unit)×Unit)):(((List CELL)×Int×(List CELL)×Int×Unit)×Unit)->Option (((List CELL)×Unit)×Unit)
 | ((l_0,n_1,out_5,i_6,_),_)=>bif (decide (i_6<(l_0.length:Int))) then (bif (decide (i_6<n_1)) then (bif decide (0<=i_6) then (l_0[i_6.toNat]?).bind fun x1=>(qc1 x1.2).bind fun r2=>bif Nat.ble ((out_5.length+1)*64) 140737488355328&&!false then g ((l_0,n_1,(out_5++([(x1.1,r2)]:List CELL)),(iadd .i64 i_6 1),()),()) else none else none) else (some ((out_5,()),()))) else (some ((out_5,()),()))
def qc6 (l_0:List CELL) (n_1:Int):Option (List CELL) :=
 (lp qaW K0 ((l_0,n_1,[],0,()),())).bind fun t3=>some t3.1.1
def c25:Ctr:=⟨[((.sl qax),.imm),((.int .i64),.imm)],[((.sl qax),true)],(List CELL),fun x=>qc6 x.1 x.2.1,fun r=>((),(r,())),none⟩
abbrev qbG:SG:=⟨[(0,.v (.sl qea)),(1,.v (.int .i64)),(5,.v (.int .i64))],[],[],[],[]⟩
abbrev qco:List (Ex×SG):=[(.exit 0,⟨[],[],[],[],[]⟩),(.ret,⟨[(4,.v (.int .i64))],[],[],[],[]⟩)]
def qal (g:(((List PART)×Int×Int×Unit)×Unit)->Option ((Unit×Unit) ⊕ ((Int×Unit)×Unit))):(((List PART)×Int×Int×Unit)×Unit)->Option ((Unit×Unit) ⊕ ((Int×Unit)×Unit))
 | ((parts_0,feature_1,i_5,_),_)=>bif (decide (i_5<(parts_0.length:Int))) then (bif decide (0<=i_5) then (parts_0[i_5.toNat]?).bind fun x1=>bif (decide (x1.1=feature_1)) then (some (.inr (((iadd .i64 i_5 1),()),()))) else (g ((parts_0,feature_1,(iadd .i64 i_5 1),()),())) else none) else (some (.inl ((()),())))
def qaQ (parts_0:List PART) (feature_1:Int):Option Int :=
 (lp qal K0 ((parts_0,feature_1,0,()),())).bind fun t2=>(match t2 with | .inl t3=>some 0 | .inr t4=>some t4.1.1)
def c26:Ctr:=⟨[((.sl qea),.imm),((.int .i64),.imm)],[((.int .i64),false)],Int,fun x=>qaQ x.1 x.2.1,fun r=>((),(r,())),none⟩
def qbg (a_0:List PART) (a_1:Int×Int×PART) (b_2:List (Int×RAT×CELL)):Option ((List PART)×Bool×(List (Int×RAT×CELL))) :=
 bif (decide (a_1.1=1)) then ((qar a_1.2.2.1 b_2).bind fun r1=>bif (decide (a_1.2.2.1<1)) then (some (a_0,(decide (r1.1=8)),r1.2)) else (bif (decide (a_1.2.2.1>(a_0.length:Int))) then (some (a_0,(decide (r1.1=8)),r1.2)) else ((qcG a_0 (isub .i64 a_1.2.2.1 1)).bind fun r2=>some (r2,(decide (r1.1=0)),r1.2)))) else (bif (!decide (a_1.1=0)) then (some (a_0,true,b_2)) else (bif (decide ((a_0.length:Int)>=6)) then (some (a_0,true,b_2)) else ((qc6 ([(false,a_1.2.2.2.1)]:List CELL) 1).bind fun r3=>bif decide ((0:Int)<(r3.length:Int)) then (r3[0]?).bind fun x4=>(qae a_1.2.1 x4.2 a_1.2.2.2.2 b_2).bind fun r5=>bif (decide (a_1.2.1<0)) then (some (a_0,(decide (r5.1=1)),r5.2)) else ((qaQ a_0 a_1.2.1).bind fun r6=>bif (decide (r6>0)) then (some (a_0,(decide (r5.1=1)),r5.2)) else ((qfD x4.2).bind fun r7=>bif (decide (r7<=0)) then (some (a_0,(decide (r5.1=8)),r5.2)) else (bif Nat.ble ((([]:List PART).length+a_0.length)*72) 140737488355328&&!false then bif Nat.ble (((([]:List PART)++a_0).length+1)*72) 140737488355328&&!false then some (((([]:List PART)++a_0)++([(a_1.2.1,(x4.2,a_1.2.2.2.2))]:List PART)),(decide (r5.1=0)),r5.2) else none else none))) else none)))
abbrev w9:Wir:=⟨[.b,.x,.x],[[.x]],2,none,[],[],0⟩
def c9:Ctr:=⟨[((.sl qea),.imm),((.pair (.int .i64) (.pair (.int .i64) qea)),.imm),((.sl (.pair (.int .i64) (.pair tRAT qax))),.own)],[((.sl qea),false),(.bool,false),((.sl (.pair (.int .i64) (.pair tRAT qax))),true)],(List PART)×Bool×(List (Int×RAT×CELL)),fun x=>qbg x.1 x.2.1 x.2.2.1,fun r=>((),(r.1,r.2.1,r.2.2,())),some w9⟩
def qmd :Option (Int×Int×Int×(List WH)) :=
 some (0,0,0,[])
abbrev w35:Wir:=⟨[],[],0,some 4,[],[],0⟩
def c35:Ctr:=⟨[],[((.int .u32),false),((.int .i32),false),((.int .u32),false),((.sl tWH),false)],Int×Int×Int×(List WH),fun x=>qmd ,fun r=>((),(r.1,r.2.1,r.2.2.1,r.2.2.2,())),some w35⟩
abbrev qca:SG:=⟨[(0,.v (.int .i64)),(3,.v (.int .i64)),(4,.v (.int .i64))],[],[],[],[]⟩
abbrev qcZ:List (Ex×SG):=[(.exit 0,⟨[(3,.v (.int .i64))],[],[],[],[]⟩)]
def qaV (g:((Int×Int×Int×Unit)×Unit)->Option ((Int×Unit)×Unit)):((Int×Int×Int×Unit)×Unit)->Option ((Int×Unit)×Unit)
 | ((n_0,out_3,i_4,_),_)=>bif (decide (i_4<n_0)) then (g ((n_0,(imul .i64 2 out_3),(iadd .i64 i_4 1),()),())) else (some ((out_3,()),()))
def qd2 (n_0:Int):Option Int :=
 (lp qaV K0 ((n_0,1,0,()),())).bind fun t1=>some t1.1.1
def c36:Ctr:=⟨[((.int .i64),.imm)],[((.int .i64),false)],Int,fun x=>qd2 x.1,fun r=>((),(r,())),none⟩
abbrev qcv:SG:=⟨[(0,.v (.int .i64)),(1,.v (.int .i64)),(5,.v (.int .i64))],[],[],[],[]⟩
abbrev qdk:List (Ex×SG):=[(.exit 0,⟨[(0,.v (.int .i64))],[],[],[],[]⟩)]
def qa0 (g:((Int×Int×Int×Unit)×Unit)->Option ((Int×Unit)×Unit)):((Int×Int×Int×Unit)×Unit)->Option ((Int×Unit)×Unit)
 | ((set_0,feature_1,i_5,_),_)=>bif (decide (i_5<feature_1)) then (g (((iquo .i64 set_0 2),feature_1,(iadd .i64 i_5 1),()),())) else (some ((set_0,()),()))
def qdL (set_0:Int) (feature_1:Int):Option Bool :=
 (lp qa0 K0 ((set_0,feature_1,0,()),())).bind fun t1=>some (decide ((irem t1.1.1 2)=1))
def c37:Ctr:=⟨[((.int .i64),.imm),((.int .i64),.imm)],[(.bool,false)],Bool,fun x=>qdL x.1 x.2.1,fun r=>((),(r,())),none⟩
abbrev qb1:SG:=⟨[(0,.v (.int .i64)),(1,.v (.int .i64)),(5,.v (.int .i64)),(6,.v (.int .i64))],[],[],[],[]⟩
abbrev qcI:List (Ex×SG):=[(.exit 0,⟨[(5,.v (.int .i64))],[],[],[],[]⟩)]
def qaO (g:((Int×Int×Int×Int×Unit)×Unit)->Option ((Int×Unit)×Unit)):((Int×Int×Int×Int×Unit)×Unit)->Option ((Int×Unit)×Unit)
 | ((set_0,n_1,out_5,i_6,_),_)=>bif (decide (i_6<n_1)) then ((qdL set_0 i_6).bind fun r1=>bif r1 then (g ((set_0,n_1,(iadd .i64 out_5 1),(iadd .i64 i_6 1),()),())) else (g ((set_0,n_1,out_5,(iadd .i64 i_6 1),()),()))) else (some ((out_5,()),()))
def qcS (set_0:Int) (n_1:Int):Option Int :=
 (lp qaO K0 ((set_0,n_1,0,0,()),())).bind fun t2=>some t2.1.1
def c38:Ctr:=⟨[((.int .i64),.imm),((.int .i64),.imm)],[((.int .i64),false)],Int,fun x=>qcS x.1 x.2.1,fun r=>((),(r,())),none⟩
abbrev qcP:SG:=⟨[(1,.p 8 0 0),(2,.o tWH 23),(7,.v (.int .i64))],[(8,[.v .bool,.v (.sl (.int .u64))])],[],[],[]⟩
abbrev qdu:List (Ex×SG):=[(.exit 0,⟨[(2,.o tWH 23)],[],[],[],[]⟩)]
abbrev qhM:=(((List WH)×Int×Unit)×((Bool×(List Int)×Unit)×Unit))
abbrev qhL:=(((List WH)×Unit)×Unit)
def qdt (g:qhM->Option qhL):qhM->Option qhL
 | ((out_2,v_7,_),((b8_0,b8_1,_),_))=>bif (decide (v_7<64)) then ((qgS (iadd .i64 v_7 1)).bind fun r2=>(qds (b8_0,b8_1) r2).bind fun r3=>bif Nat.ble ((out_2.length+1)*32) 140737488355328&&!false then g (((out_2++([r3]:List WH)),(iadd .i64 v_7 1),()),((r3.1,r3.2,()),())) else none) else (some ((out_2,()),()))
def qd4 :Option (List WH) :=
 (qgS 1).bind fun r1=>(lp qdt K0 ((([r1]:List WH),0,()),((r1.1,r1.2,()),()))).bind fun t4=>some t4.1.1
def c106:Ctr:=⟨[],[((.sl tWH),true)],(List WH),fun x=>qd4 ,fun r=>((),(r,())),none⟩
def qeI (b_0:Int) (b_1:Int) (b_2:Int) (b_3:List WH):Option (Int×Int×Int×(List WH)) :=
 (qd4 ).bind fun r1=>some (b_0,b_1,b_2,r1)
abbrev w105:Wir:=⟨[.b],[[.b],[.x,.x,.x,.x]],0,none,[],[],0⟩
def c105:Ctr:=⟨[((.int .u32),.imm),((.int .i32),.imm),((.int .u32),.imm),((.sl tWH),.imm)],[((.int .u32),false),((.int .i32),false),((.int .u32),false),((.sl tWH),false)],Int×Int×Int×(List WH),fun x=>qeI x.1 x.2.1 x.2.2.1 x.2.2.2.1,fun r=>((),(r.1,r.2.1,r.2.2.1,r.2.2.2,())),some w105⟩
def qht (a0:Int) (a1:Int) (a2:Int) (a3:Int) (a4:List WH):Option (WH×Int×Int×Int×(List WH)):=bif decide (0<=a0) then (bif decide (a1=0) then (bif decide (a2=0) then (qd4).bind fun p=>(p[a0.toNat]?).bind fun x=>some (x,1,0,a3,p) else none) else (a4[a0.toNat]?).bind fun x=>some (x,a1,a2,a3,a4)) else none
abbrev w78:Wir:=⟨[.b,.x],[[.x,.x,.x,.x]],1,none,[],[],0⟩
def c78:Ctr:=⟨[((.int .i64),.imm),((.int .u32),.imm),((.int .i32),.imm),((.int .u32),.imm),((.sl tWH),.imm)],[(tWH,false),((.int .u32),false),((.int .i32),false),((.int .u32),false),((.sl tWH),false)],WH×Int×Int×Int×(List WH),fun x=>qht x.1 x.2.1 x.2.2.1 x.2.2.2.1 x.2.2.2.2.1,fun r=>((),(r.1,r.2.1,r.2.2.1,r.2.2.2.1,r.2.2.2.2,())),some w78⟩
def qcA (a_0:Int) (b_1:Int) (c_2:Int) (b_3:Int) (b_4:Int) (b_5:Int) (b_6:List WH):Option (RAT×Int×Int×Int×(List WH)) :=
 (qht a_0 b_3 b_4 b_5 b_6).bind fun r1=>(qht b_1 r1.2.1 r1.2.2.1 r1.2.2.2.1 r1.2.2.2.2).bind fun r2=>(qds r1.1 r2.1).bind fun r3=>(qht c_2 r2.2.1 r2.2.2.1 r2.2.2.2.1 r2.2.2.2.2).bind fun r4=>(qgH r3 r4.1).bind fun r5=>some (r5.1,r4.2.1,r4.2.2.1,r4.2.2.2.1,r4.2.2.2.2)
abbrev w59:Wir:=⟨[.b,.x,.x,.x],[[.x,.x,.x,.x]],1,none,[],[],0⟩
def c59:Ctr:=⟨[((.int .i64),.imm),((.int .i64),.imm),((.int .i64),.imm),((.int .u32),.imm),((.int .i32),.imm),((.int .u32),.imm),((.sl tWH),.imm)],[(tRAT,false),((.int .u32),false),((.int .i32),false),((.int .u32),false),((.sl tWH),false)],RAT×Int×Int×Int×(List WH),fun x=>qcA x.1 x.2.1 x.2.2.1 x.2.2.2.1 x.2.2.2.2.1 x.2.2.2.2.2.1 x.2.2.2.2.2.2.1,fun r=>((),(r.1,r.2.1,r.2.2.1,r.2.2.2.1,r.2.2.2.2,())),some w59⟩
def qc7 (s_0:Int) (n_1:Int) (b_2:Int) (b_3:Int) (b_4:Int) (b_5:List WH):Option (RAT×Int×Int×Int×Int×(List WH)) :=
 bif (decide (n_1<1)) then (some (((false,[]),[]),8,b_2,b_3,b_4,b_5)) else (bif (decide (n_1>64)) then (some (((false,[]),[]),8,b_2,b_3,b_4,b_5)) else (bif (decide (s_0<0)) then (some (((false,[]),[]),8,b_2,b_3,b_4,b_5)) else (bif (decide (s_0>=n_1)) then (some (((false,[]),[]),8,b_2,b_3,b_4,b_5)) else ((qcA s_0 (isub .i64 (isub .i64 n_1 s_0) 1) n_1 b_2 b_3 b_4 b_5).bind fun r1=>some (r1.1,0,r1.2.1,r1.2.2.1,r1.2.2.2.1,r1.2.2.2.2)))))
abbrev w39:Wir:=⟨[.b,.x,.x],[[.x,.x,.x,.x]],2,none,[],[],0⟩
def c39:Ctr:=⟨[((.int .i64),.imm),((.int .i64),.imm),((.int .u32),.imm),((.int .i32),.imm),((.int .u32),.imm),((.sl tWH),.imm)],[(tRAT,false),((.int .i64),false),((.int .u32),false),((.int .i32),false),((.int .u32),false),((.sl tWH),false)],RAT×Int×Int×Int×Int×(List WH),fun x=>qc7 x.1 x.2.1 x.2.2.1 x.2.2.2.1 x.2.2.2.2.1 x.2.2.2.2.2.1,fun r=>((),(r.1,r.2.1,r.2.2.1,r.2.2.2.1,r.2.2.2.2.1,r.2.2.2.2.2,())),some w39⟩
abbrev qbe:SG:=⟨[(0,.v (.sl qea)),(3,.v (.int .i64)),(4,.p 119 0 0),(5,.o tRAT 47),(6,.v (.int .i64)),(7,.p 56 0 0),(8,.v (.int .i64))],[(56,[.v .bool,.v (.sl (.int .u64)),.v (.sl (.int .u64))]),(119,[.v (.int .u32),.v (.int .i32),.v (.int .u32),.v (.sl tWH)])],[],[],[]⟩
abbrev qbU:List (Ex×SG):=[(.exit 2,⟨[(0,.v (.sl qea)),(3,.v (.int .i64)),(4,.p 119 0 0),(5,.o tRAT 47),(6,.v (.int .i64)),(7,.p 56 0 0)],[(56,[.v .bool,.v (.sl (.int .u64)),.v (.sl (.int .u64))]),(119,[.v (.int .u32),.v (.int .i32),.v (.int .u32),.v (.sl tWH)])],[],[],[]⟩)]
abbrev qfo:=(((List PART)×Int×(List RAT)×Int×Int×Unit)×((Bool×(List Int)×(List Int)×Unit)×(Int×Int×Int×(List WH)×Unit)×Unit))
abbrev qfn:=(((List PART)×Int×(List RAT)×Int×Unit)×((Bool×(List Int)×(List Int)×Unit)×(Int×Int×Int×(List WH)×Unit)×Unit))
def qau (g:qfo->Option qfn):qfo->Option qfn
 | ((v_0,v_3,v_5,v_6,v_8,_),((b56_0,b56_1,b56_2,_),(b119_0,b119_1,b119_2,b119_3,_),_))=>bif (decide (v_8<v_3)) then ((qdL v_6 v_8).bind fun r4=>bif (!r4) then (bif decide (0<=v_8) then (v_0[v_8.toNat]?).bind fun x5=>(qay ((b56_0,b56_1),b56_2) x5.2.1).bind fun r6=>g ((v_0,v_3,v_5,v_6,(iadd .i64 v_8 1),()),((r6.1.1,r6.1.2,r6.2,()),(b119_0,b119_1,b119_2,b119_3,()),())) else none) else (bif decide (0<=v_8) then (v_0[v_8.toNat]?).bind fun x7=>bif (!x7.2.2) then ((qeL ).bind fun r8=>g ((v_0,v_3,v_5,v_6,(iadd .i64 v_8 1),()),((r8.1.1,r8.1.2,r8.2,()),(b119_0,b119_1,b119_2,b119_3,()),()))) else (g ((v_0,v_3,v_5,v_6,(iadd .i64 v_8 1),()),((b56_0,b56_1,b56_2,()),(b119_0,b119_1,b119_2,b119_3,()),()))) else none)) else (some ((v_0,v_3,v_5,v_6,()),((b56_0,b56_1,b56_2,()),(b119_0,b119_1,b119_2,b119_3,()),())))
abbrev qbf:SG:=⟨[(0,.v (.sl qea)),(3,.v (.int .i64)),(4,.p 119 0 0),(5,.o tRAT 47),(6,.v (.int .i64))],[(119,[.v (.int .u32),.v (.int .i32),.v (.int .u32),.v (.sl tWH)])],[],[],[]⟩
abbrev qbV:List (Ex×SG):=[(.exit 0,⟨[(5,.o tRAT 47)],[],[],[],[]⟩)]
abbrev qfq:=(((List PART)×Int×(List RAT)×Int×Unit)×((Int×Int×Int×(List WH)×Unit)×Unit))
abbrev qfp:=(((List RAT)×Unit)×Unit)
def qaL (g:qfq->Option qfp):qfq->Option qfp
 | ((v_0,v_3,v_5,v_6,_),((b119_0,b119_1,b119_2,b119_3,_),_))=>(qd2 v_3).bind fun r2=>bif (decide (v_6<r2)) then ((qdB ).bind fun r3=>(lp qau K0 ((v_0,v_3,v_5,v_6,0,()),((r3.1.1,r3.1.2,r3.2,()),(b119_0,b119_1,b119_2,b119_3,()),()))).bind fun t9=>(qcS t9.1.2.2.2.1 t9.1.2.1).bind fun r10=>(qc7 r10 (iadd .i64 t9.1.2.1 1) t9.2.2.1.1 t9.2.2.1.2.1 t9.2.2.1.2.2.1 t9.2.2.1.2.2.2.1).bind fun r11=>bif decide (0<=r10)&&decide (r10<(t9.1.2.2.1.length:Int)) then (t9.1.2.2.1[r10.toNat]?).bind fun x12=>(qay r11.1 ((t9.2.1.1,t9.2.1.2.1),t9.2.1.2.2.1)).bind fun r13=>(qdC x12 r13).bind fun r14=>bif decide (0<=r10)&&decide (r10<(t9.1.2.2.1.length:Int)) then (t9.1.2.2.1[r10.toNat]?).bind fun _=>g ((t9.1.1,t9.1.2.1,(t9.1.2.2.1.set r10.toNat r14),(iadd .i64 t9.1.2.2.2.1 1),()),((r11.2.2.1,r11.2.2.2.1,r11.2.2.2.2.1,r11.2.2.2.2.2,()),())) else none else none) else (some ((v_5,()),()))
def qcH (a_0:List PART):Option (List RAT) :=
 (qmd ).bind fun r1=>bif decide ((iadd .i64 (a_0.length:Int) 1)=(iadd .i64 (a_0.length:Int) 1))&&decide (0<=(iadd .i64 (a_0.length:Int) 1))&&decide (((56:Nat):Int)*(iadd .i64 (a_0.length:Int) 1)<=281474976710656)&&decide ((iadd .i64 (a_0.length:Int) 1)<=9223372036854775807) then (lp qaL K0 ((a_0,(a_0.length:Int),(List.replicate (iadd .i64 (a_0.length:Int) 1).toNat (((false,[]),[]):RAT)),0,()),((r1.1,r1.2.1,r1.2.2.1,r1.2.2.2,()),()))).bind fun t16=>some t16.1.1 else none
def c13:Ctr:=⟨[((.sl qea),.imm)],[((.sl tRAT),true)],(List RAT),fun x=>qcH x.1,fun r=>((),(r,())),none⟩
abbrev qbB:SG:=⟨[(0,.v (.int .i64)),(3,.o (.int .i64) 31)],[],[],[],[]⟩
abbrev qcj:List (Ex×SG):=[(.exit 0,⟨[(3,.o (.int .i64) 31)],[],[],[],[]⟩)]
def qaT (g:((Int×(List Int)×Unit)×Unit)->Option (((List Int)×Unit)×Unit)):((Int×(List Int)×Unit)×Unit)->Option (((List Int)×Unit)×Unit)
 | ((n_0,out_3,_),_)=>bif (decide (n_0>0)) then (bif Nat.ble ((out_3.length+1)*8) 140737488355328&&!false then g (((iquo .i64 n_0 10000),(out_3++([(irem n_0 10000)]:List Int)),()),()) else none) else (some ((out_3,()),()))
def qam (n_0:Int):Option (List Int) :=
 (lp qaT K0 ((n_0,[],()),())).bind fun t1=>some t1.1.1
def c92:Ctr:=⟨[((.int .i64),.imm)],[((.sl (.int .i64)),true)],(List Int),fun x=>qam x.1,fun r=>((),(r,())),none⟩
def qaH (a_0:List Int) (i_1:Int):Option Int :=
 bif (decide (i_1<(a_0.length:Int))) then (bif decide (0<=i_1) then (a_0[i_1.toNat]?).bind fun x1=>some x1 else none) else (some 0)
def c112:Ctr:=⟨[((.sl (.int .i64)),.imm),((.int .i64),.imm)],[((.int .i64),false)],Int,fun x=>qaH x.1 x.2.1,fun r=>((),(r,())),none⟩
abbrev qbY:SG:=⟨[(0,.v (.sl (.int .i64))),(1,.v (.sl (.int .i64))),(5,.o (.int .i64) 47),(6,.v (.int .i64)),(7,.v (.int .i64))],[],[],[],[]⟩
abbrev qcD:List (Ex×SG):=[(.exit 0,⟨[(5,.o (.int .i64) 47)],[],[],[],[]⟩)]
abbrev qgx:=(((List Int)×(List Int)×(List Int)×Int×Int×Unit)×Unit)
abbrev qgw:=(((List Int)×Unit)×Unit)
def qaC (g:qgx->Option qgw):qgx->Option qgw
 | ((a_0,b_1,out_5,c_6,i_7,_),_)=>bif (decide (i_7<(a_0.length:Int))) then ((qaH a_0 i_7).bind fun r1=>(qaH b_1 i_7).bind fun r2=>bif Nat.ble ((out_5.length+1)*8) 140737488355328&&!false then g ((a_0,b_1,(out_5++([(irem (iadd .i64 (iadd .i64 c_6 r1) r2) 10000)]:List Int)),(iquo .i64 (iadd .i64 (iadd .i64 c_6 r1) r2) 10000),(iadd .i64 i_7 1),()),()) else none) else (bif (decide (i_7<(b_1.length:Int))) then ((qaH a_0 i_7).bind fun r3=>(qaH b_1 i_7).bind fun r4=>bif Nat.ble ((out_5.length+1)*8) 140737488355328&&!false then g ((a_0,b_1,(out_5++([(irem (iadd .i64 (iadd .i64 c_6 r3) r4) 10000)]:List Int)),(iquo .i64 (iadd .i64 (iadd .i64 c_6 r3) r4) 10000),(iadd .i64 i_7 1),()),()) else none) else (bif (decide (c_6>0)) then ((qaH a_0 i_7).bind fun r5=>(qaH b_1 i_7).bind fun r6=>bif Nat.ble ((out_5.length+1)*8) 140737488355328&&!false then g ((a_0,b_1,(out_5++([(irem (iadd .i64 (iadd .i64 c_6 r5) r6) 10000)]:List Int)),(iquo .i64 (iadd .i64 (iadd .i64 c_6 r5) r6) 10000),(iadd .i64 i_7 1),()),()) else none) else (some ((out_5,()),()))))
def qcR (a_0:List Int) (b_1:List Int):Option (List Int) :=
 (lp qaC K0 ((a_0,b_1,[],0,0,()),())).bind fun t7=>some t7.1.1
def c96:Ctr:=⟨[((.sl (.int .i64)),.imm),((.sl (.int .i64)),.imm)],[((.sl (.int .i64)),true)],(List Int),fun x=>qcR x.1 x.2.1,fun r=>((),(r,())),none⟩
abbrev qbX:SG:=⟨[(0,.v (.sl (.int .i64))),(3,.v (.int .i64))],[],[],[],[]⟩
abbrev qcC:List (Ex×SG):=[(.exit 0,⟨[(0,.v (.sl (.int .i64))),(3,.v (.int .i64))],[],[],[],[]⟩)]
def qaN (g:(((List Int)×Int×Unit)×Unit)->Option (((List Int)×Int×Unit)×Unit)):(((List Int)×Int×Unit)×Unit)->Option (((List Int)×Int×Unit)×Unit)
 | ((a_0,n_3,_),_)=>bif (decide (n_3>0)) then (bif decide (0<=(isub .i64 n_3 1)) then (a_0[(isub .i64 n_3 1).toNat]?).bind fun x1=>bif (decide (x1=0)) then (g ((a_0,(isub .i64 n_3 1),()),())) else (some ((a_0,n_3,()),())) else none) else (some ((a_0,n_3,()),()))
def qby (a_0:List Int):Option (List Int) :=
 (lp qaN K0 ((a_0,(a_0.length:Int),()),())).bind fun t2=>bif decide (0<=t2.1.2.1)&&decide ((t2.1.2.1:Int)<=(t2.1.1.length:Int)) then some (t2.1.1.take t2.1.2.1.toNat) else none
def c113:Ctr:=⟨[((.sl (.int .i64)),.imm)],[((.sl (.int .i64)),false)],(List Int),fun x=>qby x.1,fun r=>((),(r,())),none⟩
abbrev qbz:SG:=⟨[(0,.v (.sl (.int .i64))),(1,.v (.sl (.int .i64))),(5,.o (.int .i64) 47),(6,.v (.int .i64)),(7,.v (.int .i64)),(8,.v (.int .i64))],[],[],[],[]⟩
abbrev qch:List (Ex×SG):=[(.exit 2,⟨[(0,.v (.sl (.int .i64))),(1,.v (.sl (.int .i64))),(5,.o (.int .i64) 47),(6,.v (.int .i64)),(7,.v (.int .i64))],[],[],[],[]⟩)]
abbrev qgk:=(((List Int)×(List Int)×(List Int)×Int×Int×Int×Unit)×Unit)
abbrev qgj:=(((List Int)×(List Int)×(List Int)×Int×Int×Unit)×Unit)
def qaI (g:qgk->Option qgj):qgk->Option qgj
 | ((a_0,b_1,out_5,i_6,c_7,k_8,_),_)=>bif (decide (k_8<(b_1.length:Int))) then (bif decide (0<=(iadd .i64 i_6 k_8))&&decide ((iadd .i64 i_6 k_8)<(out_5.length:Int)) then (out_5[(iadd .i64 i_6 k_8).toNat]?).bind fun x1=>bif decide (0<=i_6) then (a_0[i_6.toNat]?).bind fun x2=>bif decide (0<=k_8) then (b_1[k_8.toNat]?).bind fun x3=>bif decide (0<=(iadd .i64 i_6 k_8))&&decide ((iadd .i64 i_6 k_8)<(out_5.length:Int)) then (out_5[(iadd .i64 i_6 k_8).toNat]?).bind fun _=>g ((a_0,b_1,(out_5.set ((iadd .i64 i_6 k_8).toNat) (irem (iadd .i64 (iadd .i64 c_7 x1) (imul .i64 x2 x3)) 10000)),i_6,(iquo .i64 (iadd .i64 (iadd .i64 c_7 x1) (imul .i64 x2 x3)) 10000),(iadd .i64 k_8 1),()),()) else none else none else none else none) else (some ((a_0,b_1,out_5,i_6,c_7,()),()))
abbrev qbA:SG:=⟨[(0,.v (.sl (.int .i64))),(1,.v (.sl (.int .i64))),(5,.o (.int .i64) 47),(6,.v (.int .i64))],[],[],[],[]⟩
abbrev qci:List (Ex×SG):=[(.exit 0,⟨[(5,.o (.int .i64) 47)],[],[],[],[]⟩)]
abbrev qgm:=(((List Int)×(List Int)×(List Int)×Int×Unit)×Unit)
abbrev qgl:=(((List Int)×Unit)×Unit)
def qaS (g:qgm->Option qgl):qgm->Option qgl
 | ((a_0,b_1,out_5,i_6,_),_)=>bif (decide (i_6<(a_0.length:Int))) then ((lp qaI K0 ((a_0,b_1,out_5,i_6,0,0,()),())).bind fun t5=>bif decide (0<=(iadd .i64 t5.1.2.2.2.1 (t5.1.2.1.length:Int)))&&decide ((iadd .i64 t5.1.2.2.2.1 (t5.1.2.1.length:Int))<(t5.1.2.2.1.length:Int)) then (t5.1.2.2.1[(iadd .i64 t5.1.2.2.2.1 (t5.1.2.1.length:Int)).toNat]?).bind fun _=>g ((t5.1.1,t5.1.2.1,(t5.1.2.2.1.set ((iadd .i64 t5.1.2.2.2.1 (t5.1.2.1.length:Int)).toNat) t5.1.2.2.2.2.1),(iadd .i64 t5.1.2.2.2.1 1),()),()) else none) else (some ((out_5,()),()))
def qbh (a_0:List Int) (b_1:List Int):Option (List Int) :=
 bif decide ((iadd .i64 (a_0.length:Int) (b_1.length:Int))=(iadd .i64 (a_0.length:Int) (b_1.length:Int)))&&decide (0<=(iadd .i64 (a_0.length:Int) (b_1.length:Int)))&&decide (((8:Nat):Int)*(iadd .i64 (a_0.length:Int) (b_1.length:Int))<=281474976710656)&&decide ((iadd .i64 (a_0.length:Int) (b_1.length:Int))<=9223372036854775807) then (lp qaS K0 ((a_0,b_1,(List.replicate (iadd .i64 (a_0.length:Int) (b_1.length:Int)).toNat (0:Int)),0,()),())).bind fun t7=>(qby t7.1.1).bind fun r8=>some r8 else none
def c97:Ctr:=⟨[((.sl (.int .i64)),.imm),((.sl (.int .i64)),.imm)],[((.sl (.int .i64)),false)],(List Int),fun x=>qbh x.1 x.2.1,fun r=>((),(r,())),none⟩
abbrev qb0:SG:=⟨[(0,.v (.sl (.int .u64))),(3,.o (.int .i64) 31),(4,.v (.sl (.int .i64))),(5,.v (.int .i64))],[],[],[],[]⟩
abbrev qcF:List (Ex×SG):=[(.exit 0,⟨[(3,.o (.int .i64) 31)],[],[],[],[]⟩)]
abbrev qgB:=(((List Int)×(List Int)×(List Int)×Int×Unit)×Unit)
abbrev qgA:=(((List Int)×Unit)×Unit)
def qaZ (g:qgB->Option qgA):qgB->Option qgA
 | ((a_0,out_3,unit_4,i_5,_),_)=>bif (decide (i_5>=0)) then ((qbh out_3 unit_4).bind fun r2=>bif decide (0<=i_5) then (a_0[i_5.toNat]?).bind fun x3=>(qam (IntKind.wrap .i64 (iand .u64 x3 4294967295))).bind fun r4=>(qcR r2 r4).bind fun r5=>g ((a_0,r5,unit_4,(isub .i64 i_5 1),()),()) else none) else (some ((out_3,()),()))
def qaE (a_0:List Int):Option (List Int) :=
 (qam 4294967296).bind fun r1=>(lp qaZ K0 ((a_0,[],r1,(isub .i64 (a_0.length:Int) 1),()),())).bind fun t6=>some t6.1.1
def c69:Ctr:=⟨[((.sl (.int .u64)),.imm)],[((.sl (.int .i64)),true)],(List Int),fun x=>qaE x.1,fun r=>((),(r,())),none⟩
def qbx (neg_0:Bool) (n_1:List Int):Option (Bool×List Int) :=
 bif neg_0 then (some ((decide ((n_1.length:Int)>0)),n_1)) else (some (false,n_1))
def c99:Ctr:=⟨[(.bool,.imm),((.sl (.int .i64)),.imm)],[((.pair .bool (.sl (.int .i64))),false)],(Bool×List Int),fun x=>qbx x.1 x.2.1,fun r=>((),(r,())),none⟩
def qef (n_0:Int):Option (Bool×List Int) :=
 bif (decide (n_0<0)) then ((qam (isub .i64 0 (iadd .i64 n_0 1))).bind fun r1=>(qam 1).bind fun r2=>(qcR r1 r2).bind fun r3=>(qbx true r3).bind fun r4=>some r4) else ((qam n_0).bind fun r5=>(qbx false r5).bind fun r6=>some r6)
def c98:Ctr:=⟨[((.int .i64),.imm)],[((.pair .bool (.sl (.int .i64))),false)],(Bool×List Int),fun x=>qef x.1,fun r=>((),(r,())),none⟩
def qee (n_0:Int) (d_1:Int):Option ((Bool×List Int)×List Int) :=
 (qef n_0).bind fun r1=>(qam d_1).bind fun r2=>some (r1,r2)
def c70:Ctr:=⟨[((.int .i64),.imm),((.int .i64),.imm)],[((.pair (.pair .bool (.sl (.int .i64))) (.sl (.int .i64))),false)],((Bool×List Int)×List Int),fun x=>qee x.1 x.2.1,fun r=>((),(r,())),none⟩
def qdJ (a_0:WH):Option (Bool×List Int) :=
 (qaE a_0.2).bind fun r1=>(qbx a_0.1 r1).bind fun r2=>some r2
def c71:Ctr:=⟨[(tWH,.imm)],[((.pair .bool (.sl (.int .i64))),false)],(Bool×List Int),fun x=>qdJ x.1,fun r=>((),(r,())),none⟩
def qbw (a_0:RAT):Option ((Bool×List Int)×List Int) :=
 (qaE a_0.2).bind fun r1=>bif (decide ((r1.length:Int)=0)) then ((qee 0 1).bind fun r2=>some r2) else ((qdJ a_0.1).bind fun r3=>some (r3,r1))
def c47:Ctr:=⟨[(tRAT,.imm)],[((.pair (.pair .bool (.sl (.int .i64))) (.sl (.int .i64))),false)],((Bool×List Int)×List Int),fun x=>qbw x.1,fun r=>((),(r,())),none⟩
abbrev qbC:SG:=⟨[(0,.v (.sl (.int .u64))),(3,.v (.int .i64))],[],[],[],[]⟩
abbrev qck:List (Ex×SG):=[(.exit 0,⟨[(0,.v (.sl (.int .u64)))],[],[],[],[]⟩),(.ret,⟨[(2,.v .bool)],[],[],[],[]⟩)]
def qaJ (g:(((List Int)×Int×Unit)×Unit)->Option ((((List Int)×Unit)×Unit) ⊕ ((Bool×Unit)×Unit))):(((List Int)×Int×Unit)×Unit)->Option ((((List Int)×Unit)×Unit) ⊕ ((Bool×Unit)×Unit))
 | ((a_0,i_3,_),_)=>bif (decide (i_3<(a_0.length:Int))) then (bif decide (0<=i_3) then (a_0[i_3.toNat]?).bind fun x1=>bif (decide (x1>4294967295)) then (some (.inr ((false,()),()))) else (g ((a_0,(iadd .i64 i_3 1),()),())) else none) else (some (.inl ((a_0,()),())))
def qcu (a_0:List Int):Option Bool :=
 (lp qaJ K0 ((a_0,0,()),())).bind fun t2=>(match t2 with | .inl t3=>bif (decide ((t3.1.1.length:Int)=0)) then (some true) else (bif decide (0<=(isub .i64 (t3.1.1.length:Int) 1)) then (t3.1.1[(isub .i64 (t3.1.1.length:Int) 1).toNat]?).bind fun x5=>some (!decide (x5=0)) else none) | .inr t4=>some t4.1.1)
def c89:Ctr:=⟨[((.sl (.int .u64)),.imm)],[(.bool,false)],Bool,fun x=>qcu x.1,fun r=>((),(r,())),none⟩
abbrev qbE:SG:=⟨[(0,.v (.sl (.int .i64))),(1,.v (.sl (.int .i64))),(5,.v (.int .i64))],[],[],[],[]⟩
abbrev qcm:List (Ex×SG):=[(.exit 0,⟨[],[],[],[],[]⟩),(.ret,⟨[(4,.v (.int .i64))],[],[],[],[]⟩)]
def qaw (g:(((List Int)×(List Int)×Int×Unit)×Unit)->Option ((Unit×Unit) ⊕ ((Int×Unit)×Unit))):(((List Int)×(List Int)×Int×Unit)×Unit)->Option ((Unit×Unit) ⊕ ((Int×Unit)×Unit))
 | ((a_0,b_1,i_5,_),_)=>bif (decide (i_5>=0)) then (bif decide (0<=i_5) then (a_0[i_5.toNat]?).bind fun x1=>bif decide (0<=i_5) then (b_1[i_5.toNat]?).bind fun x2=>bif (decide (x1<x2)) then (some (.inr (((-1),()),()))) else (bif decide (0<=i_5) then (a_0[i_5.toNat]?).bind fun x3=>bif decide (0<=i_5) then (b_1[i_5.toNat]?).bind fun x4=>bif (decide (x3>x4)) then (some (.inr ((1,()),()))) else (g ((a_0,b_1,(isub .i64 i_5 1),()),())) else none else none) else none else none) else (some (.inl ((()),())))
def qaj (a_0:List Int) (b_1:List Int):Option Int :=
 bif (!decide ((a_0.length:Int)=(b_1.length:Int))) then (bif (decide ((a_0.length:Int)<(b_1.length:Int))) then (some (-1)) else (some 1)) else ((lp qaw K0 ((a_0,b_1,(isub .i64 (a_0.length:Int) 1),()),())).bind fun t5=>(match t5 with | .inl t6=>some 0 | .inr t7=>some t7.1.1))
def c91:Ctr:=⟨[((.sl (.int .i64)),.imm),((.sl (.int .i64)),.imm)],[((.int .i64),false)],Int,fun x=>qaj x.1 x.2.1,fun r=>((),(r,())),none⟩
abbrev qbF:SG:=⟨[(0,.v (.sl (.int .i64))),(1,.v (.sl (.int .i64))),(5,.o (.int .i64) 47),(6,.v (.int .i64)),(7,.v (.int .i64))],[],[],[],[]⟩
abbrev qcn:List (Ex×SG):=[(.exit 0,⟨[(5,.o (.int .i64) 47)],[],[],[],[]⟩)]
abbrev qgq:=(((List Int)×(List Int)×(List Int)×Int×Int×Unit)×Unit)
abbrev qgp:=(((List Int)×Unit)×Unit)
def qaK (g:qgq->Option qgp):qgq->Option qgp
 | ((a_0,b_1,out_5,c_6,i_7,_),_)=>bif (decide (i_7<(a_0.length:Int))) then (bif decide (0<=i_7) then (a_0[i_7.toNat]?).bind fun x1=>(qaH b_1 i_7).bind fun r2=>bif (decide ((isub .i64 (isub .i64 x1 r2) c_6)<0)) then (bif Nat.ble ((out_5.length+1)*8) 140737488355328&&!false then g ((a_0,b_1,(out_5++([(iadd .i64 (isub .i64 (isub .i64 x1 r2) c_6) 10000)]:List Int)),1,(iadd .i64 i_7 1),()),()) else none) else (bif Nat.ble ((out_5.length+1)*8) 140737488355328&&!false then g ((a_0,b_1,(out_5++([(isub .i64 (isub .i64 x1 r2) c_6)]:List Int)),0,(iadd .i64 i_7 1),()),()) else none) else none) else (some ((out_5,()),()))
def qdj (a_0:List Int) (b_1:List Int):Option (List Int) :=
 (lp qaK K0 ((a_0,b_1,[],0,0,()),())).bind fun t3=>(qby t3.1.1).bind fun r4=>some r4
def c122:Ctr:=⟨[((.sl (.int .i64)),.imm),((.sl (.int .i64)),.imm)],[((.sl (.int .i64)),false)],(List Int),fun x=>qdj x.1 x.2.1,fun r=>((),(r,())),none⟩
abbrev qbD:SG:=⟨[(0,.v (.sl (.int .i64))),(1,.v (.sl (.int .i64))),(6,.o (.int .i64) 55),(7,.v (.sl (.int .i64))),(8,.v (.int .i64)),(10,.v (.int .i64)),(11,.v (.int .i64))],[],[],[],[]⟩
abbrev qcl:List (Ex×SG):=[(.exit 2,⟨[(0,.v (.sl (.int .i64))),(1,.v (.sl (.int .i64))),(6,.o (.int .i64) 55),(7,.v (.sl (.int .i64))),(8,.v (.int .i64)),(10,.v (.int .i64))],[],[],[],[]⟩)]
abbrev qgo:=(((List Int)×(List Int)×(List Int)×(List Int)×Int×Int×Int×Unit)×Unit)
abbrev qgn:=(((List Int)×(List Int)×(List Int)×(List Int)×Int×Int×Unit)×Unit)
def qav (g:qgo->Option qgn):qgo->Option qgn
 | ((v_0,v_1,v_6,v_7,v_8,v_10,v_11,_),_)=>bif (decide ((isub .i64 v_11 v_10)>1)) then ((qam (iquo .i64 (iadd .i64 v_10 v_11) 2)).bind fun r3=>(qbh v_1 r3).bind fun r4=>(qaj r4 v_7).bind fun r5=>bif (decide (r5<=0)) then (g ((v_0,v_1,v_6,v_7,v_8,(iquo .i64 (iadd .i64 v_10 v_11) 2),v_11,()),())) else (g ((v_0,v_1,v_6,v_7,v_8,v_10,(iquo .i64 (iadd .i64 v_10 v_11) 2),()),()))) else (some ((v_0,v_1,v_6,v_7,v_8,v_10,()),()))
abbrev qbZ:SG:=⟨[(0,.v (.sl (.int .i64))),(1,.v (.sl (.int .i64))),(6,.o (.int .i64) 55),(7,.v (.sl (.int .i64))),(8,.v (.int .i64))],[],[],[],[]⟩
abbrev qcE:List (Ex×SG):=[(.exit 0,⟨[(6,.o (.int .i64) 55),(7,.v (.sl (.int .i64)))],[],[],[],[]⟩)]
abbrev qgz:=(((List Int)×(List Int)×(List Int)×(List Int)×Int×Unit)×Unit)
abbrev qgy:=(((List Int)×(List Int)×Unit)×Unit)
def qaY (g:qgz->Option qgy):qgz->Option qgy
 | ((v_0,v_1,v_6,v_7,v_8,_),_)=>bif (decide (v_8>=0)) then (bif decide (0<=v_8) then (v_0[v_8.toNat]?).bind fun x1=>bif Nat.ble ((([x1]:List Int).length+v_7.length)*8) 140737488355328&&!false then (qby (([x1]:List Int)++v_7)).bind fun r2=>(lp qav K0 ((v_0,v_1,v_6,r2,v_8,0,10000,()),())).bind fun t6=>bif decide (0<=t6.1.2.2.2.2.1)&&decide (t6.1.2.2.2.2.1<(t6.1.2.2.1.length:Int)) then (t6.1.2.2.1[t6.1.2.2.2.2.1.toNat]?).bind fun _=>(qam t6.1.2.2.2.2.2.1).bind fun r8=>(qbh t6.1.2.1 r8).bind fun r9=>(qdj t6.1.2.2.2.1 r9).bind fun r10=>g ((t6.1.1,t6.1.2.1,(t6.1.2.2.1.set t6.1.2.2.2.2.1.toNat t6.1.2.2.2.2.2.1),r10,(isub .i64 t6.1.2.2.2.2.1 1),()),()) else none else none else none) else (some ((v_6,v_7,()),()))
def qdK (a_0:List Int) (a_1:List Int):Option ((List Int)×(List Int)) :=
 bif decide ((a_0.length:Int)=(a_0.length:Int))&&decide (0<=(a_0.length:Int))&&decide (((8:Nat):Int)*(a_0.length:Int)<=281474976710656)&&decide ((a_0.length:Int)<=9223372036854775807) then (lp qaY K0 ((a_0,a_1,(List.replicate (a_0.length:Int).toNat (0:Int)),[],(isub .i64 (a_0.length:Int) 1),()),())).bind fun t11=>(qby t11.1.1).bind fun r12=>some (r12,t11.1.2.1) else none
def c111:Ctr:=⟨[((.sl (.int .i64)),.imm),((.sl (.int .i64)),.imm)],[((.sl (.int .i64)),false),((.sl (.int .i64)),false)],(List Int)×(List Int),fun x=>qdK x.1 x.2.1,fun r=>((),(r.1,r.2,())),none⟩
abbrev qb9:SG:=⟨[(0,.v (.sl (.int .i64))),(1,.v (.sl (.int .i64)))],[],[],[],[]⟩
abbrev qcY:List (Ex×SG):=[(.exit 0,⟨[(0,.v (.sl (.int .i64)))],[],[],[],[]⟩)]
def qa8 (g:(((List Int)×(List Int)×Unit)×Unit)->Option (((List Int)×Unit)×Unit)):(((List Int)×(List Int)×Unit)×Unit)->Option (((List Int)×Unit)×Unit)
 | ((a_0,b_1,_),_)=>bif (decide ((b_1.length:Int)>0)) then ((qdK a_0 b_1).bind fun r1=>g ((b_1,r1.2,()),())) else (some ((a_0,()),()))
def qcy (a_0:List Int) (b_1:List Int):Option (List Int) :=
 (lp qa8 K0 ((a_0,b_1,()),())).bind fun t2=>some t2.1.1
def c90:Ctr:=⟨[((.sl (.int .i64)),.imm),((.sl (.int .i64)),.imm)],[((.sl (.int .i64)),false)],(List Int),fun x=>qcy x.1 x.2.1,fun r=>((),(r,())),none⟩
def qdf (a_0:RAT):Option Bool :=
 (qcu a_0.1.2).bind fun r1=>bif (!r1) then (some false) else ((qcu a_0.2).bind fun r2=>bif (!r2) then (some false) else (bif (decide ((a_0.2.length:Int)=0)) then (some false) else (bif (decide ((a_0.1.2.length:Int)=0)) then (bif a_0.1.1 then (some false) else ((qaE a_0.1.2).bind fun r3=>(qaE a_0.2).bind fun r4=>(qcy r3 r4).bind fun r5=>(qam 1).bind fun r6=>(qaj r5 r6).bind fun r7=>some (decide (r7=0)))) else ((qaE a_0.1.2).bind fun r8=>(qaE a_0.2).bind fun r9=>(qcy r8 r9).bind fun r10=>(qam 1).bind fun r11=>(qaj r10 r11).bind fun r12=>some (decide (r12=0))))))
def c67:Ctr:=⟨[(tRAT,.imm)],[(.bool,false)],Bool,fun x=>qdf x.1,fun r=>((),(r,())),none⟩
def qdh (a_0:Bool×List Int) (b_1:Bool×List Int):Option Int :=
 bif a_0.1 then (bif (!b_1.1) then (some (-1)) else (bif (!a_0.1) then (bif b_1.1 then (some 1) else (bif a_0.1 then ((qaj b_1.2 a_0.2).bind fun r1=>some r1) else ((qaj a_0.2 b_1.2).bind fun r2=>some r2))) else (bif a_0.1 then ((qaj b_1.2 a_0.2).bind fun r3=>some r3) else ((qaj a_0.2 b_1.2).bind fun r4=>some r4)))) else (bif (!a_0.1) then (bif b_1.1 then (some 1) else (bif a_0.1 then ((qaj b_1.2 a_0.2).bind fun r5=>some r5) else ((qaj a_0.2 b_1.2).bind fun r6=>some r6))) else (bif a_0.1 then ((qaj b_1.2 a_0.2).bind fun r7=>some r7) else ((qaj a_0.2 b_1.2).bind fun r8=>some r8)))
def c93:Ctr:=⟨[((.pair .bool (.sl (.int .i64))),.imm),((.pair .bool (.sl (.int .i64))),.imm)],[((.int .i64),false)],Int,fun x=>qdh x.1 x.2.1,fun r=>((),(r,())),none⟩
def qct (a_0:Bool×List Int) (b_1:Bool×List Int):Option (Bool×List Int) :=
 (qbh a_0.2 b_1.2).bind fun r1=>(qbx (!(a_0.1 == b_1.1)) r1).bind fun r2=>some r2
def c94:Ctr:=⟨[((.pair .bool (.sl (.int .i64))),.imm),((.pair .bool (.sl (.int .i64))),.imm)],[((.pair .bool (.sl (.int .i64))),false)],(Bool×List Int),fun x=>qct x.1 x.2.1,fun r=>((),(r,())),none⟩
def qd1 (a_0:(Bool×List Int)×List Int):Option (Bool×List Int) :=
 (qbx false a_0.2).bind fun r1=>some r1
def c95:Ctr:=⟨[((.pair (.pair .bool (.sl (.int .i64))) (.sl (.int .i64))),.imm)],[((.pair .bool (.sl (.int .i64))),false)],(Bool×List Int),fun x=>qd1 x.1,fun r=>((),(r,())),none⟩
def qdg (a_0:(Bool×List Int)×List Int) (b_1:(Bool×List Int)×List Int):Option Int :=
 (qd1 b_1).bind fun r1=>(qct a_0.1 r1).bind fun r2=>(qd1 a_0).bind fun r3=>(qct b_1.1 r3).bind fun r4=>(qdh r2 r4).bind fun r5=>some r5
def c68:Ctr:=⟨[((.pair (.pair .bool (.sl (.int .i64))) (.sl (.int .i64))),.imm),((.pair (.pair .bool (.sl (.int .i64))) (.sl (.int .i64))),.imm)],[((.int .i64),false)],Int,fun x=>qdg x.1 x.2.1,fun r=>((),(r,())),none⟩
def qgi (a_0:RAT) (x_1:(Bool×List Int)×List Int):Option Bool :=
 (qdf a_0).bind fun r1=>bif r1 then ((qbw a_0).bind fun r2=>(qdg r2 x_1).bind fun r3=>some (decide (r3=0))) else (some false)
def c46:Ctr:=⟨[(tRAT,.imm),((.pair (.pair .bool (.sl (.int .i64))) (.sl (.int .i64))),.imm)],[(.bool,false)],Bool,fun x=>qgi x.1 x.2.1,fun r=>((),(r,())),none⟩
def qcW (a_0:RAT) (b_1:RAT):Option Bool :=
 (qbw b_1).bind fun r1=>(qgi a_0 r1).bind fun r2=>some r2
def c17:Ctr:=⟨[(tRAT,.imm),(tRAT,.imm)],[(.bool,false)],Bool,fun x=>qcW x.1 x.2.1,fun r=>((),(r,())),none⟩
abbrev qbj:SG:=⟨[(0,.p 256 0 0),(3,.o qea 31),(12,.v (.int .i64)),(13,.v (.int .i64))],[(256,[.o (.pair (.int .i64) (.pair tRAT qax)) 1256])],[(11,(256,0))],[],[]⟩
abbrev qb4:List (Ex×SG):=[(.exit 0,⟨[(0,.p 256 0 0),(3,.o qea 31)],[(256,[.o (.pair (.int .i64) (.pair tRAT qax)) 1256])],[],[],[]⟩)]
abbrev qfG:=(((List PART)×Int×Int×Unit)×(((List (Int×RAT×CELL))×Unit)×Unit))
abbrev qfF:=(((List PART)×Unit)×(((List (Int×RAT×CELL))×Unit)×Unit))
def qaz (g:qfG->Option qfF):qfG->Option qfF
 | ((out_3,v_12,v_13,_),((b256_0,_),_))=>bif (decide (v_13<v_12)) then (bif decide (0<=v_13)&&decide (v_13<(b256_0.length:Int)) then (b256_0[v_13.toNat]?).bind fun x1=>bif (decide (v_13>0)) then (bif Nat.ble ((out_3.length+1)*72) 140737488355328&&!false then g (((out_3++([(x1.1,(x1.2.1,x1.2.2.1))]:List PART)),v_12,(iadd .i64 v_13 1),()),((b256_0,()),())) else none) else (g ((out_3,v_12,(iadd .i64 v_13 1),()),((b256_0,()),()))) else none) else (some ((out_3,()),((b256_0,()),())))
def qbo (b_0:List (Int×RAT×CELL)):Option ((List PART)×(List (Int×RAT×CELL))) :=
 (lp qaz K0 (([],(b_0.length:Int),0,()),((b_0,()),()))).bind fun t2=>some (t2.1.1,t2.2.1.1)
abbrev w27:Wir:=⟨[.b],[[.x]],1,none,[],[],0⟩
def c27:Ctr:=⟨[((.sl (.pair (.int .i64) (.pair tRAT qax))),.own)],[((.sl qea),true),((.sl (.pair (.int .i64) (.pair tRAT qax))),true)],(List PART)×(List (Int×RAT×CELL)),fun x=>qbo x.1,fun r=>((),(r.1,r.2,())),some w27⟩
def qdI (b_0:List (Int×RAT×CELL)):Option (Int×(List (Int×RAT×CELL))) :=
 bif (decide ((b_0.length:Int)=0)) then (some (0,b_0)) else (some ((isub .i64 (b_0.length:Int) 1),b_0))
abbrev w28:Wir:=⟨[.b],[[.x]],1,none,[],[],0⟩
def c28:Ctr:=⟨[((.sl (.pair (.int .i64) (.pair tRAT qax))),.own)],[((.int .i64),false),((.sl (.pair (.int .i64) (.pair tRAT qax))),true)],Int×(List (Int×RAT×CELL)),fun x=>qdI x.1,fun r=>((),(r.1,r.2,())),some w28⟩
abbrev qb8:SG:=⟨[(0,.v (.sl tRAT)),(1,.v (.sl tRAT)),(5,.v (.int .i64))],[],[],[],[]⟩
abbrev qcX:List (Ex×SG):=[(.exit 0,⟨[],[],[],[],[]⟩),(.ret,⟨[(4,.v .bool)],[],[],[],[]⟩)]
def qaU (g:(((List RAT)×(List RAT)×Int×Unit)×Unit)->Option ((Unit×Unit) ⊕ ((Bool×Unit)×Unit))):(((List RAT)×(List RAT)×Int×Unit)×Unit)->Option ((Unit×Unit) ⊕ ((Bool×Unit)×Unit))
 | ((a_0,b_1,i_5,_),_)=>bif (decide (i_5<(a_0.length:Int))) then (bif decide (0<=i_5) then (a_0[i_5.toNat]?).bind fun x1=>bif decide (0<=i_5) then (b_1[i_5.toNat]?).bind fun x2=>(qcW x1 x2).bind fun r3=>bif (!r3) then (some (.inr ((false,()),()))) else (g ((a_0,b_1,(iadd .i64 i_5 1),()),())) else none else none) else (some (.inl ((()),())))
def qc5 (a_0:List RAT) (b_1:List RAT):Option Bool :=
 bif (!decide ((a_0.length:Int)=(b_1.length:Int))) then (some false) else ((lp qaU K0 ((a_0,b_1,0,()),())).bind fun t4=>(match t4 with | .inl t5=>some true | .inr t6=>some t6.1.1))
def c29:Ctr:=⟨[((.sl tRAT),.imm),((.sl tRAT),.imm)],[(.bool,false)],Bool,fun x=>qc5 x.1 x.2.1,fun r=>((),(r,())),none⟩
abbrev qa5:SG:=⟨[(0,.p 192 0 0),(3,.o tRAT 31),(12,.v (.int .i64)),(13,.v (.int .i64))],[(192,[.o (.pair (.int .i64) (.pair tRAT qax)) 1192])],[(11,(192,0))],[],[]⟩
abbrev qbs:List (Ex×SG):=[(.exit 0,⟨[(0,.p 192 0 0),(3,.o tRAT 31)],[(192,[.o (.pair (.int .i64) (.pair tRAT qax)) 1192])],[],[],[]⟩)]
abbrev qeX:=(((List RAT)×Int×Int×Unit)×(((List (Int×RAT×CELL))×Unit)×Unit))
abbrev qeW:=(((List RAT)×Unit)×(((List (Int×RAT×CELL))×Unit)×Unit))
def qap (g:qeX->Option qeW):qeX->Option qeW
 | ((out_3,v_12,v_13,_),((b192_0,_),_))=>bif (decide (v_13<v_12)) then (bif decide (0<=v_13)&&decide (v_13<(b192_0.length:Int)) then (b192_0[v_13.toNat]?).bind fun x1=>bif Nat.ble ((out_3.length+1)*56) 140737488355328&&!false then g (((out_3++([x1.2.2.2]:List RAT)),v_12,(iadd .i64 v_13 1),()),((b192_0,()),())) else none else none) else (some ((out_3,()),((b192_0,()),())))
def qcd (b_0:List (Int×RAT×CELL)):Option ((List RAT)×(List (Int×RAT×CELL))) :=
 (lp qap K0 (([],(b_0.length:Int),0,()),((b_0,()),()))).bind fun t2=>some (t2.1.1,t2.2.1.1)
abbrev w30:Wir:=⟨[.b],[[.x]],1,none,[],[],0⟩
def c30:Ctr:=⟨[((.sl (.pair (.int .i64) (.pair tRAT qax))),.own)],[((.sl tRAT),true),((.sl (.pair (.int .i64) (.pair tRAT qax))),true)],(List RAT)×(List (Int×RAT×CELL)),fun x=>qcd x.1,fun r=>((),(r.1,r.2,())),some w30⟩
abbrev qbk:SG:=⟨[(0,.p 680 0 0),(1,.v (.sl qea)),(5,.o qea 47),(6,.v (.int .i64))],[(680,[.o (.pair (.int .i64) (.pair tRAT qax)) 1680])],[],[],[]⟩
abbrev qb6:List (Ex×SG):=[(.exit 0,⟨[(0,.p 680 0 0)],[(680,[.o (.pair (.int .i64) (.pair tRAT qax)) 1680])],[],[],[]⟩),(.ret,⟨[(0,.p 680 0 0),(4,.v .bool)],[(680,[.o (.pair (.int .i64) (.pair tRAT qax)) 1680])],[],[],[]⟩)]
abbrev qfT:=(((List PART)×(List PART)×Int×Unit)×(((List (Int×RAT×CELL))×Unit)×Unit))
abbrev qfS:=((Unit×(((List (Int×RAT×CELL))×Unit)×Unit)) ⊕ ((Bool×Unit)×(((List (Int×RAT×CELL))×Unit)×Unit)))
def qaA (g:qfT->Option qfS):qfT->Option qfS
 | ((v_1,v_5,v_6,_),((b680_0,_),_))=>bif (decide (v_6<(v_5.length:Int))) then (bif decide (0<=v_6)&&decide (v_6<(v_5.length:Int)) then (v_5[v_6.toNat]?).bind fun x6=>bif decide (0<=v_6) then (v_1[v_6.toNat]?).bind fun x7=>bif (!decide (x6.1=x7.1)) then (some (.inr ((false,()),((b680_0,()),())))) else (bif decide (0<=v_6)&&decide (v_6<(v_5.length:Int)) then (v_5[v_6.toNat]?).bind fun x8=>bif decide (0<=v_6) then (v_1[v_6.toNat]?).bind fun x9=>bif (!(x8.2.2 == x9.2.2)) then (some (.inr ((false,()),((b680_0,()),())))) else (bif decide (0<=v_6)&&decide (v_6<(v_5.length:Int)) then (v_5[v_6.toNat]?).bind fun x10=>bif decide (0<=v_6) then (v_1[v_6.toNat]?).bind fun x11=>(qcW x10.2.1 x11.2.1).bind fun r12=>bif (!r12) then (some (.inr ((false,()),((b680_0,()),())))) else (bif decide (0<=v_6) then (v_1[v_6.toNat]?).bind fun x13=>(qaP x13.1 b680_0).bind fun r14=>bif (!decide (r14.1=(iadd .i64 v_6 1))) then (some (.inr ((false,()),((r14.2,()),())))) else (g ((v_1,v_5,(iadd .i64 v_6 1),()),((r14.2,()),()))) else none) else none else none) else none else none) else none else none) else (some (.inl ((()),((b680_0,()),()))))
def qc0 (a_0:List PART) (b_1:List (Int×RAT×CELL)):Option (Bool×(List (Int×RAT×CELL))) :=
 (qbo b_1).bind fun r1=>(qdI r1.2).bind fun r2=>bif (!decide (r2.1=(a_0.length:Int))) then (some (false,r2.2)) else (bif (!decide ((r1.1.length:Int)=(a_0.length:Int))) then (some (false,r2.2)) else ((qcd r2.2).bind fun r3=>(qcH a_0).bind fun r4=>(qc5 r3.1 r4).bind fun r5=>bif (!r5) then (some (false,r3.2)) else ((lp qaA K0 ((a_0,r1.1,0,()),((r3.2,()),()))).bind fun t15=>(match t15 with | .inl t16=>some (true,t16.2.1.1) | .inr t17=>some (t17.1.1,t17.2.1.1)))))
abbrev w10:Wir:=⟨[.b,.x],[[.x]],1,none,[],[],0⟩
def c10:Ctr:=⟨[((.sl qea),.imm),((.sl (.pair (.int .i64) (.pair tRAT qax))),.own)],[(.bool,false),((.sl (.pair (.int .i64) (.pair tRAT qax))),true)],Bool×(List (Int×RAT×CELL)),fun x=>qc0 x.1 x.2.1,fun r=>((),(r.1,r.2,())),some w10⟩
abbrev qeR:SG:=⟨[(22,.v (.sl (.sl qc8))),(23,.v (.int .i64)),(24,.v (.int .i64)),(36,.v (.sl qc8)),(37,.v (.int .i64)),(38,.v (.int .i64))],[],[],[],[]⟩
abbrev qgc:List (Ex×SG):=[(.exit 2,⟨[(22,.v (.sl (.sl qc8))),(23,.v (.int .i64)),(24,.v (.int .i64))],[],[],[],[]⟩),(.ret,⟨[(2,.v .bool)],[],[],[],[]⟩)]
abbrev qkm:=(((List (List NODE))×Int×Int×(List NODE)×Int×Int×Unit)×Unit)
abbrev qkl:=((((List (List NODE))×Int×Int×Unit)×Unit) ⊕ ((Bool×Unit)×Unit))
def qga (g:qkm->Option qkl):qkm->Option qkl
 | ((v_22,v_23,v_24,v_36,v_37,v_38,_),_)=>bif (decide (v_38<v_37)) then (bif decide (0<=v_38) then (v_36[v_38.toNat]?).bind fun x2=>bif (decide (x2.2.1<0)) then (some (.inr ((false,()),()))) else (bif (decide (x2.2.1>64)) then (some (.inr ((false,()),()))) else (bif (decide (x2.2.2.2.1<0)) then (some (.inr ((false,()),()))) else (bif (decide (x2.2.2.2.1>255)) then (some (.inr ((false,()),()))) else (bif (decide (x2.2.2.2.2.1<0)) then (some (.inr ((false,()),()))) else (bif (decide (x2.2.2.2.2.1>255)) then (some (.inr ((false,()),()))) else (g ((v_22,v_23,v_24,v_36,v_37,(iadd .i64 v_38 1),()),()))))))) else none) else (some (.inl ((v_22,v_23,v_24,()),())))
abbrev qeS:SG:=⟨[(22,.v (.sl (.sl qc8))),(23,.v (.int .i64)),(24,.v (.int .i64))],[],[],[],[]⟩
abbrev qgd:List (Ex×SG):=[(.exit 0,⟨[],[],[],[],[]⟩),(.ret,⟨[(2,.v .bool)],[],[],[],[]⟩)]
def qgb (g:(((List (List NODE))×Int×Int×Unit)×Unit)->Option ((Unit×Unit) ⊕ ((Bool×Unit)×Unit))):(((List (List NODE))×Int×Int×Unit)×Unit)->Option ((Unit×Unit) ⊕ ((Bool×Unit)×Unit))
 | ((v_22,v_23,v_24,_),_)=>bif (decide (v_24<v_23)) then (bif decide (0<=v_24) then (v_22[v_24.toNat]?).bind fun x1=>bif (decide ((x1.length:Int)<1)) then (some (.inr ((false,()),()))) else (bif (decide ((x1.length:Int)>255)) then (some (.inr ((false,()),()))) else ((lp qga K0 ((v_22,v_23,v_24,x1,(x1.length:Int),0,()),())).bind fun t3=>(match t3 with | .inl t4=>g ((t4.1.1,t4.1.2.1,(iadd .i64 t4.1.2.2.1 1),()),()) | .inr t5=>some (.inr ((t5.1.1,()),()))))) else none) else (some (.inl ((()),())))
def qnm (a_0:qmZ):Option Bool :=
 bif (decide (a_0.1<0)) then (some false) else (bif (decide (a_0.1>64)) then (some false) else (bif (decide ((a_0.2.length:Int)>64)) then (some false) else ((lp qgb K0 ((a_0.2,(a_0.2.length:Int),0,()),())).bind fun t6=>(match t6 with | .inl t7=>some true | .inr t8=>some t8.1.1))))
def c123:Ctr:=⟨[(qnI,.imm)],[(.bool,false)],Bool,fun x=>qnm x.1,fun r=>((),(r,())),none⟩
abbrev qdy:SG:=⟨[(0,.v (.sl qc8)),(1,.v (.int .i64)),(8,.v (.sl qc8)),(9,.v (.int .i64)),(10,.v (.int .i64))],[],[],[],[]⟩
abbrev qeo:List (Ex×SG):=[(.exit 0,⟨[],[],[],[],[]⟩),(.ret,⟨[(4,.v (.int .i64)),(5,.v (.int .i64))],[],[],[],[]⟩)]
abbrev qip:=(((List NODE)×Int×(List NODE)×Int×Int×Unit)×Unit)
abbrev qio:=((Unit×Unit) ⊕ ((Int×Int×Unit)×Unit))
def qen (g:qip->Option qio):qip->Option qio
 | ((t_0,features_1,v_8,v_9,v_10,_),_)=>bif (decide (v_10<v_9)) then (bif decide (0<=v_10) then (v_8[v_10.toNat]?).bind fun x1=>bif x1.1 then (g ((t_0,features_1,v_8,v_9,(iadd .i64 v_10 1),()),())) else (bif (decide (x1.2.1<0)) then (some (.inr ((v_10,8,()),()))) else (bif (decide (x1.2.1>=features_1)) then (some (.inr ((v_10,8,()),()))) else (bif (decide (x1.2.2.2.1<1)) then (some (.inr ((v_10,8,()),()))) else (bif (decide (x1.2.2.2.1>=(t_0.length:Int))) then (some (.inr ((v_10,8,()),()))) else (bif (decide (x1.2.2.2.2.1<1)) then (some (.inr ((v_10,8,()),()))) else (bif (decide (x1.2.2.2.2.1>=(t_0.length:Int))) then (some (.inr ((v_10,8,()),()))) else (g ((t_0,features_1,v_8,v_9,(iadd .i64 v_10 1),()),())))))))) else none) else (some (.inl ((()),())))
def qjQ (t_0:List NODE) (features_1:Int):Option (Int×Int) :=
 (lp qen K0 ((t_0,features_1,t_0,(t_0.length:Int),0,()),())).bind fun t2=>(match t2 with | .inl t3=>some (0,0) | .inr t4=>some (t4.1.1,t4.1.2.1))
def c124:Ctr:=⟨[((.sl qc8),.imm),((.int .i64),.imm)],[((.int .i64),false),((.int .i64),false)],Int×Int,fun x=>qjQ x.1 x.2.1,fun r=>((),(r.1,r.2,())),none⟩
abbrev qd6:SG:=⟨[(0,.v (.sl qc8)),(4,.o (.int .i64) 39),(18,.v (.sl qc8)),(19,.v (.int .i64)),(20,.v (.int .i64))],[],[],[],[]⟩
abbrev qe7:List (Ex×SG):=[(.exit 0,⟨[(0,.v (.sl qc8)),(4,.o (.int .i64) 39)],[],[],[],[]⟩)]
abbrev qjw:=(((List NODE)×(List Int)×(List NODE)×Int×Int×Unit)×Unit)
abbrev qjv:=(((List NODE)×(List Int)×Unit)×Unit)
def qe6 (g:qjw->Option qjv):qjw->Option qjv
 | ((v_0,v_4,v_18,v_19,v_20,_),_)=>bif (decide (v_20<v_19)) then (bif decide (0<=v_20) then (v_18[v_20.toNat]?).bind fun x1=>bif (!x1.1) then (bif decide (0<=x1.2.2.2.1)&&decide (x1.2.2.2.1<(v_4.length:Int)) then (v_4[x1.2.2.2.1.toNat]?).bind fun x2=>bif decide (0<=x1.2.2.2.1)&&decide (x1.2.2.2.1<(v_4.length:Int)) then (v_4[x1.2.2.2.1.toNat]?).bind fun _=>bif decide (0<=x1.2.2.2.2.1)&&decide (x1.2.2.2.2.1<((v_4.set x1.2.2.2.1.toNat (iadd .i64 x2 1)).length:Int)) then ((v_4.set x1.2.2.2.1.toNat (iadd .i64 x2 1))[x1.2.2.2.2.1.toNat]?).bind fun x4=>bif decide (0<=x1.2.2.2.2.1)&&decide (x1.2.2.2.2.1<((v_4.set x1.2.2.2.1.toNat (iadd .i64 x2 1)).length:Int)) then ((v_4.set x1.2.2.2.1.toNat (iadd .i64 x2 1))[x1.2.2.2.2.1.toNat]?).bind fun _=>g ((v_0,((v_4.set x1.2.2.2.1.toNat (iadd .i64 x2 1)).set x1.2.2.2.2.1.toNat (iadd .i64 x4 1)),v_18,v_19,(iadd .i64 v_20 1),()),()) else none else none else none else none) else (g ((v_0,v_4,v_18,v_19,(iadd .i64 v_20 1),()),())) else none) else (some ((v_0,v_4,()),()))
abbrev qdx:SG:=⟨[(0,.v (.sl qc8)),(42,.o (.int .i64) 343),(43,.v (.int .i64)),(44,.v (.int .i64))],[],[],[],[]⟩
abbrev qem:List (Ex×SG):=[(.exit 2,⟨[(0,.v (.sl qc8))],[],[],[],[]⟩),(.ret,⟨[(2,.v (.int .i64)),(3,.v (.int .i64))],[],[],[],[]⟩)]
def qej (g:(((List NODE)×(List Int)×Int×Int×Unit)×Unit)->Option ((((List NODE)×Unit)×Unit) ⊕ ((Int×Int×Unit)×Unit))):(((List NODE)×(List Int)×Int×Int×Unit)×Unit)->Option ((((List NODE)×Unit)×Unit) ⊕ ((Int×Int×Unit)×Unit))
 | ((v_0,v_42,v_43,v_44,_),_)=>bif (decide (v_44<v_43)) then (bif decide (0<=v_44)&&decide (v_44<(v_42.length:Int)) then (v_42[v_44.toNat]?).bind fun x7=>bif (decide (v_44>0)) then (bif (!decide (x7=1)) then (some (.inr ((v_44,11,()),()))) else (g ((v_0,v_42,v_43,(iadd .i64 v_44 1),()),()))) else (g ((v_0,v_42,v_43,(iadd .i64 v_44 1),()),())) else none) else (some (.inl ((v_0,()),())))
abbrev qdw:SG:=⟨[(0,.v (.sl qc8)),(9,.o .bool 79),(10,.o (.int .i64) 87)],[],[],[],[]⟩
abbrev qel:List (Ex×SG):=[(.exit 4,⟨[(9,.o .bool 79)],[],[],[],[]⟩)]
def qei (g:(((List NODE)×(List Bool)×(List Int)×Unit)×Unit)->Option (((List Bool)×Unit)×Unit)):(((List NODE)×(List Bool)×(List Int)×Unit)×Unit)->Option (((List Bool)×Unit)×Unit)
 | ((v_0,v_9,v_10,_),_)=>bif (decide ((v_10.length:Int)>0)) then (bif decide (0<=(isub .i64 (v_10.length:Int) 1))&&decide ((isub .i64 (v_10.length:Int) 1)<(v_10.length:Int)) then (v_10[(isub .i64 (v_10.length:Int) 1).toNat]?).bind fun x11=>bif decide ((0:Int)<=(isub .i64 (v_10.length:Int) 1))&&decide (((isub .i64 (v_10.length:Int) 1):Int)<=(isub .i64 (v_10.length:Int) 1))&&decide (((isub .i64 (v_10.length:Int) 1):Int)<=(v_10.length:Int)) then bif decide (0<=x11)&&decide (x11<(v_9.length:Int)) then (v_9[x11.toNat]?).bind fun _=>bif decide (0<=x11) then (v_0[x11.toNat]?).bind fun x13=>bif (!x13.1) then (bif Nat.ble (((v_10.take (((isub .i64 (v_10.length:Int) 1)-0).toNat)).length+2)*8) 140737488355328&&!false then g ((v_0,(v_9.set x11.toNat true),((v_10.take (((isub .i64 (v_10.length:Int) 1)-0).toNat))++([x13.2.2.2.1,x13.2.2.2.2.1]:List Int)),()),()) else none) else (g ((v_0,(v_9.set x11.toNat true),(v_10.take (((isub .i64 (v_10.length:Int) 1)-0).toNat)),()),())) else none else none else none else none) else (some ((v_9,()),()))
abbrev qdv:SG:=⟨[(92,.o .bool 743),(93,.v (.int .i64)),(94,.v (.int .i64))],[],[],[],[]⟩
abbrev qek:List (Ex×SG):=[(.exit 6,⟨[],[],[],[],[]⟩),(.ret,⟨[(2,.v (.int .i64)),(3,.v (.int .i64))],[],[],[],[]⟩)]
def qeh (g:(((List Bool)×Int×Int×Unit)×Unit)->Option ((Unit×Unit) ⊕ ((Int×Int×Unit)×Unit))):(((List Bool)×Int×Int×Unit)×Unit)->Option ((Unit×Unit) ⊕ ((Int×Int×Unit)×Unit))
 | ((v_92,v_93,v_94,_),_)=>bif (decide (v_94<v_93)) then (bif decide (0<=v_94)&&decide (v_94<(v_92.length:Int)) then (v_92[v_94.toNat]?).bind fun x15=>bif (!x15) then (some (.inr ((v_94,11,()),()))) else (g ((v_92,v_93,(iadd .i64 v_94 1),()),())) else none) else (some (.inl ((()),())))
def qlM (a_0:List NODE):Option (Int×Int) :=
 bif decide ((a_0.length:Int)=(a_0.length:Int))&&decide (0<=(a_0.length:Int))&&decide (((8:Nat):Int)*(a_0.length:Int)<=281474976710656)&&decide ((a_0.length:Int)<=9223372036854775807) then (lp qe6 K0 ((a_0,(List.replicate (a_0.length:Int).toNat (0:Int)),a_0,(a_0.length:Int),0,()),())).bind fun t6=>(lp qej K0 ((t6.1.1,t6.1.2.1,(t6.1.2.1.length:Int),0,()),())).bind fun t8=>(match t8 with | .inl t9=>bif decide ((t9.1.1.length:Int)=(t9.1.1.length:Int))&&decide (0<=(t9.1.1.length:Int))&&decide (((1:Nat):Int)*(t9.1.1.length:Int)<=281474976710656)&&decide ((t9.1.1.length:Int)<=9223372036854775807) then (lp qei K0 ((t9.1.1,(List.replicate (t9.1.1.length:Int).toNat (false:Bool)),([0]:List Int),()),())).bind fun t14=>(lp qeh K0 ((t14.1.1,(t14.1.1.length:Int),0,()),())).bind fun t16=>(match t16 with | .inl t17=>some (0,0) | .inr t18=>some (t18.1.1,t18.1.2.1)) else none | .inr t10=>some (t10.1.1,t10.1.2.1)) else none
def c125:Ctr:=⟨[((.sl qc8),.imm)],[((.int .i64),false),((.int .i64),false)],Int×Int,fun x=>qlM x.1,fun r=>((),(r.1,r.2,())),none⟩
abbrev qdz:SG:=⟨[(6,.v (.sl qc8)),(7,.v (.int .i64)),(8,.v (.int .i64))],[],[],[],[]⟩
abbrev qeq:List (Ex×SG):=[(.exit 0,⟨[],[],[],[],[]⟩),(.ret,⟨[(2,.v (.int .i64)),(3,.v (.int .i64))],[],[],[],[]⟩)]
def qep (g:(((List NODE)×Int×Int×Unit)×Unit)->Option ((Unit×Unit) ⊕ ((Int×Int×Unit)×Unit))):(((List NODE)×Int×Int×Unit)×Unit)->Option ((Unit×Unit) ⊕ ((Int×Int×Unit)×Unit))
 | ((v_6,v_7,v_8,_),_)=>bif (decide (v_8<v_7)) then (bif decide (0<=v_8) then (v_6[v_8.toNat]?).bind fun x1=>(qfD x1.2.2.2.2.2.2.2).bind fun r2=>bif (decide (r2<=0)) then (some (.inr ((v_8,12,()),()))) else (g ((v_6,v_7,(iadd .i64 v_8 1),()),())) else none) else (some (.inl ((()),())))
def qjR (t_0:List NODE):Option (Int×Int) :=
 (lp qep K0 ((t_0,(t_0.length:Int),0,()),())).bind fun t3=>(match t3 with | .inl t4=>some (0,0) | .inr t5=>some (t5.1.1,t5.1.2.1))
def c126:Ctr:=⟨[((.sl qc8),.imm)],[((.int .i64),false),((.int .i64),false)],Int×Int,fun x=>qjR x.1,fun r=>((),(r.1,r.2,())),none⟩
def qop (a_0:WH) (b_1:WH):Option Int :=
 (qbm a_0).bind fun r1=>(qbm b_1).bind fun r2=>bif (!(r1.1 == r2.1)) then (bif r1.1 then (some (-1)) else (bif (!(r1.1 == r2.1)) then (some 1) else (bif r1.1 then ((qig r2.2 r1.2).bind fun r3=>some r3) else ((qig r1.2 r2.2).bind fun r4=>some r4)))) else (bif (!(r1.1 == r2.1)) then (some 1) else (bif r1.1 then ((qig r2.2 r1.2).bind fun r5=>some r5) else ((qig r1.2 r2.2).bind fun r6=>some r6)))
def c76:Ctr:=⟨[(tWH,.imm),(tWH,.imm)],[((.int .i64),false)],Int,fun x=>qop x.1 x.2.1,fun r=>((),(r,())),none⟩
def qmq (a_0:RAT) (b_1:RAT):Option Int :=
 (qbn a_0).bind fun r1=>(qbn b_1).bind fun r2=>(qf3 r2).bind fun r3=>(qds r1.1 r3).bind fun r4=>(qf3 r1).bind fun r5=>(qds r2.1 r5).bind fun r6=>(qop r4 r6).bind fun r7=>some r7
def c56:Ctr:=⟨[(tRAT,.imm),(tRAT,.imm)],[((.int .i64),false)],Int,fun x=>qmq x.1 x.2.1,fun r=>((),(r,())),none⟩
def qk7 (a_0:RAT) (b_1:RAT):Option Bool :=
 (qmq a_0 b_1).bind fun r1=>some (decide (r1=0))
def c32:Ctr:=⟨[(tRAT,.imm),(tRAT,.imm)],[(.bool,false)],Bool,fun x=>qk7 x.1 x.2.1,fun r=>((),(r,())),none⟩
abbrev qeJ:SG:=⟨[(0,.v (.sl qc8)),(6,.v (.sl qc8)),(7,.v (.int .i64)),(8,.v (.int .i64))],[],[],[],[]⟩
abbrev qfZ:List (Ex×SG):=[(.exit 0,⟨[],[],[],[],[]⟩),(.ret,⟨[(2,.v (.int .i64)),(3,.v (.int .i64))],[],[],[],[]⟩)]
def qfY (g:(((List NODE)×(List NODE)×Int×Int×Unit)×Unit)->Option ((Unit×Unit) ⊕ ((Int×Int×Unit)×Unit))):(((List NODE)×(List NODE)×Int×Int×Unit)×Unit)->Option ((Unit×Unit) ⊕ ((Int×Int×Unit)×Unit))
 | ((t_0,v_6,v_7,v_8,_),_)=>bif (decide (v_8<v_7)) then (bif decide (0<=v_8) then (v_6[v_8.toNat]?).bind fun x1=>bif (!x1.1) then (bif decide (0<=x1.2.2.2.1) then (t_0[x1.2.2.2.1.toNat]?).bind fun x2=>bif decide (0<=x1.2.2.2.2.1) then (t_0[x1.2.2.2.2.1.toNat]?).bind fun x3=>(qdC x2.2.2.2.2.2.2.2 x3.2.2.2.2.2.2.2).bind fun r4=>(qk7 x1.2.2.2.2.2.2.2 r4).bind fun r5=>bif (!r5) then (some (.inr ((v_8,13,()),()))) else (g ((t_0,v_6,v_7,(iadd .i64 v_8 1),()),())) else none else none) else (g ((t_0,v_6,v_7,(iadd .i64 v_8 1),()),())) else none) else (some (.inl ((()),())))
def qm6 (t_0:List NODE):Option (Int×Int) :=
 (lp qfY K0 ((t_0,t_0,(t_0.length:Int),0,()),())).bind fun t6=>(match t6 with | .inl t7=>some (0,0) | .inr t8=>some (t8.1.1,t8.1.2.1))
def c127:Ctr:=⟨[((.sl qc8),.imm)],[((.int .i64),false),((.int .i64),false)],Int×Int,fun x=>qm6 x.1,fun r=>((),(r.1,r.2,())),none⟩
def qfu (e_0:Int) (tree_1:Int) (node_2:Int):Option (Int×Int×Int×Int) :=
 some (e_0,(0,(tree_1,node_2)))
def c128:Ctr:=⟨[((.int .i64),.imm),((.int .i64),.imm),((.int .i64),.imm)],[((.pair (.int .i64) (.pair (.int .i64) (.pair (.int .i64) (.int .i64)))),false)],(Int×Int×Int×Int),fun x=>qfu x.1 x.2.1 x.2.2.1,fun r=>((),(r,())),none⟩
abbrev qd7:SG:=⟨[(1,.p 8 0 0),(2,.p 16 0 0),(3,.v (.int .i64)),(12,.v (.int .i64)),(16,.v (.sl (.sl qc8))),(17,.v (.int .i64)),(18,.v (.int .i64))],[(8,[.v (.int .i64),.v (.sl (.sl qc8))]),(16,[.v (.int .i64),.v (.int .i64),.v (.int .i64),.v (.int .i64)])],[],[],[]⟩
abbrev qfa:List (Ex×SG):=[(.exit 2,⟨[(1,.p 8 0 0),(2,.p 16 0 0),(12,.v (.int .i64))],[(8,[.v (.int .i64),.v (.sl (.sl qc8))]),(16,[.v (.int .i64),.v (.int .i64),.v (.int .i64),.v (.int .i64)])],[],[],[]⟩),(.ret,⟨[(2,.p 16 0 0)],[(16,[.v (.int .i64),.v (.int .i64),.v (.int .i64),.v (.int .i64)])],[],[],[]⟩)]
abbrev qjy:=((Int×Int×(List (List NODE))×Int×Int×Unit)×((Int×(List (List NODE))×Unit)×(Int×Int×Int×Int×Unit)×Unit))
abbrev qjx:=(((Int×Unit)×((Int×(List (List NODE))×Unit)×(Int×Int×Int×Int×Unit)×Unit)) ⊕ (Unit×((Int×Int×Int×Int×Unit)×Unit)))
def qe8 (g:qjy->Option qjx):qjy->Option qjx
 | ((rule_3,v_12,v_16,v_17,v_18,_),((b8_0,b8_1,_),(b16_0,b16_1,b16_2,b16_3,_),_))=>bif (decide (v_18<v_17)) then (bif decide (0<=v_18) then (v_16[v_18.toNat]?).bind fun x2=>bif (decide (rule_3=0)) then ((qjQ x2 b8_0).bind fun r3=>bif (!decide (r3.2=0)) then ((qfu r3.2 v_18 r3.1).bind fun r4=>some (.inr ((()),((r4.1,r4.2.1,r4.2.2.1,r4.2.2.2,()),())))) else (g ((rule_3,v_12,v_16,v_17,(iadd .i64 v_18 1),()),((b8_0,b8_1,()),(b16_0,b16_1,b16_2,b16_3,()),())))) else (bif (decide (rule_3=1)) then ((qlM x2).bind fun r5=>bif (!decide (r5.2=0)) then ((qfu r5.2 v_18 r5.1).bind fun r6=>some (.inr ((()),((r6.1,r6.2.1,r6.2.2.1,r6.2.2.2,()),())))) else (g ((rule_3,v_12,v_16,v_17,(iadd .i64 v_18 1),()),((b8_0,b8_1,()),(b16_0,b16_1,b16_2,b16_3,()),())))) else (bif (decide (rule_3=2)) then ((qjR x2).bind fun r7=>bif (!decide (r7.2=0)) then ((qfu r7.2 v_18 r7.1).bind fun r8=>some (.inr ((()),((r8.1,r8.2.1,r8.2.2.1,r8.2.2.2,()),())))) else (g ((rule_3,v_12,v_16,v_17,(iadd .i64 v_18 1),()),((b8_0,b8_1,()),(b16_0,b16_1,b16_2,b16_3,()),())))) else (bif (decide (rule_3=3)) then ((qm6 x2).bind fun r9=>bif (!decide (r9.2=0)) then ((qfu r9.2 v_18 r9.1).bind fun r10=>some (.inr ((()),((r10.1,r10.2.1,r10.2.2.1,r10.2.2.2,()),())))) else (g ((rule_3,v_12,v_16,v_17,(iadd .i64 v_18 1),()),((b8_0,b8_1,()),(b16_0,b16_1,b16_2,b16_3,()),())))) else (bif (!decide ((0:Int)=0)) then ((qfu 0 v_18 0).bind fun r11=>some (.inr ((()),((r11.1,r11.2.1,r11.2.2.1,r11.2.2.2,()),())))) else (g ((rule_3,v_12,v_16,v_17,(iadd .i64 v_18 1),()),((b8_0,b8_1,()),(b16_0,b16_1,b16_2,b16_3,()),()))))))) else none) else (some (.inl ((v_12,()),((b8_0,b8_1,()),(b16_0,b16_1,b16_2,b16_3,()),()))))
abbrev qd8:SG:=⟨[(1,.p 8 0 0),(2,.p 16 0 0),(12,.v (.int .i64))],[(8,[.v (.int .i64),.v (.sl (.sl qc8))]),(16,[.v (.int .i64),.v (.int .i64),.v (.int .i64),.v (.int .i64)])],[],[],[]⟩
abbrev qfb:List (Ex×SG):=[(.exit 0,⟨[(2,.p 16 0 0)],[(16,[.v (.int .i64),.v (.int .i64),.v (.int .i64),.v (.int .i64)])],[],[],[]⟩),(.ret,⟨[(2,.p 16 0 0)],[(16,[.v (.int .i64),.v (.int .i64),.v (.int .i64),.v (.int .i64)])],[],[],[]⟩)]
abbrev qjA:=((Int×Unit)×((Int×(List (List NODE))×Unit)×(Int×Int×Int×Int×Unit)×Unit))
abbrev qjz:=((Unit×((Int×Int×Int×Int×Unit)×Unit)) ⊕ (Unit×((Int×Int×Int×Int×Unit)×Unit)))
def qe9 (g:qjA->Option qjz):qjA->Option qjz
 | ((v_12,_),((b8_0,b8_1,_),(b16_0,b16_1,b16_2,b16_3,_),_))=>bif (decide (v_12<4)) then ((lp qe8 K0 ((v_12,v_12,b8_1,(b8_1.length:Int),0,()),((b8_0,b8_1,()),(b16_0,b16_1,b16_2,b16_3,()),()))).bind fun t12=>(match t12 with | .inl t13=>g (((iadd .i64 t13.1.1 1),()),((t13.2.1.1,t13.2.1.2.1,()),(t13.2.2.1.1,t13.2.2.1.2.1,t13.2.2.1.2.2.1,t13.2.2.1.2.2.2.1,()),())) | .inr t14=>some (.inr ((()),((t14.2.1.1,t14.2.1.2.1,t14.2.1.2.2.1,t14.2.1.2.2.2.1,()),()))))) else (some (.inl ((()),((b16_0,b16_1,b16_2,b16_3,()),()))))
def qlN (m_0:qmZ):Option (Int×Int×Int×Int) :=
 (qnm m_0).bind fun r1=>bif (!r1) then (some (1,(0,(0,0)))) else ((lp qe9 K0 ((0,()),((m_0.1,m_0.2,()),(0,0,0,0,()),()))).bind fun t15=>(match t15 with | .inl t16=>some (0,(0,(0,0))) | .inr t17=>some (t17.2.1.1,(t17.2.1.2.1,(t17.2.1.2.2.1,t17.2.1.2.2.2.1)))))
def c114:Ctr:=⟨[(qnI,.imm)],[((.pair (.int .i64) (.pair (.int .i64) (.pair (.int .i64) (.int .i64)))),false)],(Int×Int×Int×Int),fun x=>qlN x.1,fun r=>((),(r,())),none⟩
def qqq (m_0:qmZ):Option Bool :=
 (qlN m_0).bind fun r1=>some (decide (r1.1=0)&&(decide (r1.2.1=0)&&(decide (r1.2.2.1=0)&&(decide (r1.2.2.2=0)&&true))))
def c100:Ctr:=⟨[(qnI,.imm)],[(.bool,false)],Bool,fun x=>qqq x.1,fun r=>((),(r,())),none⟩
def qm9 (m_0:qmZ) (row_1:List CELL):Option Int :=
 (qqq m_0).bind fun r1=>bif (!r1) then (some 1) else (bif (!decide ((row_1.length:Int)=m_0.1)) then (some 14) else (some 0))
def c73:Ctr:=⟨[(qnI,.imm),((.sl qax),.imm)],[((.int .i64),false)],Int,fun x=>qm9 x.1 x.2.1,fun r=>((),(r,())),none⟩
def qnb (m_0:qmZ) (row_1:List CELL):Option Int :=
 (qm9 m_0 row_1).bind fun r1=>some r1
def c54:Ctr:=⟨[(qnI,.imm),((.sl qax),.imm)],[((.int .i64),false)],Int,fun x=>qnb x.1 x.2.1,fun r=>((),(r,())),none⟩
abbrev qcQ:SG:=⟨[(3,.o tRAT 31),(4,.v (.int .i64)),(5,.v (.int .i64))],[],[],[],[]⟩
abbrev qdE:List (Ex×SG):=[(.exit 0,⟨[(3,.o tRAT 31)],[],[],[],[]⟩)]
def qdD (g:(((List RAT)×Int×Int×Unit)×Unit)->Option (((List RAT)×Unit)×Unit)):(((List RAT)×Int×Int×Unit)×Unit)->Option (((List RAT)×Unit)×Unit)
 | ((out_3,v_4,v_5,_),_)=>bif (decide (v_5<v_4)) then ((qeL ).bind fun r1=>bif Nat.ble ((out_3.length+1)*56) 140737488355328&&!false then g (((out_3++([r1]:List RAT)),v_4,(iadd .i64 v_5 1),()),()) else none) else (some ((out_3,()),()))
def qif (n_0:Int):Option (List RAT) :=
 (lp qdD K0 (([],n_0,0,()),())).bind fun t2=>some t2.1.1
def c74:Ctr:=⟨[((.int .i64),.imm)],[((.sl tRAT),true)],(List RAT),fun x=>qif x.1,fun r=>((),(r,())),none⟩
def qfw (b_0:Int) (b_1:Bool) (b_2:List Int) (b_3:List Int) (b_4:Int) (b_5:Bool) (b_6:List Int) (b_7:List Int) (b_8:Bool) (b_9:List (Int×RAT×CELL)):Option (Int×Bool×(List Int)×(List Int)×Int×Bool×(List Int)×(List Int)×Bool×(List (Int×RAT×CELL))) :=
 bif (decide (b_4<0)) then (some (b_0,b_1,b_2,b_3,b_4,b_5,b_6,b_7,b_8,b_9)) else ((qaP b_4 b_9).bind fun r1=>bif (decide (r1.1>0)) then ((qbo r1.2).bind fun r2=>bif decide (0<=(isub .i64 r1.1 1))&&decide ((isub .i64 r1.1 1)<(r2.1.length:Int)) then (r2.1[(isub .i64 r1.1 1).toNat]?).bind fun x3=>(qay ((b_5,b_6),b_7) x3.2.1).bind fun r4=>bif b_8 then ((qar r1.1 r2.2).bind fun r5=>(qae b_4 r4 x3.2.2 r5.2).bind fun r6=>some (b_0,b_1,b_2,b_3,b_4,b_5,b_6,b_7,b_8,r6.2)) else ((qar r1.1 r2.2).bind fun r7=>(qae b_4 r4 false r7.2).bind fun r8=>some (b_0,b_1,b_2,b_3,b_4,b_5,b_6,b_7,b_8,r8.2)) else none) else ((qae b_4 ((b_5,b_6),b_7) b_8 r1.2).bind fun r9=>some (b_0,b_1,b_2,b_3,b_4,b_5,b_6,b_7,b_8,r9.2)))
abbrev w101:Wir:=⟨[.b],[[.x,.b,.x,.x,.x,.x,.x,.x,.x,.x],[.x]],0,none,[],[],0⟩
def c101:Ctr:=⟨[((.int .i64),.imm),(.bool,.imm),((.sl (.int .u64)),.imm),((.sl (.int .u64)),.imm),((.int .i64),.imm),(.bool,.imm),((.sl (.int .u64)),.imm),((.sl (.int .u64)),.imm),(.bool,.imm),((.sl (.pair (.int .i64) (.pair tRAT qax))),.own)],[((.int .i64),false),(.bool,false),((.sl (.int .u64)),false),((.sl (.int .u64)),false),((.int .i64),false),(.bool,false),((.sl (.int .u64)),false),((.sl (.int .u64)),false),(.bool,false),((.sl (.pair (.int .i64) (.pair tRAT qax))),true)],Int×Bool×(List Int)×(List Int)×Int×Bool×(List Int)×(List Int)×Bool×(List (Int×RAT×CELL)),fun x=>qfw x.1 x.2.1 x.2.2.1 x.2.2.2.1 x.2.2.2.2.1 x.2.2.2.2.2.1 x.2.2.2.2.2.2.1 x.2.2.2.2.2.2.2.1 x.2.2.2.2.2.2.2.2.1 x.2.2.2.2.2.2.2.2.2.1,fun r=>((),(r.1,r.2.1,r.2.2.1,r.2.2.2.1,r.2.2.2.2.1,r.2.2.2.2.2.1,r.2.2.2.2.2.2.1,r.2.2.2.2.2.2.2.1,r.2.2.2.2.2.2.2.2.1,r.2.2.2.2.2.2.2.2.2,())),some w101⟩
abbrev qfC:SG:=⟨[(2,.p 16 0 0),(3,.p 24 0 0),(7,.v (.sl tRAT)),(8,.v (.int .i64)),(9,.v (.int .i64))],[(16,[.v .bool,.o (.int .u64) 18,.o (.int .u64) 19]),(24,[.v .bool,.v (.sl (.int .u64)),.v (.sl (.int .u64))])],[],[],[]⟩
abbrev qg1:List (Ex×SG):=[(.exit 0,⟨[(2,.p 16 0 0),(3,.p 24 0 0)],[(16,[.v .bool,.o (.int .u64) 18,.o (.int .u64) 19]),(24,[.v .bool,.v (.sl (.int .u64)),.v (.sl (.int .u64))])],[],[],[]⟩)]
abbrev qlE:=(((List RAT)×Int×Int×Unit)×((Bool×(List Int)×(List Int)×Unit)×(Bool×(List Int)×(List Int)×Unit)×Unit))
abbrev qlD:=(Unit×((Bool×(List Int)×(List Int)×Unit)×(Bool×(List Int)×(List Int)×Unit)×Unit))
def qg0 (g:qlE->Option qlD):qlE->Option qlD
 | ((v_7,v_8,v_9,_),((b16_0,b16_1,b16_2,_),(b24_0,b24_1,b24_2,_),_))=>bif (decide (v_9<v_8)) then (bif decide (0<=v_9) then (v_7[v_9.toNat]?).bind fun x2=>(qdC ((b24_0,b24_1),b24_2) x2).bind fun r3=>g ((v_7,v_8,(iadd .i64 v_9 1),()),((b16_0,b16_1,b16_2,()),(r3.1.1,r3.1.2,r3.2,()),())) else none) else (some ((()),((b16_0,b16_1,b16_2,()),(b24_0,b24_1,b24_2,()),())))
def qoL (l_0:List RAT):Option RAT :=
 (qeL ).bind fun r1=>(lp qg0 K0 ((l_0,(l_0.length:Int),0,()),((false,[],[],()),(r1.1.1,r1.1.2,r1.2,()),()))).bind fun t4=>some ((t4.2.2.1.1,t4.2.2.1.2.1),t4.2.2.1.2.2.1)
def c33:Ctr:=⟨[((.sl tRAT),.imm)],[(tRAT,false)],RAT,fun x=>qoL x.1,fun r=>((),(r,())),none⟩
def qgK (at_0:Int) (b_1:List (Int×RAT×CELL)):Option (RAT×Int×(List (Int×RAT×CELL))) :=
 bif (decide ((b_1.length:Int)=0)) then (some (((false,[]),[]),18,b_1)) else (bif (decide (at_0<1)) then (some (((false,[]),[]),8,b_1)) else (bif (decide (at_0>=(b_1.length:Int))) then (some (((false,[]),[]),8,b_1)) else ((qbr at_0 b_1).bind fun r1=>(qoL r1.1).bind fun r2=>some (r2,0,r1.2))))
abbrev w12:Wir:=⟨[.b,.x],[[.x]],2,none,[],[],0⟩
def c12:Ctr:=⟨[((.int .i64),.imm),((.sl (.pair (.int .i64) (.pair tRAT qax))),.own)],[(tRAT,false),((.int .i64),false),((.sl (.pair (.int .i64) (.pair tRAT qax))),true)],RAT×Int×(List (Int×RAT×CELL)),fun x=>qgK x.1 x.2.1,fun r=>((),(r.1,r.2.1,r.2.2,())),some w12⟩
abbrev qbc:SG:=⟨[(0,.p 552 0 0),(3,.p 24 0 0),(4,.p 32 0 0),(13,.p 552 0 0),(24,.o qea 199),(25,.v (.int .i64)),(26,.v (.int .i64))],[(24,[.v (.int .i64),.p 553 0 0,.v .bool,.v (.sl (.int .u64)),.v (.sl (.int .u64)),.v (.int .i64),.v .bool,.v (.sl (.int .u64)),.v (.sl (.int .u64)),.v .bool]),(32,[.v .bool,.v (.sl (.int .u64)),.v (.sl (.int .u64))]),(552,[.v (.sl qc8),.v (.sl qax),.v (.int .i64),.v .bool,.f tRAT 104,.h]),(553,[.o (.pair (.int .i64) (.pair tRAT qax)) 1572])],[],[],[]⟩
abbrev qbP:List (Ex×SG):=[(.exit 0,⟨[(0,.p 552 0 0),(13,.p 552 0 0)],[(552,[.v (.sl qc8),.v (.sl qax),.v (.int .i64),.v .bool,.f tRAT 104,.h]),(553,[.o (.pair (.int .i64) (.pair tRAT qax)) 1572])],[],[],[]⟩)]
abbrev qfh:=(((List PART)×Int×Int×Unit)×((Int×Bool×(List Int)×(List Int)×Int×Bool×(List Int)×(List Int)×Bool×Unit)×(Bool×(List Int)×(List Int)×Unit)×((List NODE)×(List CELL)×Int×Bool×(List RAT)×Unit)×((List (Int×RAT×CELL))×Unit)×Unit))
abbrev qfg:=(Unit×(((List NODE)×(List CELL)×Int×Bool×(List RAT)×Unit)×((List (Int×RAT×CELL))×Unit)×Unit))
def qbO (g:qfh->Option qfg):qfh->Option qfg
 | ((v_24,v_25,v_26,_),((b24_0,b24_2,b24_3,b24_4,b24_5,b24_6,b24_7,b24_8,b24_9,_),(b32_0,b32_1,b32_2,_),(b552_0,b552_1,b552_2,b552_3,b552_4,_),(b553_0,_),_))=>bif (decide (v_26<v_25)) then (bif decide (0<=v_26)&&decide (v_26<(v_24.length:Int)) then (v_24[v_26.toNat]?).bind fun x4=>(qgK (iadd .i64 v_26 1) b553_0).bind fun r5=>(qiw x4.2.1).bind fun r6=>bif x4.2.2 then ((qdB ).bind fun r7=>(qdC r7 r6).bind fun r8=>bif decide (0<=x4.1)&&decide (x4.1<(b552_4.length:Int)) then (b552_4[x4.1.toNat]?).bind fun x9=>(qay r5.1 r8).bind fun r10=>(qay r10 ((b32_0,b32_1),b32_2)).bind fun r11=>(qdC x9 r11).bind fun r12=>bif decide (0<=x4.1)&&decide (x4.1<(b552_4.length:Int)) then (b552_4[x4.1.toNat]?).bind fun _=>g ((v_24,v_25,(iadd .i64 v_26 1),()),((b24_0,b24_2,b24_3,b24_4,b24_5,b24_6,b24_7,b24_8,b24_9,()),(b32_0,b32_1,b32_2,()),(b552_0,b552_1,b552_2,b552_3,(b552_4.set x4.1.toNat r12),()),(r5.2.2,()),())) else none else none) else (bif decide (0<=x4.1)&&decide (x4.1<(b552_4.length:Int)) then (b552_4[x4.1.toNat]?).bind fun x14=>(qay r5.1 r6).bind fun r15=>(qay r15 ((b32_0,b32_1),b32_2)).bind fun r16=>(qdC x14 r16).bind fun r17=>bif decide (0<=x4.1)&&decide (x4.1<(b552_4.length:Int)) then (b552_4[x4.1.toNat]?).bind fun _=>g ((v_24,v_25,(iadd .i64 v_26 1),()),((b24_0,b24_2,b24_3,b24_4,b24_5,b24_6,b24_7,b24_8,b24_9,()),(b32_0,b32_1,b32_2,()),(b552_0,b552_1,b552_2,b552_3,(b552_4.set x4.1.toNat r17),()),(r5.2.2,()),())) else none else none) else none) else (some ((()),((b552_0,b552_1,b552_2,b552_3,b552_4,()),(b553_0,()),())))
def qe1 (a_0:Int) (a_1:Bool) (a_2:List Int) (a_3:List Int) (a_4:Int) (a_5:Bool) (a_6:List Int) (a_7:List Int) (a_8:Bool) (b_9:List NODE) (b_10:List CELL) (b_11:Int) (b_12:Bool) (b_13:List RAT) (b_14:List (Int×RAT×CELL)):Option ((List RAT)×(List NODE)×(List CELL)×Int×Bool×(List (Int×RAT×CELL))) :=
 bif decide (0<=a_0) then (b_9[a_0.toNat]?).bind fun x1=>(qay ((a_1,a_2),a_3) x1.2.2.2.2.2.2.1).bind fun r2=>(qbo b_14).bind fun r3=>(lp qbO K0 ((r3.1,(r3.1.length:Int),0,()),((a_0,a_1,a_2,a_3,a_4,a_5,a_6,a_7,a_8,()),(r2.1.1,r2.1.2,r2.2,()),(b_9,b_10,b_11,b_12,b_13,()),(r3.2,()),()))).bind fun t19=>(bif Nat.beq t19.2.1.2.2.2.2.1.length b_13.length then some (t19.2.1.2.2.2.2.1,()) else none).bind fun l20=>some (l20.1,t19.2.1.1,t19.2.1.2.1,t19.2.1.2.2.1,t19.2.1.2.2.2.1,t19.2.2.1.1) else none
abbrev w102:Wir:=⟨[.b,.x,.b,.x,.x,.x,.x,.x,.x,.x,.x],[[.x,.x,.x,.x,.l,.h],[.x]],0,none,[.x,.g 10],[],0⟩
def c102:Ctr:=⟨[((.int .i64),.imm),(.bool,.imm),((.sl (.int .u64)),.imm),((.sl (.int .u64)),.imm),((.int .i64),.imm),(.bool,.imm),((.sl (.int .u64)),.imm),((.sl (.int .u64)),.imm),(.bool,.imm),((.sl qc8),.imm),((.sl qax),.imm),((.int .i64),.imm),(.bool,.imm),((.sl tRAT),.lent),((.sl (.pair (.int .i64) (.pair tRAT qax))),.own)],[((.sl qc8),false),((.sl qax),false),((.int .i64),false),(.bool,false),((.sl (.pair (.int .i64) (.pair tRAT qax))),true)],(List RAT)×(List NODE)×(List CELL)×Int×Bool×(List (Int×RAT×CELL)),fun x=>qe1 x.1 x.2.1 x.2.2.1 x.2.2.2.1 x.2.2.2.2.1 x.2.2.2.2.2.1 x.2.2.2.2.2.2.1 x.2.2.2.2.2.2.2.1 x.2.2.2.2.2.2.2.2.1 x.2.2.2.2.2.2.2.2.2.1 x.2.2.2.2.2.2.2.2.2.2.1 x.2.2.2.2.2.2.2.2.2.2.2.1 x.2.2.2.2.2.2.2.2.2.2.2.2.1 x.2.2.2.2.2.2.2.2.2.2.2.2.2.1 x.2.2.2.2.2.2.2.2.2.2.2.2.2.2.1,fun r=>((r.1,()),(r.2.1,r.2.2.1,r.2.2.2.1,r.2.2.2.2.1,r.2.2.2.2.2,())),some w102⟩
def qoN (a_0:RAT) (b_1:RAT):Option (RAT×Int) :=
 (qix b_1).bind fun r1=>bif (!decide (r1.2=0)) then (some (((false,[]),[]),r1.2)) else ((qay a_0 r1.1).bind fun r2=>some (r2,0))
def c115:Ctr:=⟨[(tRAT,.imm),(tRAT,.imm)],[(tRAT,false),((.int .i64),false)],RAT×Int,fun x=>qoN x.1 x.2.1,fun r=>((),(r.1,r.2,())),none⟩
def qm8 (n_0:NODE) (c_1:CELL):Option Bool :=
 bif c_1.1 then (some n_0.2.2.2.2.2.1) else ((qmq c_1.2 n_0.2.2.1).bind fun r1=>some (decide (r1<0)))
def c129:Ctr:=⟨[(qc8,.imm),(qax,.imm)],[(.bool,false)],Bool,fun x=>qm8 x.1 x.2.1,fun r=>((),(r,())),none⟩
def qna (n_0:NODE) (c_1:CELL):Option Bool :=
 bif (!n_0.1) then ((qm8 n_0 c_1).bind fun r1=>some r1) else (some false)
def c116:Ctr:=⟨[(qc8,.imm),(qax,.imm)],[(.bool,false)],Bool,fun x=>qna x.1 x.2.1,fun r=>((),(r,())),none⟩
def qdb (a_0:Int) (a_1:Bool) (a_2:List Int) (a_3:List Int) (a_4:Int) (a_5:Bool) (a_6:List Int) (a_7:List Int) (a_8:Bool) (a_9:Int) (a_10:Bool) (b_11:List NODE) (b_12:List CELL) (b_13:Int) (b_14:Bool) (b_15:List RAT) (b_16:List (Int×RAT×CELL)):Option ((List RAT)×Int×Bool×(List Int)×(List Int)×Int×Bool×(List Int)×(List Int)×Bool×Bool×(List NODE)×(List CELL)×Int×Bool×(List (Int×RAT×CELL))×(List (Int×RAT×CELL))) :=
 bif decide (0<=a_0) then (b_11[a_0.toNat]?).bind fun x1=>bif decide (0<=a_9) then (b_11[a_9.toNat]?).bind fun x2=>(qoN x2.2.2.2.2.2.2.2 x1.2.2.2.2.2.2.2).bind fun r3=>bif decide (0<=x1.2.1) then (b_12[x1.2.1.toNat]?).bind fun x4=>(qna x1 x4).bind fun r5=>(qcs b_16).bind fun r6=>bif (!decide (x1.2.1=b_13)) then ((bif Nat.beq b_15.length b_15.length then some (b_15,()) else none).bind fun l7=>some (l7.1,a_9,a_1,a_2,a_3,x1.2.1,r3.1.1.1,r3.1.1.2,r3.1.2,(r5 == a_10),true,b_11,b_12,b_13,b_14,r6.1,r6.2)) else (bif b_14 then ((bif Nat.beq b_15.length b_15.length then some (b_15,()) else none).bind fun l8=>some (l8.1,a_9,a_1,a_2,a_3,(-1),r3.1.1.1,r3.1.1.2,r3.1.2,(r5 == a_10),(r5 == a_10),b_11,b_12,b_13,b_14,r6.1,r6.2)) else ((qay ((a_1,a_2),a_3) r3.1).bind fun r9=>(bif Nat.beq b_15.length b_15.length then some (b_15,()) else none).bind fun l10=>some (l10.1,a_9,r9.1.1,r9.1.2,r9.2,(-1),r3.1.1.1,r3.1.1.2,r3.1.2,(r5 == a_10),true,b_11,b_12,b_13,b_14,r6.1,r6.2))) else none else none else none
abbrev w103:Wir:=⟨[.b,.x,.b,.x,.x,.x,.x,.x,.x,.x,.x,.x,.x],[[.x,.x,.x,.x,.l,.h],[.x]],10,some 1,[.x,.g 10,.x,.x],[.g 10,.x],1⟩
def c103:Ctr:=⟨[((.int .i64),.imm),(.bool,.imm),((.sl (.int .u64)),.imm),((.sl (.int .u64)),.imm),((.int .i64),.imm),(.bool,.imm),((.sl (.int .u64)),.imm),((.sl (.int .u64)),.imm),(.bool,.imm),((.int .i64),.imm),(.bool,.imm),((.sl qc8),.imm),((.sl qax),.imm),((.int .i64),.imm),(.bool,.imm),((.sl tRAT),.lent),((.sl (.pair (.int .i64) (.pair tRAT qax))),.own)],[((.int .i64),false),(.bool,false),((.sl (.int .u64)),false),((.sl (.int .u64)),false),((.int .i64),false),(.bool,false),((.sl (.int .u64)),false),((.sl (.int .u64)),false),(.bool,false),(.bool,false),((.sl qc8),false),((.sl qax),false),((.int .i64),false),(.bool,false),((.sl (.pair (.int .i64) (.pair tRAT qax))),true),((.sl (.pair (.int .i64) (.pair tRAT qax))),true)],(List RAT)×Int×Bool×(List Int)×(List Int)×Int×Bool×(List Int)×(List Int)×Bool×Bool×(List NODE)×(List CELL)×Int×Bool×(List (Int×RAT×CELL))×(List (Int×RAT×CELL)),fun x=>qdb x.1 x.2.1 x.2.2.1 x.2.2.2.1 x.2.2.2.2.1 x.2.2.2.2.2.1 x.2.2.2.2.2.2.1 x.2.2.2.2.2.2.2.1 x.2.2.2.2.2.2.2.2.1 x.2.2.2.2.2.2.2.2.2.1 x.2.2.2.2.2.2.2.2.2.2.1 x.2.2.2.2.2.2.2.2.2.2.2.1 x.2.2.2.2.2.2.2.2.2.2.2.2.1 x.2.2.2.2.2.2.2.2.2.2.2.2.2.1 x.2.2.2.2.2.2.2.2.2.2.2.2.2.2.1 x.2.2.2.2.2.2.2.2.2.2.2.2.2.2.2.1 x.2.2.2.2.2.2.2.2.2.2.2.2.2.2.2.2.1,fun r=>((r.1,()),(r.2.1,r.2.2.1,r.2.2.2.1,r.2.2.2.2.1,r.2.2.2.2.2.1,r.2.2.2.2.2.2.1,r.2.2.2.2.2.2.2.1,r.2.2.2.2.2.2.2.2.1,r.2.2.2.2.2.2.2.2.2.1,r.2.2.2.2.2.2.2.2.2.2.1,r.2.2.2.2.2.2.2.2.2.2.2.1,r.2.2.2.2.2.2.2.2.2.2.2.2.1,r.2.2.2.2.2.2.2.2.2.2.2.2.2.1,r.2.2.2.2.2.2.2.2.2.2.2.2.2.2.1,r.2.2.2.2.2.2.2.2.2.2.2.2.2.2.2.1,r.2.2.2.2.2.2.2.2.2.2.2.2.2.2.2.2,())),some w103⟩
abbrev qba:SG:=⟨[(0,.p 728 0 0),(2,.p 16 0 0),(3,.p 24 0 0),(62,.v (.pair .bool (.pair .bool .unit))),(63,.v (.int .i64))],[(16,[.v (.int .i64),.p 268 0 0,.v .bool,.v (.sl (.int .u64)),.v (.sl (.int .u64)),.v (.int .i64),.v .bool,.v (.sl (.int .u64)),.v (.sl (.int .u64)),.v .bool]),(24,[.v .bool,.v (.int .i64),.v .bool,.v (.sl (.int .u64)),.v (.sl (.int .u64)),.v (.int .i64),.v (.int .i64),.v .bool,.v .bool,.v (.sl (.int .u64)),.v (.sl (.int .u64)),.v .bool,.v (.sl (.int .u64)),.v (.sl (.int .u64))]),(268,[.o (.pair (.int .i64) (.pair tRAT qax)) 269]),(728,[.v (.sl qc8),.v (.sl qax),.v (.int .i64),.v .bool,.f tRAT 32,.o (.pair (.int .i64) (.pair (.op (.pair (.os (.pair (.int .i64) (.pair tRAT qax))) .unit)) (.pair tRAT qea))) 1733])],[],[],[]⟩
abbrev qbM:List (Ex×SG):=[(.exit 2,⟨[(0,.p 728 0 0)],[(728,[.v (.sl qc8),.v (.sl qax),.v (.int .i64),.v .bool,.f tRAT 32,.o (.pair (.int .i64) (.pair (.op (.pair (.os (.pair (.int .i64) (.pair tRAT qax))) .unit)) (.pair tRAT qea))) 1733])],[],[],[]⟩)]
abbrev qfd:=(((Bool×Bool×Unit)×Int×Unit)×((Int×Bool×(List Int)×(List Int)×Int×Bool×(List Int)×(List Int)×Bool×Unit)×(Bool×Int×Bool×(List Int)×(List Int)×Int×Int×Bool×Bool×(List Int)×(List Int)×Bool×(List Int)×(List Int)×Unit)×((List (Int×RAT×CELL))×Unit)×((List NODE)×(List CELL)×Int×Bool×(List RAT)×(List (Int×(Option ((Option (List (Int×RAT×CELL)))×Unit))×RAT×PART))×Unit)×Unit))
abbrev qfc:=(Unit×(((List NODE)×(List CELL)×Int×Bool×(List RAT)×(List (Int×(Option ((Option (List (Int×RAT×CELL)))×Unit))×RAT×PART))×Unit)×Unit))
def qbK (g:qfd->Option qfc):qfd->Option qfc
 | ((v_62,v_63,_),((b16_0,b16_2,b16_3,b16_4,b16_5,b16_6,b16_7,b16_8,b16_9,_),(b24_0,b24_1,b24_2,b24_3,b24_4,b24_5,b24_6,b24_7,b24_8,b24_9,b24_10,b24_11,b24_12,b24_13,_),(b268_0,_),(b728_0,b728_1,b728_2,b728_3,b728_4,b728_5,_),_))=>bif (decide (v_63<2)) then (bif decide (0<=v_63) then (([v_62.1,v_62.2.1]:List Bool)[v_63.toNat]?).bind fun x9=>bif x9 then ((qdb b16_0 b16_2 b16_3 b16_4 b16_5 b16_6 b16_7 b16_8 b16_9 b24_5 x9 b728_0 b728_1 b728_2 b728_3 b728_4 b268_0).bind fun r10=>bif r10.2.2.2.2.2.2.2.2.2.2.1 then (bif Nat.ble ((b728_5.length+([(r10.2.1,((some ((some r10.2.2.2.2.2.2.2.2.2.2.2.2.2.2.2.2),())),(((r10.2.2.1,r10.2.2.2.1),r10.2.2.2.2.1),(r10.2.2.2.2.2.1,(((r10.2.2.2.2.2.2.1,r10.2.2.2.2.2.2.2.1),r10.2.2.2.2.2.2.2.2.1),r10.2.2.2.2.2.2.2.2.2.1)))))]).length)*144) 140737488355328&&!false then g (((v_62.1,(v_62.2.1,())),(iadd .i64 v_63 1),()),((b16_0,b16_2,b16_3,b16_4,b16_5,b16_6,b16_7,b16_8,b16_9,()),(b24_0,b24_1,b24_2,b24_3,b24_4,b24_5,b24_6,b24_7,b24_8,b24_9,b24_10,b24_11,b24_12,b24_13,()),(r10.2.2.2.2.2.2.2.2.2.2.2.2.2.2.2.1,()),(r10.2.2.2.2.2.2.2.2.2.2.2.1,r10.2.2.2.2.2.2.2.2.2.2.2.2.1,r10.2.2.2.2.2.2.2.2.2.2.2.2.2.1,r10.2.2.2.2.2.2.2.2.2.2.2.2.2.2.1,(over b728_4 0 r10.1),(b728_5++[(r10.2.1,((some ((some r10.2.2.2.2.2.2.2.2.2.2.2.2.2.2.2.2),())),(((r10.2.2.1,r10.2.2.2.1),r10.2.2.2.2.1),(r10.2.2.2.2.2.1,(((r10.2.2.2.2.2.2.1,r10.2.2.2.2.2.2.2.1),r10.2.2.2.2.2.2.2.2.1),r10.2.2.2.2.2.2.2.2.2.1)))))]),()),())) else none) else (g (((v_62.1,(v_62.2.1,())),(iadd .i64 v_63 1),()),((b16_0,b16_2,b16_3,b16_4,b16_5,b16_6,b16_7,b16_8,b16_9,()),(b24_0,b24_1,b24_2,b24_3,b24_4,b24_5,b24_6,b24_7,b24_8,b24_9,b24_10,b24_11,b24_12,b24_13,()),(r10.2.2.2.2.2.2.2.2.2.2.2.2.2.2.2.1,()),(r10.2.2.2.2.2.2.2.2.2.2.2.1,r10.2.2.2.2.2.2.2.2.2.2.2.2.1,r10.2.2.2.2.2.2.2.2.2.2.2.2.2.1,r10.2.2.2.2.2.2.2.2.2.2.2.2.2.2.1,(over b728_4 0 r10.1),b728_5,()),())))) else ((qdb b16_0 b16_2 b16_3 b16_4 b16_5 b16_6 b16_7 b16_8 b16_9 b24_6 x9 b728_0 b728_1 b728_2 b728_3 b728_4 b268_0).bind fun r11=>bif r11.2.2.2.2.2.2.2.2.2.2.1 then (bif Nat.ble ((b728_5.length+([(r11.2.1,((some ((some r11.2.2.2.2.2.2.2.2.2.2.2.2.2.2.2.2),())),(((r11.2.2.1,r11.2.2.2.1),r11.2.2.2.2.1),(r11.2.2.2.2.2.1,(((r11.2.2.2.2.2.2.1,r11.2.2.2.2.2.2.2.1),r11.2.2.2.2.2.2.2.2.1),r11.2.2.2.2.2.2.2.2.2.1)))))]).length)*144) 140737488355328&&!false then g (((v_62.1,(v_62.2.1,())),(iadd .i64 v_63 1),()),((b16_0,b16_2,b16_3,b16_4,b16_5,b16_6,b16_7,b16_8,b16_9,()),(b24_0,b24_1,b24_2,b24_3,b24_4,b24_5,b24_6,b24_7,b24_8,b24_9,b24_10,b24_11,b24_12,b24_13,()),(r11.2.2.2.2.2.2.2.2.2.2.2.2.2.2.2.1,()),(r11.2.2.2.2.2.2.2.2.2.2.2.1,r11.2.2.2.2.2.2.2.2.2.2.2.2.1,r11.2.2.2.2.2.2.2.2.2.2.2.2.2.1,r11.2.2.2.2.2.2.2.2.2.2.2.2.2.2.1,(over b728_4 0 r11.1),(b728_5++[(r11.2.1,((some ((some r11.2.2.2.2.2.2.2.2.2.2.2.2.2.2.2.2),())),(((r11.2.2.1,r11.2.2.2.1),r11.2.2.2.2.1),(r11.2.2.2.2.2.1,(((r11.2.2.2.2.2.2.1,r11.2.2.2.2.2.2.2.1),r11.2.2.2.2.2.2.2.2.1),r11.2.2.2.2.2.2.2.2.2.1)))))]),()),())) else none) else (g (((v_62.1,(v_62.2.1,())),(iadd .i64 v_63 1),()),((b16_0,b16_2,b16_3,b16_4,b16_5,b16_6,b16_7,b16_8,b16_9,()),(b24_0,b24_1,b24_2,b24_3,b24_4,b24_5,b24_6,b24_7,b24_8,b24_9,b24_10,b24_11,b24_12,b24_13,()),(r11.2.2.2.2.2.2.2.2.2.2.2.2.2.2.2.1,()),(r11.2.2.2.2.2.2.2.2.2.2.2.1,r11.2.2.2.2.2.2.2.2.2.2.2.2.1,r11.2.2.2.2.2.2.2.2.2.2.2.2.2.1,r11.2.2.2.2.2.2.2.2.2.2.2.2.2.2.1,(over b728_4 0 r11.1),b728_5,()),())))) else none) else (some ((()),((b728_0,b728_1,b728_2,b728_3,b728_4,b728_5,()),())))
abbrev qbb:SG:=⟨[(0,.p 728 0 0)],[(728,[.v (.sl qc8),.v (.sl qax),.v (.int .i64),.v .bool,.f tRAT 32,.o (.pair (.int .i64) (.pair (.op (.pair (.os (.pair (.int .i64) (.pair tRAT qax))) .unit)) (.pair tRAT qea))) 1733])],[],[],[]⟩
abbrev qbN:List (Ex×SG):=[(.exit 0,⟨[(0,.p 728 0 0)],[(728,[.v (.sl qc8),.v (.sl qax),.v (.int .i64),.v .bool,.f tRAT 32,.o (.pair (.int .i64) (.pair (.op (.pair (.os (.pair (.int .i64) (.pair tRAT qax))) .unit)) (.pair tRAT qea))) 1733])],[],[],[]⟩)]
abbrev qff:=(Unit×(((List NODE)×(List CELL)×Int×Bool×(List RAT)×(List (Int×(Option ((Option (List (Int×RAT×CELL)))×Unit))×RAT×PART))×Unit)×Unit))
abbrev qfe:=(Unit×(((List NODE)×(List CELL)×Int×Bool×(List RAT)×(List (Int×(Option ((Option (List (Int×RAT×CELL)))×Unit))×RAT×PART))×Unit)×Unit))
def qbL (g:qff->Option qfe):qff->Option qfe
 | (_,((b728_0,b728_1,b728_2,b728_3,b728_4,b728_5,_),_))=>bif (decide ((b728_5.length:Int)>0)) then (bif decide (0<=(isub .i64 (b728_5.length:Int) 1))&&decide ((isub .i64 (b728_5.length:Int) 1)<(b728_5.length:Int)) then (b728_5[(isub .i64 (b728_5.length:Int) 1).toNat]?).bind fun x3=>(x3.2.1).bind fun x4=>(x4.1).bind fun x5=>bif decide ((0:Int)<=(isub .i64 ((b728_5.set ((isub .i64 (b728_5.length:Int) 1).toNat) (x3.1,(none,x3.2.2))).length:Int) 1))&&decide (((isub .i64 ((b728_5.set ((isub .i64 (b728_5.length:Int) 1).toNat) (x3.1,(none,x3.2.2))).length:Int) 1):Int)<=(isub .i64 ((b728_5.set ((isub .i64 (b728_5.length:Int) 1).toNat) (x3.1,(none,x3.2.2))).length:Int) 1))&&decide (((isub .i64 ((b728_5.set ((isub .i64 (b728_5.length:Int) 1).toNat) (x3.1,(none,x3.2.2))).length:Int) 1):Int)<=((b728_5.set ((isub .i64 (b728_5.length:Int) 1).toNat) (x3.1,(none,x3.2.2))).length:Int)) then (qfw x3.1 x3.2.2.1.1.1 x3.2.2.1.1.2 x3.2.2.1.2 x3.2.2.2.1 x3.2.2.2.2.1.1.1 x3.2.2.2.2.1.1.2 x3.2.2.2.2.1.2 x3.2.2.2.2.2 x5).bind fun r6=>bif decide (0<=r6.1) then (b728_0[r6.1.toNat]?).bind fun x7=>bif x7.1 then ((qe1 r6.1 r6.2.1 r6.2.2.1 r6.2.2.2.1 r6.2.2.2.2.1 r6.2.2.2.2.2.1 r6.2.2.2.2.2.2.1 r6.2.2.2.2.2.2.2.1 r6.2.2.2.2.2.2.2.2.1 b728_0 b728_1 b728_2 b728_3 b728_4 r6.2.2.2.2.2.2.2.2.2).bind fun r8=>g ((()),((r8.2.1,r8.2.2.1,r8.2.2.2.1,r8.2.2.2.2.1,(over b728_4 0 r8.1),((b728_5.set ((isub .i64 (b728_5.length:Int) 1).toNat) (x3.1,(none,x3.2.2))).take (((isub .i64 ((b728_5.set ((isub .i64 (b728_5.length:Int) 1).toNat) (x3.1,(none,x3.2.2))).length:Int) 1)-0).toNat)),()),()))) else ((lp qbK K0 (((false,(true,())),0,()),((r6.1,r6.2.1,r6.2.2.1,r6.2.2.2.1,r6.2.2.2.2.1,r6.2.2.2.2.2.1,r6.2.2.2.2.2.2.1,r6.2.2.2.2.2.2.2.1,r6.2.2.2.2.2.2.2.2.1,()),(x7.1,x7.2.1,x7.2.2.1.1.1,x7.2.2.1.1.2,x7.2.2.1.2,x7.2.2.2.1,x7.2.2.2.2.1,x7.2.2.2.2.2.1,x7.2.2.2.2.2.2.1.1.1,x7.2.2.2.2.2.2.1.1.2,x7.2.2.2.2.2.2.1.2,x7.2.2.2.2.2.2.2.1.1,x7.2.2.2.2.2.2.2.1.2,x7.2.2.2.2.2.2.2.2,()),(r6.2.2.2.2.2.2.2.2.2,()),(b728_0,b728_1,b728_2,b728_3,b728_4,((b728_5.set ((isub .i64 (b728_5.length:Int) 1).toNat) (x3.1,(none,x3.2.2))).take (((isub .i64 ((b728_5.set ((isub .i64 (b728_5.length:Int) 1).toNat) (x3.1,(none,x3.2.2))).length:Int) 1)-0).toNat)),()),()))).bind fun t12=>g ((()),((t12.2.1.1,t12.2.1.2.1,t12.2.1.2.2.1,t12.2.1.2.2.2.1,t12.2.1.2.2.2.2.1,t12.2.1.2.2.2.2.2.1,()),()))) else none else none else none) else (some ((()),((b728_0,b728_1,b728_2,b728_3,b728_4,b728_5,()),())))
def qe0 (b_0:List NODE) (b_1:List CELL) (b_2:Int) (b_3:Bool) (b_4:List RAT) (b_5:List (Int×(Option ((Option (List (Int×RAT×CELL)))×Unit))×RAT×PART)):Option ((List RAT)×(List NODE)×(List CELL)×Int×Bool×(List (Int×(Option ((Option (List (Int×RAT×CELL)))×Unit))×RAT×PART))) :=
 (qfH ).bind fun r1=>(qdB ).bind fun r2=>(lp qbL K0 ((()),((b_0,b_1,b_2,b_3,b_4,[(0,((some ((some r1),())),(r2,((-1),(((false,[]),[]),false)))))],()),()))).bind fun t13=>(bif Nat.beq t13.2.1.2.2.2.2.1.length b_4.length then some (t13.2.1.2.2.2.2.1,()) else none).bind fun l14=>some (l14.1,t13.2.1.1,t13.2.1.2.1,t13.2.1.2.2.1,t13.2.1.2.2.2.1,t13.2.1.2.2.2.2.2.1)
abbrev w75:Wir:=⟨[.b],[[.x,.x,.x,.x,.l,.x]],0,none,[],[],0⟩
def c75:Ctr:=⟨[((.sl qc8),.imm),((.sl qax),.imm),((.int .i64),.imm),(.bool,.imm),((.sl tRAT),.lent),((.sl (.pair (.int .i64) (.pair (.op (.pair (.os (.pair (.int .i64) (.pair tRAT qax))) .unit)) (.pair tRAT qea)))),.imm)],[((.sl qc8),false),((.sl qax),false),((.int .i64),false),(.bool,false),((.sl (.pair (.int .i64) (.pair (.op (.pair (.os (.pair (.int .i64) (.pair tRAT qax))) .unit)) (.pair tRAT qea)))),false)],(List RAT)×(List NODE)×(List CELL)×Int×Bool×(List (Int×(Option ((Option (List (Int×RAT×CELL)))×Unit))×RAT×PART)),fun x=>qe0 x.1 x.2.1 x.2.2.1 x.2.2.2.1 x.2.2.2.2.1 x.2.2.2.2.2.1,fun r=>((r.1,()),(r.2.1,r.2.2.1,r.2.2.2.1,r.2.2.2.2.1,r.2.2.2.2.2,())),some w75⟩
abbrev qdF:SG:=⟨[(1,.v (.sl qax)),(2,.v (.int .i64)),(3,.v .bool),(9,.o tRAT 79),(17,.v (.sl (.sl qc8))),(18,.v (.int .i64)),(19,.v (.int .i64))],[],[],[],[]⟩
abbrev qet:List (Ex×SG):=[(.exit 0,⟨[(9,.o tRAT 79)],[],[],[],[]⟩)]
abbrev qiA:=(((List CELL)×Int×Bool×(List RAT)×(List (List NODE))×Int×Int×Unit)×Unit)
abbrev qiz:=(((List RAT)×Unit)×Unit)
def qes (g:qiA->Option qiz):qiA->Option qiz
 | ((row_1,fixed_2,on_3,out_9,v_17,v_18,v_19,_),_)=>bif (decide (v_19<v_18)) then (bif decide (0<=v_19) then (v_17[v_19.toNat]?).bind fun x2=>(qe0 x2 row_1 fixed_2 on_3 out_9 ([])).bind fun r3=>g ((row_1,fixed_2,on_3,(over out_9 0 r3.1),v_17,v_18,(iadd .i64 v_19 1),()),()) else none) else (some ((out_9,()),()))
def qjZ (m_0:qmZ) (row_1:List CELL) (fixed_2:Int) (on_3:Bool):Option (List RAT) :=
 (qif m_0.1).bind fun r1=>(lp qes K0 ((row_1,fixed_2,on_3,r1,m_0.2,(m_0.2.length:Int),0,()),())).bind fun t4=>some t4.1.1
def c55:Ctr:=⟨[(qnI,.imm),((.sl qax),.imm),((.int .i64),.imm),(.bool,.imm)],[((.sl tRAT),true)],(List RAT),fun x=>qjZ x.1 x.2.1 x.2.2.1 x.2.2.2.1,fun r=>((),(r,())),none⟩
def qhS (m_0:qmZ) (row_1:List CELL):Option ((List RAT)×Int) :=
 (qnb m_0 row_1).bind fun r1=>bif (!decide (r1=0)) then (some ([],r1)) else ((qjZ m_0 row_1 (-1) false).bind fun r2=>some (r2,0))
def c31:Ctr:=⟨[(qnI,.imm),((.sl qax),.imm)],[((.sl tRAT),true),((.int .i64),false)],(List RAT)×Int,fun x=>qhS x.1 x.2.1,fun r=>((),(r.1,r.2,())),none⟩
def qcw :Option Bool :=
 (qi0 4).bind fun r1=>(qdB ).bind fun r2=>(qdB ).bind fun r3=>(qi0 3).bind fun r4=>(qdB ).bind fun r5=>(qhS (1,([([(false,(0,(((false,[]),[]),(1,(2,(false,(((false,[]),[]),r1))))))),(true,(0,(((false,[]),[]),(0,(0,(false,(((false,[]),[]),r2))))))),(true,(0,(((false,[]),[]),(0,(0,(false,(r3,r4)))))))]:List NODE)]:List (List NODE))) ([(false,r5)]:List CELL)).bind fun r6=>bif (decide (r6.2=0)) then (bif (decide ((r6.1.length:Int)=1)) then (bif decide ((0:Int)<(r6.1.length:Int)) then (r6.1[0]?).bind fun x7=>(qc4 1 4).bind fun r8=>(qk7 x7 r8).bind fun r9=>some r9 else none) else (some false)) else (some false)
def c11:Ctr:=⟨[],[(.bool,false)],Bool,fun x=>qcw ,fun r=>((),(r,())),none⟩
abbrev qaF:SG:=⟨[(0,.v (.sl (.pair (.int .i64) (.pair (.int .i64) qea)))),(3,.p 79 0 0),(4,.v (.sl qea)),(5,.v (.int .i64))],[(79,[.o (.pair (.int .i64) (.pair tRAT qax)) 80])],[],[],[(3,79)]⟩
abbrev qaX:List (Ex×SG):=[(.exit 0,⟨[(3,.p 79 0 0),(4,.v (.sl qea))],[(79,[.o (.pair (.int .i64) (.pair tRAT qax)) 80])],[],[],[]⟩),(.ret,⟨[(2,.v .bool)],[],[],[],[]⟩)]
abbrev qdN:=(((List (Int×Int×PART))×(List PART)×Int×Unit)×(((List (Int×RAT×CELL))×Unit)×Unit))
abbrev qdM:=((((List PART)×Unit)×(((List (Int×RAT×CELL))×Unit)×Unit)) ⊕ ((Bool×Unit)×Unit))
def qai (g:qdN->Option qdM):qdN->Option qdM
 | ((script_0,parts_4,i_5,_),((b79_0,_),_))=>bif (decide (i_5<(script_0.length:Int))) then (bif (decide (i_5<16)) then (bif decide (0<=i_5) then (script_0[i_5.toNat]?).bind fun x2=>bif (decide (x2.1=2)) then ((qcs b79_0).bind fun r3=>(qdB ).bind fun r4=>(qae 999 r4 true r3.1).bind fun r5=>bif decide (0<=i_5) then (script_0[i_5.toNat]?).bind fun x6=>(qbg parts_4 x6 r3.2).bind fun r7=>bif (!r7.2.1) then (some (.inr ((false,()),()))) else (g ((script_0,r7.1,(iadd .i64 i_5 1),()),((r7.2.2,()),()))) else none) else (bif decide (0<=i_5) then (script_0[i_5.toNat]?).bind fun x8=>(qbg parts_4 x8 b79_0).bind fun r9=>bif (!r9.2.1) then (some (.inr ((false,()),()))) else (g ((script_0,r9.1,(iadd .i64 i_5 1),()),((r9.2.2,()),()))) else none) else none) else (some (.inl ((parts_4,()),((b79_0,()),()))))) else (some (.inl ((parts_4,()),((b79_0,()),()))))
def qb3 (script_0:List (Int×Int×PART)):Option Bool :=
 (qfH ).bind fun r1=>(lp qai K0 ((script_0,[],0,()),((r1,()),()))).bind fun t10=>(match t10 with | .inl t11=>(qc0 t11.1.1 t11.2.1.1).bind fun r13=>bif r13.1 then ((qcw ).bind fun r14=>some r14) else (some false) | .inr t12=>some t12.1.1)
def c3:Ctr:=⟨[((.sl (.pair (.int .i64) (.pair (.int .i64) qea))),.imm)],[(.bool,false)],Bool,fun x=>qb3 x.1,fun r=>((),(r,())),none⟩
end Go.Proofs.YtmabkjhobhbfdaaGreatDoor.X
