/- Own work: part of the proof; the first line of each part says what it tells. -/
import Derived.Test.YtmabkjhobhbfdaaDoorLa5
import Derived.Test.YtmabkjhobhbfdaaDoorProg


namespace Go.Proofs.YtmabkjhobhbfdaaDoor.X
open Go
set_option linter.unusedVariables false
set_option linter.unusedSimpArgs false
set_option maxRecDepth 100000
def tb:Tb:=[(2,.sc (.int .i64)),(3,.sc (.int .i64)),(4,.sc .bool),(5,.sc (.int .u8)),(6,.sc (.int .u8)),(7,.stc (.pair (.int .i64) (.pair (.int .i64) (.pair .bool (.int .u8)))) [(0,2),(1,3),(2,4),(3,6)] false),(23,.slc 76 (.int .u64) 8),(25,.stc tWH [(0,4),(1,23)] false),(27,.stc tRAT [(0,25),(2,23)] false),(28,.pt 31 (.pair (.os (.pair (.int .i64) (.pair tRAT qal))) .unit)),(29,.slc 49 (.pair (.int .i64) (.pair tRAT qal)) 128),(31,.stc (.pair (.sl (.pair (.int .i64) (.pair tRAT qal))) .unit) [(0,29)] false),(32,.sc (.int .i64)),(40,.slc 27 tRAT 56),(42,.slc 56 qfW 72),(49,.stc (.pair (.int .i64) (.pair tRAT qal)) [(0,3),(1,27),(4,4),(5,27)] false),(56,.stc qfW [(0,3),(1,27),(4,4)] false),(59,.stc qbg [(0,4),(1,3),(2,27),(5,3),(6,3),(7,4),(8,27),(11,27)] false),(60,.slc 59 qbg 208),(61,.slc 60 (.sl qbg) 24),(63,.stc qio [(0,3),(1,61)] false),(67,.stc qal [(0,4),(1,27)] false),(68,.slc 67 qal 64),(76,.sc (.int .u64)),(88,.sc (.int .u64)),(92,.pt 95 (.pair (.sl qbg) (.pair (.sl qal) (.pair (.int .i64) (.pair .bool (.pair (.sl tRAT) (.sl (.pair (.int .i64) (.pair (.op (.pair (.os (.pair (.int .i64) (.pair tRAT qal))) .unit)) (.pair tRAT qfW)))))))))),(93,.slc 106 (.pair (.int .i64) (.pair (.op (.pair (.os (.pair (.int .i64) (.pair tRAT qal))) .unit)) (.pair tRAT qfW))) 144),(95,.stc (.pair (.sl qbg) (.pair (.sl qal) (.pair (.int .i64) (.pair .bool (.pair (.sl tRAT) (.sl (.pair (.int .i64) (.pair (.op (.pair (.os (.pair (.int .i64) (.pair tRAT qal))) .unit)) (.pair tRAT qfW))))))))) [(0,60),(1,68),(2,3),(3,4),(4,40),(5,93)] false),(106,.stc (.pair (.int .i64) (.pair (.op (.pair (.os (.pair (.int .i64) (.pair tRAT qal))) .unit)) (.pair tRAT qfW))) [(0,3),(1,28),(2,27),(5,3),(6,27),(9,4)] false),(108,.arr 4 .bool),(115,.sc (.int .u32)),(118,.stc (.pair (.int .i64) (.pair (.int .i64) (.pair (.int .i64) (.int .i64)))) [(0,32),(1,3),(2,3),(3,3)] true),(120,.pt 106 (.pair (.int .i64) (.pair (.op (.pair (.os (.pair (.int .i64) (.pair tRAT qal))) .unit)) (.pair tRAT qfW)))),(130,.slc 3 (.int .i64) 8),(131,.slc 4 .bool 1)]
abbrev qdz:SG:=⟨[(0,.o (.int .u64) 7),(3,.v (.int .i64))],[],[],[]⟩
abbrev qer:List (Ex×SG):=[(.exit 0,⟨[(0,.o (.int .u64) 7),(3,.v (.int .i64))],[],[],[]⟩)]
def qeq (g:(((List Int)×Int×Unit)×Unit)->Option (((List Int)×Int×Unit)×Unit)):(((List Int)×Int×Unit)×Unit)->Option (((List Int)×Int×Unit)×Unit)
 | ((a_0,n_3,_),_)=>bif (decide (n_3>0)) then (bif decide (0<=(isub .i64 n_3 1))&&decide ((isub .i64 n_3 1)<(a_0.length:Int)) then (a_0[(isub .i64 n_3 1).toNat]?).bind fun x1=>bif (decide (x1=0)) then (g ((a_0,(isub .i64 n_3 1),()),())) else (some ((a_0,n_3,()),())) else none) else (some ((a_0,n_3,()),()))
def qcO (a_0:List Int):Option (List Int) :=
 (lp qeq K0 ((a_0,(a_0.length:Int),()),())).bind fun t2=>bif (decide (t2.1.2.1=0)) then (some ([])) else (bif decide ((0:Int)<=t2.1.2.1)&&decide ((t2.1.2.1:Int)<=t2.1.2.1)&&decide ((t2.1.2.1:Int)<=(t2.1.1.length:Int)) then some (t2.1.1.take ((t2.1.2.1-0).toNat)) else none)
def c42:Ctr:=⟨[((.sl (.int .u64)),.own)],[((.sl (.int .u64)),true)],(List Int),fun x=>qcO x.1,fun r=>((),(r,())),none⟩
def qhE (n_0:Int):Option (List Int) :=
 (qcO ([(iand .u64 n_0 4294967295),(shrV .u64 n_0 32)]:List Int)).bind fun r1=>some r1
def c31:Ctr:=⟨[((.int .u64),.imm)],[((.sl (.int .u64)),true)],(List Int),fun x=>qhE x.1,fun r=>((),(r,())),none⟩
def qd8 :Option RAT :=
 (qhE 1).bind fun r1=>some ((false,[]),r1)
def c17:Ctr:=⟨[],[(tRAT,false)],RAT,fun x=>qd8 ,fun r=>((),(r,())),none⟩
abbrev qc5:SG:=⟨[(3,.o (.int .u64) 31),(9,.v (.sl (.int .u64))),(10,.v (.int .i64)),(11,.v (.int .i64))],[],[],[]⟩
abbrev qdV:List (Ex×SG):=[(.exit 0,⟨[(3,.o (.int .u64) 31)],[],[],[]⟩)]
def qdU (g:(((List Int)×(List Int)×Int×Int×Unit)×Unit)->Option (((List Int)×Unit)×Unit)):(((List Int)×(List Int)×Int×Int×Unit)×Unit)->Option (((List Int)×Unit)×Unit)
 | ((out_3,v_9,v_10,v_11,_),_)=>bif (decide (v_11<v_10)) then (bif decide (0<=v_11) then (v_9[v_11.toNat]?).bind fun x1=>bif decide (0<=v_11)&&decide (v_11<(out_3.length:Int)) then (out_3[v_11.toNat]?).bind fun _=>g (((out_3.set v_11.toNat (iand .u64 x1 4294967295)),v_9,v_10,(iadd .i64 v_11 1),()),()) else none else none) else (some ((out_3,()),()))
def qa3 (a_0:List Int):Option (List Int) :=
 bif decide ((a_0.length:Int)=(a_0.length:Int))&&decide (0<=(a_0.length:Int))&&decide (((8:Nat):Int)*(a_0.length:Int)<=281474976710656)&&decide ((a_0.length:Int)<=9223372036854775807) then (lp qdU K0 (((List.replicate (a_0.length:Int).toNat (0:Int)),a_0,(a_0.length:Int),0,()),())).bind fun t3=>(qcO t3.1.1).bind fun r4=>some r4 else none
def c28:Ctr:=⟨[((.sl (.int .u64)),.imm)],[((.sl (.int .u64)),true)],(List Int),fun x=>qa3 x.1,fun r=>((),(r,())),none⟩
def qno (a_0:List Int):Option (Int×Bool) :=
 (qa3 a_0).bind fun r1=>bif (decide ((r1.length:Int)=0)) then (some (0,true)) else (bif (decide ((r1.length:Int)=1)) then (bif decide ((0:Int)<(r1.length:Int)) then (r1[0]?).bind fun x2=>some (x2,true) else none) else (bif (decide ((r1.length:Int)=2)) then (bif decide ((1:Int)<(r1.length:Int)) then (r1[1]?).bind fun x3=>bif decide ((0:Int)<(r1.length:Int)) then (r1[0]?).bind fun x4=>some ((ior .u64 (shlV .u64 x3 32) x4),true) else none else none) else (some (0,false))))
def c69:Ctr:=⟨[((.sl (.int .u64)),.imm)],[((.int .u64),false),(.bool,false)],Int×Bool,fun x=>qno x.1,fun r=>((),(r.1,r.2,())),none⟩
abbrev qcj:SG:=⟨[(5,.v (.int .u64)),(7,.v (.int .u64))],[],[],[]⟩
abbrev qdj:List (Ex×SG):=[(.exit 0,⟨[(5,.v (.int .u64))],[],[],[]⟩)]
def qdi (g:((Int×Int×Unit)×Unit)->Option ((Int×Unit)×Unit)):((Int×Int×Unit)×Unit)->Option ((Int×Unit)×Unit)
 | ((x_5,y_7,_),_)=>bif (!decide (y_7=0)) then (bif decide (y_7=0) then none else (g ((y_7,(irem x_5 y_7),()),()))) else (some ((x_5,()),()))
def qh5 (a_0:List Int) (b_1:List Int):Option (List Int) :=
 (qno a_0).bind fun r1=>(qno b_1).bind fun r2=>(lp qdi K0 ((r1.1,r2.1,()),())).bind fun t3=>(qhE t3.1.1).bind fun r4=>some r4
def c54:Ctr:=⟨[((.sl (.int .u64)),.imm),((.sl (.int .u64)),.imm)],[((.sl (.int .u64)),true)],(List Int),fun x=>qh5 x.1 x.2.1,fun r=>((),(r,())),none⟩
def tz64 (a0:Int):Option Int:=bif decide (0<a0)&&decide (a0<18446744073709551616) then some ((tzN 64 a0.toNat:Nat):Int) else none
def c70:Ctr:=⟨[((.int .u64),.imm)],[((.int .i64),false)],Int,fun x=>tz64 x.1,fun r=>((),(r,())),none⟩
abbrev qc0:SG:=⟨[(3,.v (.int .i64)),(6,.v (.sl (.int .u64))),(7,.v (.int .i64)),(8,.v (.int .i64))],[],[],[]⟩
abbrev qdL:List (Ex×SG):=[(.exit 0,⟨[(3,.v (.int .i64))],[],[],[]⟩),(.ret,⟨[(2,.v (.int .i64))],[],[],[]⟩)]
def qdK (g:((Int×(List Int)×Int×Int×Unit)×Unit)->Option (((Int×Unit)×Unit) ⊕ ((Int×Unit)×Unit))):((Int×(List Int)×Int×Int×Unit)×Unit)->Option (((Int×Unit)×Unit) ⊕ ((Int×Unit)×Unit))
 | ((n_3,v_6,v_7,v_8,_),_)=>bif (decide (v_8<v_7)) then (bif decide (0<=v_8) then (v_6[v_8.toNat]?).bind fun x1=>bif (!decide (x1=0)) then ((tz64 x1).bind fun r2=>some (.inr (((iadd .i64 (imul .i64 32 v_8) r2),()),()))) else (g (((iadd .i64 n_3 32),v_6,v_7,(iadd .i64 v_8 1),()),())) else none) else (some (.inl ((n_3,()),())))
def qcM (a_0:List Int):Option Int :=
 (lp qdK K0 ((0,a_0,(a_0.length:Int),0,()),())).bind fun t3=>(match t3 with | .inl t4=>some t4.1.1 | .inr t5=>some t5.1.1)
def c55:Ctr:=⟨[((.sl (.int .u64)),.imm)],[((.int .i64),false)],Int,fun x=>qcM x.1,fun r=>((),(r,())),none⟩
def qeF (a_0:List Int) (i_1:Int):Option Int :=
 bif (decide (i_1<(a_0.length:Int))) then (bif decide (0<=i_1) then (a_0[i_1.toNat]?).bind fun x1=>some x1 else none) else (some 0)
def c63:Ctr:=⟨[((.sl (.int .u64)),.imm),((.int .i64),.imm)],[((.int .u64),false)],Int,fun x=>qeF x.1 x.2.1,fun r=>((),(r,())),none⟩
abbrev qea:SG:=⟨[(0,.v (.sl (.int .u64))),(5,.v (.int .i64)),(6,.v (.int .i64)),(7,.o (.int .u64) 63),(23,.v (.int .i64)),(24,.v (.int .i64))],[],[],[]⟩
abbrev qfb:List (Ex×SG):=[(.exit 0,⟨[(7,.o (.int .u64) 63)],[],[],[]⟩)]
abbrev qiD:=(((List Int)×Int×Int×(List Int)×Int×Int×Unit)×Unit)
abbrev qiC:=(((List Int)×Unit)×Unit)
def qfa (g:qiD->Option qiC):qiD->Option qiC
 | ((a_0,words_5,s_6,out_7,v_23,v_24,_),_)=>bif (decide (v_24<v_23)) then ((qeF a_0 (iadd .i64 (iadd .i64 v_24 words_5) 1)).bind fun r1=>bif decide (0<=(iadd .i64 v_24 words_5)) then (a_0[(iadd .i64 v_24 words_5).toNat]?).bind fun x2=>bif decide (s_6<0) then none else (bif decide (0<=v_24)&&decide (v_24<(out_7.length:Int)) then (out_7[v_24.toNat]?).bind fun _=>g ((a_0,words_5,s_6,(out_7.set v_24.toNat (iand .u64 (shrV .u64 (ior .u64 (shlV .u64 r1 32) x2) s_6) 4294967295)),v_23,(iadd .i64 v_24 1),()),()) else none) else none) else (some ((out_7,()),()))
def qeu (a_0:List Int) (n_1:Int):Option (List Int) :=
 bif (decide ((iquo .i64 n_1 32)>=(a_0.length:Int))) then (some ([])) else (bif decide ((isub .i64 (a_0.length:Int) (iquo .i64 n_1 32))=(isub .i64 (a_0.length:Int) (iquo .i64 n_1 32)))&&decide (0<=(isub .i64 (a_0.length:Int) (iquo .i64 n_1 32)))&&decide (((8:Nat):Int)*(isub .i64 (a_0.length:Int) (iquo .i64 n_1 32))<=281474976710656)&&decide ((isub .i64 (a_0.length:Int) (iquo .i64 n_1 32))<=9223372036854775807) then (lp qfa K0 ((a_0,(iquo .i64 n_1 32),(irem n_1 32),(List.replicate (isub .i64 (a_0.length:Int) (iquo .i64 n_1 32)).toNat (0:Int)),((List.replicate (isub .i64 (a_0.length:Int) (iquo .i64 n_1 32)).toNat (0:Int)).length:Int),0,()),())).bind fun t4=>(qcO t4.1.1).bind fun r5=>some r5 else none)
def c56:Ctr:=⟨[((.sl (.int .u64)),.imm),((.int .i64),.imm)],[((.sl (.int .u64)),true)],(List Int),fun x=>qeu x.1 x.2.1,fun r=>((),(r,())),none⟩
abbrev qc2:SG:=⟨[(0,.v (.sl (.int .u64))),(1,.v (.sl (.int .u64))),(5,.v (.int .i64))],[],[],[]⟩
abbrev qdP:List (Ex×SG):=[(.exit 1,⟨[],[],[],[]⟩),(.ret,⟨[(4,.v (.int .i64))],[],[],[]⟩)]
def qdO (g:(((List Int)×(List Int)×Int×Unit)×Unit)->Option ((Unit×Unit) ⊕ ((Int×Unit)×Unit))):(((List Int)×(List Int)×Int×Unit)×Unit)->Option ((Unit×Unit) ⊕ ((Int×Unit)×Unit))
 | ((a_0,b_1,i_5,_),_)=>bif (decide (i_5>=0)) then (bif decide (0<=i_5) then (a_0[i_5.toNat]?).bind fun x1=>bif decide (0<=i_5) then (b_1[i_5.toNat]?).bind fun x2=>bif (decide (x1<x2)) then (some (.inr (((-1),()),()))) else (bif decide (0<=i_5) then (a_0[i_5.toNat]?).bind fun x3=>bif decide (0<=i_5) then (b_1[i_5.toNat]?).bind fun x4=>bif (decide (x3>x4)) then (some (.inr ((1,()),()))) else (g ((a_0,b_1,(isub .i64 i_5 1),()),())) else none else none) else none else none) else (some (.inl ((()),())))
def qfe (a_0:List Int) (b_1:List Int):Option Int :=
 bif (decide ((a_0.length:Int)<(b_1.length:Int))) then (some (-1)) else (bif (decide ((a_0.length:Int)>(b_1.length:Int))) then (some 1) else ((lp qdO K0 ((a_0,b_1,(isub .i64 (a_0.length:Int) 1),()),())).bind fun t5=>(match t5 with | .inl t6=>some 0 | .inr t7=>some t7.1.1)))
def c57:Ctr:=⟨[((.sl (.int .u64)),.imm),((.sl (.int .u64)),.imm)],[((.int .i64),false)],Int,fun x=>qfe x.1 x.2.1,fun r=>((),(r,())),none⟩
abbrev qeb:SG:=⟨[(5,.v (.int .i64)),(6,.v (.int .i64)),(7,.o (.int .u64) 63),(20,.v (.sl (.int .u64))),(21,.v (.int .i64)),(22,.v (.int .i64))],[],[],[]⟩
abbrev qfd:List (Ex×SG):=[(.exit 0,⟨[(7,.o (.int .u64) 63)],[],[],[]⟩)]
abbrev qiF:=((Int×Int×(List Int)×(List Int)×Int×Int×Unit)×Unit)
abbrev qiE:=(((List Int)×Unit)×Unit)
def qfc (g:qiF->Option qiE):qiF->Option qiE
 | ((words_5,s_6,out_7,v_20,v_21,v_22,_),_)=>bif (decide (v_22<v_21)) then (bif decide (0<=v_22) then (v_20[v_22.toNat]?).bind fun x1=>bif decide (s_6<0) then none else (bif decide (0<=(iadd .i64 v_22 words_5))&&decide ((iadd .i64 v_22 words_5)<(out_7.length:Int)) then (out_7[(iadd .i64 v_22 words_5).toNat]?).bind fun x2=>bif decide (0<=(iadd .i64 v_22 words_5))&&decide ((iadd .i64 v_22 words_5)<(out_7.length:Int)) then (out_7[(iadd .i64 v_22 words_5).toNat]?).bind fun _=>bif decide (0<=(iadd .i64 (iadd .i64 v_22 words_5) 1))&&decide ((iadd .i64 (iadd .i64 v_22 words_5) 1)<((out_7.set ((iadd .i64 v_22 words_5).toNat) (ior .u64 x2 (iand .u64 (shlV .u64 x1 s_6) 4294967295))).length:Int)) then ((out_7.set ((iadd .i64 v_22 words_5).toNat) (ior .u64 x2 (iand .u64 (shlV .u64 x1 s_6) 4294967295)))[(iadd .i64 (iadd .i64 v_22 words_5) 1).toNat]?).bind fun _=>g ((words_5,s_6,((out_7.set ((iadd .i64 v_22 words_5).toNat) (ior .u64 x2 (iand .u64 (shlV .u64 x1 s_6) 4294967295))).set ((iadd .i64 (iadd .i64 v_22 words_5) 1).toNat) (shrV .u64 (shlV .u64 x1 s_6) 32)),v_20,v_21,(iadd .i64 v_22 1),()),()) else none else none else none) else none) else (some ((out_7,()),()))
def qg7 (a_0:List Int) (n_1:Int):Option (List Int) :=
 bif decide ((iadd .i64 (iadd .i64 (a_0.length:Int) (iquo .i64 n_1 32)) 1)=(iadd .i64 (iadd .i64 (a_0.length:Int) (iquo .i64 n_1 32)) 1))&&decide (0<=(iadd .i64 (iadd .i64 (a_0.length:Int) (iquo .i64 n_1 32)) 1))&&decide (((8:Nat):Int)*(iadd .i64 (iadd .i64 (a_0.length:Int) (iquo .i64 n_1 32)) 1)<=281474976710656)&&decide ((iadd .i64 (iadd .i64 (a_0.length:Int) (iquo .i64 n_1 32)) 1)<=9223372036854775807) then (lp qfc K0 (((iquo .i64 n_1 32),(irem n_1 32),(List.replicate (iadd .i64 (iadd .i64 (a_0.length:Int) (iquo .i64 n_1 32)) 1).toNat (0:Int)),a_0,(a_0.length:Int),0,()),())).bind fun t5=>(qcO t5.1.1).bind fun r6=>some r6 else none
def c58:Ctr:=⟨[((.sl (.int .u64)),.imm),((.int .i64),.imm)],[((.sl (.int .u64)),true)],(List Int),fun x=>qg7 x.1 x.2.1,fun r=>((),(r,())),none⟩
abbrev qc1:SG:=⟨[(0,.v (.sl (.int .u64))),(1,.v (.int .u64)),(6,.o (.int .u64) 55),(7,.v (.int .u64)),(8,.v (.int .i64))],[],[],[]⟩
abbrev qdN:List (Ex×SG):=[(.exit 0,⟨[(6,.o (.int .u64) 55),(7,.v (.int .u64))],[],[],[]⟩)]
def qdM (g:(((List Int)×Int×(List Int)×Int×Int×Unit)×Unit)->Option (((List Int)×Int×Unit)×Unit)):(((List Int)×Int×(List Int)×Int×Int×Unit)×Unit)->Option (((List Int)×Int×Unit)×Unit)
 | ((a_0,d_1,out_6,rest_7,i_8,_),_)=>bif (decide (i_8>=0)) then (bif decide (0<=i_8) then (a_0[i_8.toNat]?).bind fun x1=>bif decide (d_1=0) then none else (bif decide (0<=i_8)&&decide (i_8<(out_6.length:Int)) then (out_6[i_8.toNat]?).bind fun _=>bif decide (d_1=0) then none else (g ((a_0,d_1,(out_6.set i_8.toNat (iquo .u64 (ior .u64 (shlV .u64 rest_7 32) x1) d_1)),(irem (ior .u64 (shlV .u64 rest_7 32) x1) d_1),(isub .i64 i_8 1),()),())) else none) else none) else (some ((out_6,rest_7,()),()))
def qjB (a_0:List Int) (d_1:Int):Option ((List Int)×Int) :=
 bif decide ((a_0.length:Int)=(a_0.length:Int))&&decide (0<=(a_0.length:Int))&&decide (((8:Nat):Int)*(a_0.length:Int)<=281474976710656)&&decide ((a_0.length:Int)<=9223372036854775807) then (lp qdM K0 ((a_0,d_1,(List.replicate (a_0.length:Int).toNat (0:Int)),0,(isub .i64 (a_0.length:Int) 1),()),())).bind fun t3=>(qcO t3.1.1).bind fun r4=>some (r4,t3.1.2.1) else none
def c61:Ctr:=⟨[((.sl (.int .u64)),.imm),((.int .u64),.imm)],[((.sl (.int .u64)),true),((.int .u64),false)],(List Int)×Int,fun x=>qjB x.1 x.2.1,fun r=>((),(r.1,r.2,())),none⟩
def qpq (a0:Int):Option Int:=bif decide (0<=a0)&&decide (a0<4294967296) then some ((lenN a0.toNat:Nat):Int) else none
def c76:Ctr:=⟨[((.int .u32),.imm)],[((.int .i64),false)],Int,fun x=>qpq x.1,fun r=>((),(r,())),none⟩
def qcT (x_0:Int):Option Int :=
 (qpq x_0).bind fun r1=>some (isub .i64 32 r1)
def c71:Ctr:=⟨[((.int .u32),.imm)],[((.int .i64),false)],Int,fun x=>qcT x.1,fun r=>((),(r,())),none⟩
abbrev qdA:SG:=⟨[(0,.l (.int .u64) 0),(1,.v (.sl (.int .u64))),(2,.v (.int .u64)),(7,.v (.int .u64)),(8,.v (.int .u64)),(12,.v (.int .i64)),(13,.v (.int .i64))],[],[],[]⟩
abbrev qet:List (Ex×SG):=[(.exit 0,⟨[(0,.l (.int .u64) 0),(8,.v (.int .u64))],[],[],[]⟩)]
abbrev qhB:=(((List Int)×(List Int)×Int×Int×Int×Int×Int×Unit)×Unit)
abbrev qhA:=(((List Int)×Int×Unit)×Unit)
def qes (g:qhB->Option qhA):qhB->Option qhA
 | ((u_0,v_1,times_2,carry_7,debt_8,v_12,v_13,_),_)=>bif (decide (v_13<v_12)) then ((qeF v_1 v_13).bind fun r1=>bif decide (0<=v_13)&&decide (v_13<(u_0.length:Int)) then (u_0[v_13.toNat]?).bind fun x2=>bif decide (0<=v_13)&&decide (v_13<(u_0.length:Int)) then (u_0[v_13.toNat]?).bind fun _=>g (((u_0.set v_13.toNat (iand .u64 (isub .u64 (isub .u64 (iadd .u64 4294967296 x2) (iand .u64 (iadd .u64 carry_7 (imul .u64 times_2 r1)) 4294967295)) debt_8) 4294967295)),v_1,times_2,(shrV .u64 (iadd .u64 carry_7 (imul .u64 times_2 r1)) 32),(isub .u64 1 (shrV .u64 (isub .u64 (isub .u64 (iadd .u64 4294967296 x2) (iand .u64 (iadd .u64 carry_7 (imul .u64 times_2 r1)) 4294967295)) debt_8) 32)),v_12,(iadd .i64 v_13 1),()),()) else none else none) else (some ((u_0,debt_8,()),()))
def qkY (u_0:List Int) (v_1:List Int) (times_2:Int):Option ((List Int)×Bool) :=
 (lp qes K0 ((u_0,v_1,times_2,0,0,(u_0.length:Int),0,()),())).bind fun t4=>(bif Nat.beq t4.1.1.length u_0.length then some (t4.1.1,()) else none).bind fun l5=>some (l5.1,(decide (t4.1.2.1=1)))
def c77:Ctr:=⟨[((.sl (.int .u64)),.lent),((.sl (.int .u64)),.imm),((.int .u64),.imm)],[(.bool,false)],(List Int)×Bool,fun x=>qkY x.1 x.2.1 x.2.2.1,fun r=>((r.1,()),(r.2,())),none⟩
abbrev qdC:SG:=⟨[(0,.l (.int .u64) 0),(1,.v (.sl (.int .u64))),(4,.v (.int .u64)),(7,.v (.int .i64)),(8,.v (.int .i64))],[],[],[]⟩
abbrev qey:List (Ex×SG):=[(.exit 0,⟨[(0,.l (.int .u64) 0)],[],[],[]⟩)]
def qex (g:(((List Int)×(List Int)×Int×Int×Int×Unit)×Unit)->Option (((List Int)×Unit)×Unit)):(((List Int)×(List Int)×Int×Int×Int×Unit)×Unit)->Option (((List Int)×Unit)×Unit)
 | ((u_0,v_1,carry_4,v_7,v_8,_),_)=>bif (decide (v_8<v_7)) then (bif decide (0<=v_8)&&decide (v_8<(u_0.length:Int)) then (u_0[v_8.toNat]?).bind fun x1=>(qeF v_1 v_8).bind fun r2=>bif decide (0<=v_8)&&decide (v_8<(u_0.length:Int)) then (u_0[v_8.toNat]?).bind fun _=>g (((u_0.set v_8.toNat (iand .u64 (iadd .u64 carry_4 (iadd .u64 x1 r2)) 4294967295)),v_1,(shrV .u64 (iadd .u64 carry_4 (iadd .u64 x1 r2)) 32),v_7,(iadd .i64 v_8 1),()),()) else none else none) else (some ((u_0,()),()))
def qk0 (u_0:List Int) (v_1:List Int):Option (List Int) :=
 (lp qex K0 ((u_0,v_1,0,(u_0.length:Int),0,()),())).bind fun t4=>(bif Nat.beq t4.1.1.length u_0.length then some (t4.1.1,()) else none).bind fun l5=>some l5.1
def c78:Ctr:=⟨[((.sl (.int .u64)),.lent),((.sl (.int .u64)),.imm)],[],(List Int),fun x=>qk0 x.1 x.2.1,fun r=>((r,()),()),none⟩
abbrev qc4:SG:=⟨[(0,.l (.int .u64) 0),(1,.v (.sl (.int .u64))),(5,.v (.int .i64)),(7,.v (.int .u64)),(8,.v (.int .u64))],[],[],[]⟩
abbrev qdT:List (Ex×SG):=[(.exit 0,⟨[(0,.l (.int .u64) 0),(1,.v (.sl (.int .u64))),(7,.v (.int .u64))],[],[],[]⟩)]
def qdS (g:(((List Int)×(List Int)×Int×Int×Int×Unit)×Unit)->Option (((List Int)×(List Int)×Int×Unit)×Unit)):(((List Int)×(List Int)×Int×Int×Int×Unit)×Unit)->Option (((List Int)×(List Int)×Int×Unit)×Unit)
 | ((v_0,v_1,v_5,v_7,v_8,_),_)=>bif (decide (v_7>=4294967296)) then (bif decide (0<=(isub .i64 v_5 1)) then (v_1[(isub .i64 v_5 1).toNat]?).bind fun x5=>bif (decide ((iadd .u64 v_8 x5)>=4294967296)) then (some ((v_0,v_1,(isub .u64 v_7 1),()),())) else (g ((v_0,v_1,v_5,(isub .u64 v_7 1),(iadd .u64 v_8 x5),()),())) else none) else (bif decide (0<=(isub .i64 v_5 2)) then (v_1[(isub .i64 v_5 2).toNat]?).bind fun x6=>bif decide (0<=(isub .i64 v_5 2))&&decide ((isub .i64 v_5 2)<(v_0.length:Int)) then (v_0[(isub .i64 v_5 2).toNat]?).bind fun x7=>bif (decide ((imul .u64 v_7 x6)>(ior .u64 (shlV .u64 v_8 32) x7))) then (bif decide (0<=(isub .i64 v_5 1)) then (v_1[(isub .i64 v_5 1).toNat]?).bind fun x8=>bif (decide ((iadd .u64 v_8 x8)>=4294967296)) then (some ((v_0,v_1,(isub .u64 v_7 1),()),())) else (g ((v_0,v_1,v_5,(isub .u64 v_7 1),(iadd .u64 v_8 x8),()),())) else none) else (some ((v_0,v_1,v_7,()),())) else none else none)
def qjE (a_0:List Int) (a_1:List Int):Option ((List Int)×Int) :=
 bif decide (0<=(a_1.length:Int))&&decide ((a_1.length:Int)<(a_0.length:Int)) then (a_0[(a_1.length:Int).toNat]?).bind fun x1=>bif decide (0<=(isub .i64 (a_1.length:Int) 1))&&decide ((isub .i64 (a_1.length:Int) 1)<(a_0.length:Int)) then (a_0[(isub .i64 (a_1.length:Int) 1).toNat]?).bind fun x2=>bif decide (0<=(isub .i64 (a_1.length:Int) 1)) then (a_1[(isub .i64 (a_1.length:Int) 1).toNat]?).bind fun x3=>bif decide (x3=0) then none else (bif decide (0<=(isub .i64 (a_1.length:Int) 1)) then (a_1[(isub .i64 (a_1.length:Int) 1).toNat]?).bind fun x4=>bif decide (x4=0) then none else ((lp qdS K0 ((a_0,a_1,(a_1.length:Int),(iquo .u64 (ior .u64 (shlV .u64 x1 32) x2) x3),(irem (ior .u64 (shlV .u64 x1 32) x2) x4),()),())).bind fun t9=>(qkY t9.1.1 t9.1.2.1 t9.1.2.2.1).bind fun r10=>bif r10.2 then ((qk0 (over t9.1.1 0 r10.1) t9.1.2.1).bind fun r11=>(bif Nat.beq (over (over t9.1.1 0 r10.1) 0 r11).length a_0.length then some ((over (over t9.1.1 0 r10.1) 0 r11),()) else none).bind fun l12=>some (l12.1,(isub .u64 t9.1.2.2.1 1))) else ((bif Nat.beq (over t9.1.1 0 r10.1).length a_0.length then some ((over t9.1.1 0 r10.1),()) else none).bind fun l13=>some (l13.1,t9.1.2.2.1))) else none) else none else none else none
def c72:Ctr:=⟨[((.sl (.int .u64)),.lent),((.sl (.int .u64)),.imm)],[((.int .u64),false)],(List Int)×Int,fun x=>qjE x.1 x.2.1,fun r=>((r.1,()),(r.2,())),none⟩
abbrev qdB:SG:=⟨[(6,.v (.int .i64)),(7,.v (.sl (.int .u64))),(8,.o (.int .u64) 71),(9,.v (.int .i64)),(10,.o (.int .u64) 87),(11,.v (.int .i64))],[],[],[]⟩
abbrev qew:List (Ex×SG):=[(.exit 0,⟨[(6,.v (.int .i64)),(8,.o (.int .u64) 71),(10,.o (.int .u64) 87)],[],[],[]⟩)]
abbrev qhD:=((Int×(List Int)×(List Int)×Int×(List Int)×Int×Unit)×Unit)
abbrev qhC:=((Int×(List Int)×(List Int)×Unit)×Unit)
def qev (g:qhD->Option qhC):qhD->Option qhC
 | ((s_6,v_7,u_8,n_9,q_10,j_11,_),_)=>bif (decide (j_11>=0)) then (bif decide (0<=j_11)&&decide ((j_11:Int)<=(iadd .i64 (iadd .i64 j_11 n_9) 1))&&decide (((iadd .i64 (iadd .i64 j_11 n_9) 1):Int)<=(iadd .i64 (iadd .i64 j_11 n_9) 1))&&decide (((iadd .i64 (iadd .i64 j_11 n_9) 1):Int)<=(u_8.length:Int)) then (qjE ((u_8.drop j_11.toNat).take (((iadd .i64 (iadd .i64 j_11 n_9) 1)-j_11).toNat)) v_7).bind fun r5=>bif decide (0<=j_11)&&decide (j_11<(q_10.length:Int)) then (q_10[j_11.toNat]?).bind fun _=>g ((s_6,v_7,(over u_8 j_11.toNat r5.1),n_9,(q_10.set j_11.toNat r5.2),(isub .i64 j_11 1),()),()) else none else none) else (some ((s_6,u_8,q_10,()),()))
def qkZ (a_0:List Int) (b_1:List Int):Option ((List Int)×(List Int)) :=
 bif decide (0<=(isub .i64 (b_1.length:Int) 1)) then (b_1[(isub .i64 (b_1.length:Int) 1).toNat]?).bind fun x1=>(qcT (IntKind.wrap .u32 x1)).bind fun r2=>(qg7 b_1 r2).bind fun r3=>(qg7 a_0 r2).bind fun r4=>bif Nat.ble ((r4.length+2)*8) 140737488355328&&!false then bif decide ((0:Int)<=(iadd .i64 (a_0.length:Int) 1))&&decide (((iadd .i64 (a_0.length:Int) 1):Int)<=(iadd .i64 (a_0.length:Int) 1))&&decide (((iadd .i64 (a_0.length:Int) 1):Int)<=((r4++([0,0]:List Int)).length:Int)) then bif decide ((isub .i64 (((iadd .i64 (a_0.length:Int) 1)-0).toNat:Int) (r3.length:Int))=(isub .i64 (((iadd .i64 (a_0.length:Int) 1)-0).toNat:Int) (r3.length:Int)))&&decide (0<=(isub .i64 (((iadd .i64 (a_0.length:Int) 1)-0).toNat:Int) (r3.length:Int)))&&decide (((8:Nat):Int)*(isub .i64 (((iadd .i64 (a_0.length:Int) 1)-0).toNat:Int) (r3.length:Int))<=281474976710656)&&decide ((isub .i64 (((iadd .i64 (a_0.length:Int) 1)-0).toNat:Int) (r3.length:Int))<=9223372036854775807) then (lp qev K0 ((r2,r3,((r4++([0,0]:List Int)).take (((iadd .i64 (a_0.length:Int) 1)-0).toNat)),(r3.length:Int),(List.replicate (isub .i64 (((iadd .i64 (a_0.length:Int) 1)-0).toNat:Int) (r3.length:Int)).toNat (0:Int)),(isub .i64 ((List.replicate (isub .i64 (((iadd .i64 (a_0.length:Int) 1)-0).toNat:Int) (r3.length:Int)).toNat (0:Int)).length:Int) 1),()),())).bind fun t7=>(qcO t7.1.2.2.1).bind fun r8=>(qcO t7.1.2.1).bind fun r9=>(qeu r9 t7.1.1).bind fun r10=>some (r8,r10) else none else none else none else none
def c62:Ctr:=⟨[((.sl (.int .u64)),.imm),((.sl (.int .u64)),.imm)],[((.sl (.int .u64)),true),((.sl (.int .u64)),true)],(List Int)×(List Int),fun x=>qkZ x.1 x.2.1,fun r=>((),(r.1,r.2,())),none⟩
def qdF (a_0:List Int) (b_1:List Int):Option ((List Int)×(List Int)×Int) :=
 (qa3 a_0).bind fun r1=>(qa3 b_1).bind fun r2=>bif (decide ((r2.length:Int)=0)) then (some ([],[],2)) else ((qfe r1 r2).bind fun r3=>bif (decide (r3<0)) then (some ([],r1,0)) else (bif (decide ((r2.length:Int)=1)) then (bif decide ((0:Int)<(r2.length:Int)) then (r2[0]?).bind fun x4=>(qjB r1 x4).bind fun r5=>(qhE r5.2).bind fun r6=>some (r5.1,r6,0) else none) else ((qkZ r1 r2).bind fun r7=>some (r7.1,r7.2,0))))
def c44:Ctr:=⟨[((.sl (.int .u64)),.imm),((.sl (.int .u64)),.imm)],[((.sl (.int .u64)),true),((.sl (.int .u64)),false),((.int .i64),false)],(List Int)×(List Int)×Int,fun x=>qdF x.1 x.2.1,fun r=>((),(r.1,r.2.1,r.2.2,())),none⟩
def qiU (a_0:List Int) (b_1:List Int):Option ((List Int)×(List Int)) :=
 (qdF a_0 b_1).bind fun r1=>some (r1.1,r1.2.1)
def c59:Ctr:=⟨[((.sl (.int .u64)),.imm),((.sl (.int .u64)),.imm)],[((.sl (.int .u64)),true),((.sl (.int .u64)),false)],(List Int)×(List Int),fun x=>qiU x.1 x.2.1,fun r=>((),(r.1,r.2,())),none⟩
abbrev qc3:SG:=⟨[(0,.v (.sl (.int .u64))),(1,.v (.sl (.int .u64))),(5,.o (.int .u64) 47),(6,.v (.int .u64)),(13,.v (.int .i64)),(14,.v (.int .i64))],[],[],[]⟩
abbrev qdR:List (Ex×SG):=[(.exit 0,⟨[(5,.o (.int .u64) 47)],[],[],[]⟩)]
abbrev qg1:=(((List Int)×(List Int)×(List Int)×Int×Int×Int×Unit)×Unit)
abbrev qg0:=(((List Int)×Unit)×Unit)
def qdQ (g:qg1->Option qg0):qg1->Option qg0
 | ((a_0,b_1,out_5,debt_6,v_13,v_14,_),_)=>bif (decide (v_14<v_13)) then (bif decide (0<=v_14) then (a_0[v_14.toNat]?).bind fun x1=>(qeF b_1 v_14).bind fun r2=>bif decide (0<=v_14)&&decide (v_14<(out_5.length:Int)) then (out_5[v_14.toNat]?).bind fun _=>g ((a_0,b_1,(out_5.set v_14.toNat (iand .u64 (isub .u64 (isub .u64 (iadd .u64 4294967296 x1) r2) debt_6) 4294967295)),(isub .u64 1 (shrV .u64 (isub .u64 (isub .u64 (iadd .u64 4294967296 x1) r2) debt_6) 32)),v_13,(iadd .i64 v_14 1),()),()) else none else none) else (some ((out_5,()),()))
def qgm (a_0:List Int) (b_1:List Int):Option (List Int) :=
 bif decide ((a_0.length:Int)=(a_0.length:Int))&&decide (0<=(a_0.length:Int))&&decide (((8:Nat):Int)*(a_0.length:Int)<=281474976710656)&&decide ((a_0.length:Int)<=9223372036854775807) then (lp qdQ K0 ((a_0,b_1,(List.replicate (a_0.length:Int).toNat (0:Int)),0,((List.replicate (a_0.length:Int).toNat (0:Int)).length:Int),0,()),())).bind fun t4=>(qcO t4.1.1).bind fun r5=>some r5 else none
def c60:Ctr:=⟨[((.sl (.int .u64)),.imm),((.sl (.int .u64)),.imm)],[((.sl (.int .u64)),true)],(List Int),fun x=>qgm x.1 x.2.1,fun r=>((),(r,())),none⟩
abbrev qdE:SG:=⟨[(0,.o (.int .u64) 7),(1,.v (.sl (.int .u64))),(5,.v (.int .i64)),(6,.v (.int .i64))],[],[],[]⟩
abbrev qez:List (Ex×SG):=[(.ret,⟨[(4,.o (.int .u64) 39)],[],[],[]⟩)]
def qdD (g:(((List Int)×(List Int)×Int×Int×Unit)×Unit)->Option (((List Int)×Unit)×Unit)):(((List Int)×(List Int)×Int×Int×Unit)×Unit)->Option (((List Int)×Unit)×Unit)
 | ((v_0,v_1,v_5,v_6,_),_)=>(qfe v_0 v_1).bind fun r8=>bif (decide (r8=0)) then ((qg7 v_0 (mn v_5 v_6)).bind fun r9=>some ((r9,()),())) else (bif (decide (r8<0)) then (bif (decide ((v_1.length:Int)>(iadd .i64 (v_0.length:Int) 1))) then ((qiU v_1 v_0).bind fun r10=>bif (decide ((r10.2.length:Int)=0)) then ((qg7 v_0 (mn v_5 v_6)).bind fun r11=>some ((r11,()),())) else ((qcM r10.2).bind fun r12=>(qeu r10.2 r12).bind fun r13=>g ((r13,v_0,v_5,v_6,()),()))) else ((qgm v_1 v_0).bind fun r14=>(qcM r14).bind fun r15=>(qeu r14 r15).bind fun r16=>g ((r16,v_0,v_5,v_6,()),()))) else (bif (decide ((v_0.length:Int)>(iadd .i64 (v_1.length:Int) 1))) then ((qiU v_0 v_1).bind fun r17=>bif (decide ((r17.2.length:Int)=0)) then ((qg7 v_1 (mn v_5 v_6)).bind fun r18=>some ((r18,()),())) else ((qcM r17.2).bind fun r19=>(qeu r17.2 r19).bind fun r20=>g ((r20,v_1,v_5,v_6,()),()))) else ((qgm v_0 v_1).bind fun r21=>(qcM r21).bind fun r22=>(qeu r21 r22).bind fun r23=>g ((r23,v_1,v_5,v_6,()),()))))
def qmY (a_0:List Int) (a_1:List Int):Option (List Int) :=
 (qa3 a_0).bind fun r1=>(qa3 a_1).bind fun r2=>bif (decide ((r1.length:Int)=0)) then (some r2) else (bif (decide ((r2.length:Int)=0)) then (some r1) else (bif (decide ((r1.length:Int)<=2)) then (bif (decide ((r2.length:Int)<=2)) then ((qh5 r1 r2).bind fun r3=>some r3) else ((qcM r1).bind fun r4=>(qcM r2).bind fun r5=>(qeu r1 r4).bind fun r6=>(qeu r2 r5).bind fun r7=>(lp qdD K0 ((r6,r7,r4,r5,()),())).bind fun t24=>some t24.1.1)) else ((qcM r1).bind fun r25=>(qcM r2).bind fun r26=>(qeu r1 r25).bind fun r27=>(qeu r2 r26).bind fun r28=>(lp qdD K0 ((r27,r28,r25,r26,()),())).bind fun t29=>some t29.1.1)))
def c43:Ctr:=⟨[((.sl (.int .u64)),.imm),((.sl (.int .u64)),.imm)],[((.sl (.int .u64)),true)],(List Int),fun x=>qmY x.1 x.2.1,fun r=>((),(r,())),none⟩
def qdv (num_0:WH) (den_1:List Int):Option RAT :=
 bif (decide ((num_0.2.length:Int)=0)) then ((qhE 1).bind fun r1=>some ((false,[]),r1)) else ((qmY num_0.2 den_1).bind fun r2=>bif (decide ((r2.length:Int)=1)) then (bif decide ((0:Int)<(r2.length:Int)) then (r2[0]?).bind fun x3=>bif (decide (x3=1)) then (some (num_0,den_1)) else ((qdF num_0.2 r2).bind fun r4=>(qdF den_1 r2).bind fun r5=>some ((num_0.1,r4.1),r5.1)) else none) else ((qdF num_0.2 r2).bind fun r6=>(qdF den_1 r2).bind fun r7=>some ((num_0.1,r6.1),r7.1)))
def c29:Ctr:=⟨[(tWH,.imm),((.sl (.int .u64)),.imm)],[(tRAT,false)],RAT,fun x=>qdv x.1 x.2.1,fun r=>((),(r,())),none⟩
def qbN (neg_0:Bool) (abs_1:List Int):Option WH :=
 bif neg_0 then (some ((decide ((abs_1.length:Int)>0)),abs_1)) else (some (false,abs_1))
def c45:Ctr:=⟨[(.bool,.imm),((.sl (.int .u64)),.imm)],[(tWH,false)],WH,fun x=>qbN x.1 x.2.1,fun r=>((),(r,())),none⟩
def qaZ (a_0:WH):Option WH :=
 (qa3 a_0.2).bind fun r1=>(qbN a_0.1 r1).bind fun r2=>some r2
def c30:Ctr:=⟨[(tWH,.imm)],[(tWH,false)],WH,fun x=>qaZ x.1,fun r=>((),(r,())),none⟩
def qa0 (a_0:RAT):Option RAT :=
 (qa3 a_0.2).bind fun r1=>bif (decide ((r1.length:Int)=0)) then ((qd8 ).bind fun r2=>some r2) else ((qaZ a_0.1).bind fun r3=>(qdv r3 r1).bind fun r4=>some r4)
def c16:Ctr:=⟨[(tRAT,.imm)],[(tRAT,false)],RAT,fun x=>qa0 x.1,fun r=>((),(r,())),none⟩
abbrev qee:SG:=⟨[(0,.v (.sl (.int .u64))),(1,.v (.sl (.int .u64))),(5,.o (.int .u64) 47),(6,.v (.int .u64)),(20,.v (.int .i64)),(21,.v (.int .i64))],[],[],[]⟩
abbrev qfk:List (Ex×SG):=[(.exit 0,⟨[(5,.o (.int .u64) 47)],[],[],[]⟩)]
abbrev qiL:=(((List Int)×(List Int)×(List Int)×Int×Int×Int×Unit)×Unit)
abbrev qiK:=(((List Int)×Unit)×Unit)
def qfj (g:qiL->Option qiK):qiL->Option qiK
 | ((a_0,b_1,out_5,carry_6,v_20,v_21,_),_)=>bif (decide (v_21<v_20)) then ((qeF a_0 v_21).bind fun r3=>(qeF b_1 v_21).bind fun r4=>bif decide (0<=v_21)&&decide (v_21<(out_5.length:Int)) then (out_5[v_21.toNat]?).bind fun _=>g ((a_0,b_1,(out_5.set v_21.toNat (iand .u64 (iadd .u64 carry_6 (iadd .u64 r3 r4)) 4294967295)),(shrV .u64 (iadd .u64 carry_6 (iadd .u64 r3 r4)) 32),v_20,(iadd .i64 v_21 1),()),()) else none) else (some ((out_5,()),()))
def qmZ (a_0:List Int) (b_1:List Int):Option (List Int) :=
 (qa3 a_0).bind fun r1=>(qa3 b_1).bind fun r2=>bif decide ((iadd .i64 (mx (r1.length:Int) (r2.length:Int)) 1)=(iadd .i64 (mx (r1.length:Int) (r2.length:Int)) 1))&&decide (0<=(iadd .i64 (mx (r1.length:Int) (r2.length:Int)) 1))&&decide (((8:Nat):Int)*(iadd .i64 (mx (r1.length:Int) (r2.length:Int)) 1)<=281474976710656)&&decide ((iadd .i64 (mx (r1.length:Int) (r2.length:Int)) 1)<=9223372036854775807) then (lp qfj K0 ((r1,r2,(List.replicate (iadd .i64 (mx (r1.length:Int) (r2.length:Int)) 1).toNat (0:Int)),0,((List.replicate (iadd .i64 (mx (r1.length:Int) (r2.length:Int)) 1).toNat (0:Int)).length:Int),0,()),())).bind fun t6=>(qcO t6.1.1).bind fun r7=>some r7 else none
def c46:Ctr:=⟨[((.sl (.int .u64)),.imm),((.sl (.int .u64)),.imm)],[((.sl (.int .u64)),true)],(List Int),fun x=>qmZ x.1 x.2.1,fun r=>((),(r,())),none⟩
def qha (a_0:List Int) (b_1:List Int):Option Int :=
 (qa3 a_0).bind fun r1=>(qa3 b_1).bind fun r2=>(qfe r1 r2).bind fun r3=>some r3
def c47:Ctr:=⟨[((.sl (.int .u64)),.imm),((.sl (.int .u64)),.imm)],[((.int .i64),false)],Int,fun x=>qha x.1 x.2.1,fun r=>((),(r,())),none⟩
def qk4 (a_0:List Int) (b_1:List Int):Option ((List Int)×Int) :=
 (qa3 a_0).bind fun r1=>(qa3 b_1).bind fun r2=>(qfe r1 r2).bind fun r3=>bif (decide (r3<0)) then (some ([],3)) else ((qgm r1 r2).bind fun r4=>some (r4,0))
def c48:Ctr:=⟨[((.sl (.int .u64)),.imm),((.sl (.int .u64)),.imm)],[((.sl (.int .u64)),true),((.int .i64),false)],(List Int)×Int,fun x=>qk4 x.1 x.2.1,fun r=>((),(r.1,r.2,())),none⟩
def qi1 (a_0:WH) (b_1:WH):Option WH :=
 (qaZ a_0).bind fun r1=>(qaZ b_1).bind fun r2=>bif (r1.1 == r2.1) then ((qmZ r1.2 r2.2).bind fun r3=>(qbN r1.1 r3).bind fun r4=>some r4) else ((qha r1.2 r2.2).bind fun r5=>bif (decide (r5<0)) then ((qk4 r2.2 r1.2).bind fun r6=>(qbN r2.1 r6.1).bind fun r7=>some r7) else ((qk4 r1.2 r2.2).bind fun r8=>(qbN r1.1 r8.1).bind fun r9=>some r9))
def c32:Ctr:=⟨[(tWH,.imm),(tWH,.imm)],[(tWH,false)],WH,fun x=>qi1 x.1 x.2.1,fun r=>((),(r,())),none⟩
abbrev qec:SG:=⟨[(1,.v (.sl (.int .u64))),(5,.o (.int .u64) 47),(6,.v (.int .i64)),(7,.v (.int .u64)),(8,.v (.int .u64)),(21,.o (.int .u64) 175),(22,.v (.int .i64)),(23,.v (.int .i64)),(28,.v (.sl (.int .u64))),(29,.v (.int .i64)),(30,.v (.int .i64))],[],[],[]⟩
abbrev qfh:List (Ex×SG):=[(.exit 2,⟨[(1,.v (.sl (.int .u64))),(5,.o (.int .u64) 47),(6,.v (.int .i64)),(8,.v (.int .u64)),(21,.o (.int .u64) 175),(22,.v (.int .i64)),(23,.v (.int .i64))],[],[],[]⟩)]
abbrev qiH:=(((List Int)×(List Int)×Int×Int×Int×(List Int)×Int×Int×(List Int)×Int×Int×Unit)×Unit)
abbrev qiG:=(((List Int)×(List Int)×Int×Int×(List Int)×Int×Int×Unit)×Unit)
def qff (g:qiH->Option qiG):qiH->Option qiG
 | ((v_1,v_5,v_6,v_7,v_8,v_21,v_22,v_23,v_28,v_29,v_30,_),_)=>bif (decide (v_30<v_29)) then (bif decide (0<=v_30) then (v_28[v_30.toNat]?).bind fun x4=>bif decide (0<=(iadd .i64 v_6 v_30))&&decide ((iadd .i64 v_6 v_30)<(v_5.length:Int)) then (v_5[(iadd .i64 v_6 v_30).toNat]?).bind fun x5=>bif decide (0<=(iadd .i64 v_6 v_30))&&decide ((iadd .i64 v_6 v_30)<(v_5.length:Int)) then (v_5[(iadd .i64 v_6 v_30).toNat]?).bind fun _=>g ((v_1,(v_5.set ((iadd .i64 v_6 v_30).toNat) (iand .u64 (iadd .u64 v_8 (iadd .u64 x5 (imul .u64 v_7 x4))) 4294967295)),v_6,v_7,(shrV .u64 (iadd .u64 v_8 (iadd .u64 x5 (imul .u64 v_7 x4))) 32),v_21,v_22,v_23,v_28,v_29,(iadd .i64 v_30 1),()),()) else none else none else none) else (some ((v_1,v_5,v_6,v_8,v_21,v_22,v_23,()),()))
abbrev qed:SG:=⟨[(1,.v (.sl (.int .u64))),(5,.o (.int .u64) 47),(21,.o (.int .u64) 175),(22,.v (.int .i64)),(23,.v (.int .i64))],[],[],[]⟩
abbrev qfi:List (Ex×SG):=[(.exit 0,⟨[(5,.o (.int .u64) 47)],[],[],[]⟩)]
abbrev qiJ:=(((List Int)×(List Int)×(List Int)×Int×Int×Unit)×Unit)
abbrev qiI:=(((List Int)×Unit)×Unit)
def qfg (g:qiJ->Option qiI):qiJ->Option qiI
 | ((v_1,v_5,v_21,v_22,v_23,_),_)=>bif (decide (v_23<v_22)) then (bif decide (0<=v_23)&&decide (v_23<(v_21.length:Int)) then (v_21[v_23.toNat]?).bind fun x3=>(lp qff K0 ((v_1,v_5,v_23,x3,0,v_21,v_22,v_23,v_1,(v_1.length:Int),0,()),())).bind fun t7=>bif decide (0<=(iadd .i64 t7.1.2.2.1 (t7.1.1.length:Int)))&&decide ((iadd .i64 t7.1.2.2.1 (t7.1.1.length:Int))<(t7.1.2.1.length:Int)) then (t7.1.2.1[(iadd .i64 t7.1.2.2.1 (t7.1.1.length:Int)).toNat]?).bind fun _=>g ((t7.1.1,(t7.1.2.1.set ((iadd .i64 t7.1.2.2.1 (t7.1.1.length:Int)).toNat) t7.1.2.2.2.1),t7.1.2.2.2.2.1,t7.1.2.2.2.2.2.1,(iadd .i64 t7.1.2.2.2.2.2.2.1 1),()),()) else none else none) else (some ((v_5,()),()))
def qjF (a_0:List Int) (a_1:List Int):Option (List Int) :=
 (qa3 a_0).bind fun r1=>(qa3 a_1).bind fun r2=>bif decide ((iadd .i64 (r1.length:Int) (r2.length:Int))=(iadd .i64 (r1.length:Int) (r2.length:Int)))&&decide (0<=(iadd .i64 (r1.length:Int) (r2.length:Int)))&&decide (((8:Nat):Int)*(iadd .i64 (r1.length:Int) (r2.length:Int))<=281474976710656)&&decide ((iadd .i64 (r1.length:Int) (r2.length:Int))<=9223372036854775807) then (lp qfg K0 ((r2,(List.replicate (iadd .i64 (r1.length:Int) (r2.length:Int)).toNat (0:Int)),r1,(r1.length:Int),0,()),())).bind fun t9=>(qcO t9.1.1).bind fun r10=>some r10 else none
def c35:Ctr:=⟨[((.sl (.int .u64)),.imm),((.sl (.int .u64)),.imm)],[((.sl (.int .u64)),true)],(List Int),fun x=>qjF x.1 x.2.1,fun r=>((),(r,())),none⟩
def qeg (a_0:WH) (b_1:WH):Option WH :=
 (qaZ a_0).bind fun r1=>(qaZ b_1).bind fun r2=>(qjF r1.2 r2.2).bind fun r3=>(qbN (!(r1.1 == r2.1)) r3).bind fun r4=>some r4
def c33:Ctr:=⟨[(tWH,.imm),(tWH,.imm)],[(tWH,false)],WH,fun x=>qeg x.1 x.2.1,fun r=>((),(r,())),none⟩
def qek (a_0:RAT):Option WH :=
 some (false,a_0.2)
def c34:Ctr:=⟨[(tRAT,.imm)],[(tWH,false)],WH,fun x=>qek x.1,fun r=>((),(r,())),none⟩
def qdc (a_0:RAT) (b_1:RAT):Option RAT :=
 (qa0 a_0).bind fun r1=>(qa0 b_1).bind fun r2=>(qek r2).bind fun r3=>(qeg r1.1 r3).bind fun r4=>(qek r1).bind fun r5=>(qeg r2.1 r5).bind fun r6=>(qi1 r4 r6).bind fun r7=>(qjF r1.2 r2.2).bind fun r8=>(qdv r7 r8).bind fun r9=>some r9
def c18:Ctr:=⟨[(tRAT,.imm),(tRAT,.imm)],[(tRAT,false)],RAT,fun x=>qdc x.1 x.2.1,fun r=>((),(r,())),none⟩
abbrev qcU:SG:=⟨[(2,.p 16 0 0),(3,.p 24 0 0),(7,.v (.sl tRAT)),(8,.v (.int .i64)),(9,.v (.int .i64))],[(16,[.v .bool,.o (.int .u64) 18,.o (.int .u64) 19]),(24,[.v .bool,.v (.sl (.int .u64)),.v (.sl (.int .u64))])],[],[]⟩
abbrev qdI:List (Ex×SG):=[(.exit 0,⟨[(2,.p 16 0 0),(3,.p 24 0 0)],[(16,[.v .bool,.o (.int .u64) 18,.o (.int .u64) 19]),(24,[.v .bool,.v (.sl (.int .u64)),.v (.sl (.int .u64))])],[],[]⟩)]
abbrev qgW:=(((List RAT)×Int×Int×Unit)×((Bool×(List Int)×(List Int)×Unit)×(Bool×(List Int)×(List Int)×Unit)×Unit))
abbrev qgV:=(Unit×((Bool×(List Int)×(List Int)×Unit)×(Bool×(List Int)×(List Int)×Unit)×Unit))
def qdH (g:qgW->Option qgV):qgW->Option qgV
 | ((v_7,v_8,v_9,_),((b16_0,b16_1,b16_2,_),(b24_0,b24_1,b24_2,_),_))=>bif (decide (v_9<v_8)) then (bif decide (0<=v_9) then (v_7[v_9.toNat]?).bind fun x2=>(qdc ((b24_0,b24_1),b24_2) x2).bind fun r3=>g ((v_7,v_8,(iadd .i64 v_9 1),()),((b16_0,b16_1,b16_2,()),(r3.1.1,r3.1.2,r3.2,()),())) else none) else (some ((()),((b16_0,b16_1,b16_2,()),(b24_0,b24_1,b24_2,()),())))
def qjn (l_0:List RAT):Option RAT :=
 (qd8 ).bind fun r1=>(lp qdH K0 ((l_0,(l_0.length:Int),0,()),((false,[],[],()),(r1.1.1,r1.1.2,r1.2,()),()))).bind fun t4=>some ((t4.2.2.1.1,t4.2.2.1.2.1),t4.2.2.1.2.2.1)
def c13:Ctr:=⟨[((.sl tRAT),.imm)],[(tRAT,false)],RAT,fun x=>qjn x.1,fun r=>((),(r,())),none⟩
def qaE (a_0:RAT) (b_1:RAT):Option RAT :=
 (qa0 a_0).bind fun r1=>(qa0 b_1).bind fun r2=>(qeg r1.1 r2.1).bind fun r3=>(qjF r1.2 r2.2).bind fun r4=>(qdv r3 r4).bind fun r5=>some r5
def c19:Ctr:=⟨[(tRAT,.imm),(tRAT,.imm)],[(tRAT,false)],RAT,fun x=>qaE x.1 x.2.1,fun r=>((),(r,())),none⟩
def qgF (a_0:WH):Option Int :=
 (qaZ a_0).bind fun r1=>bif r1.1 then (some (-1)) else (bif (decide ((r1.2.length:Int)=0)) then (some 0) else (some 1))
def c27:Ctr:=⟨[(tWH,.imm)],[((.int .i64),false)],Int,fun x=>qgF x.1,fun r=>((),(r,())),none⟩
def qhi (a_0:WH):Option WH :=
 (qaZ a_0).bind fun r1=>(qbN (!r1.1) r1.2).bind fun r2=>some r2
def c49:Ctr:=⟨[(tWH,.imm)],[(tWH,false)],WH,fun x=>qhi x.1,fun r=>((),(r,())),none⟩
def qgK (num_0:WH) (den_1:WH):Option (RAT×Int) :=
 (qaZ num_0).bind fun r1=>(qaZ den_1).bind fun r2=>(qgF r2).bind fun r3=>bif (decide (r3=0)) then (some (((false,[]),[]),2)) else (bif r2.1 then ((qhi r1).bind fun r4=>(qdv r4 r2.2).bind fun r5=>some (r5,0)) else ((qdv r1 r2.2).bind fun r6=>some (r6,0)))
def c36:Ctr:=⟨[(tWH,.imm),(tWH,.imm)],[(tRAT,false),((.int .i64),false)],RAT×Int,fun x=>qgK x.1 x.2.1,fun r=>((),(r.1,r.2,())),none⟩
def qhh (n_0:Int):Option WH :=
 bif (decide (n_0<0)) then ((qhE (ineg .u64 (IntKind.wrap .u64 n_0))).bind fun r1=>(qbN true r1).bind fun r2=>some r2) else ((qhE (IntKind.wrap .u64 n_0)).bind fun r3=>(qbN false r3).bind fun r4=>some r4)
def c37:Ctr:=⟨[((.int .i64),.imm)],[(tWH,false)],WH,fun x=>qhh x.1,fun r=>((),(r,())),none⟩
def qch (n_0:Int) (d_1:Int):Option RAT :=
 (qhh n_0).bind fun r1=>(qhh d_1).bind fun r2=>(qgK r1 r2).bind fun r3=>(qa0 r3.1).bind fun r4=>some r4
def c20:Ctr:=⟨[((.int .i64),.imm),((.int .i64),.imm)],[(tRAT,false)],RAT,fun x=>qch x.1 x.2.1,fun r=>((),(r,())),none⟩
def qhv (a_0:RAT):Option (RAT×Int) :=
 (qa0 a_0).bind fun r1=>(qek r1).bind fun r2=>(qgK r2 r1.1).bind fun r3=>some (r3.1,r3.2)
def c25:Ctr:=⟨[(tRAT,.imm)],[(tRAT,false),((.int .i64),false)],RAT×Int,fun x=>qhv x.1,fun r=>((),(r.1,r.2,())),none⟩
def qht (a_0:RAT):Option RAT :=
 (qa0 a_0).bind fun r1=>(qhi r1.1).bind fun r2=>some (r2,r1.2)
def c41:Ctr:=⟨[(tRAT,.imm)],[(tRAT,false)],RAT,fun x=>qht x.1,fun r=>((),(r,())),none⟩
def qjo (a_0:RAT) (b_1:RAT):Option RAT :=
 (qht b_1).bind fun r1=>(qdc a_0 r1).bind fun r2=>some r2
def c26:Ctr:=⟨[(tRAT,.imm),(tRAT,.imm)],[(tRAT,false)],RAT,fun x=>qjo x.1 x.2.1,fun r=>((),(r,())),none⟩
abbrev qaq:SG:=⟨[(0,.p 832 0 0),(5,.v (.int .i64)),(6,.p 48 0 0),(7,.o tRAT 63),(8,.p 64 0 0),(10,.p 80 0 0),(11,.v (.int .i64))],[(48,[.v (.int .i64),.v .bool,.v (.sl (.int .u64)),.v (.sl (.int .u64)),.v .bool,.v .bool,.v (.sl (.int .u64)),.v (.sl (.int .u64))]),(64,[.v .bool,.v (.sl (.int .u64)),.v (.sl (.int .u64))]),(80,[.v .bool,.v (.sl (.int .u64)),.v (.sl (.int .u64))]),(832,[.o (.pair (.int .i64) (.pair tRAT qal)) 1832])],[],[]⟩
abbrev qaG:List (Ex×SG):=[(.exit 0,⟨[(0,.p 832 0 0),(7,.o tRAT 63)],[(832,[.o (.pair (.int .i64) (.pair tRAT qal)) 1832])],[],[]⟩)]
abbrev qco:=((Int×(List RAT)×Int×Unit)×((Int×Bool×(List Int)×(List Int)×Bool×Bool×(List Int)×(List Int)×Unit)×(Bool×(List Int)×(List Int)×Unit)×(Bool×(List Int)×(List Int)×Unit)×((List (Int×RAT×CELL))×Unit)×Unit))
abbrev qcn:=(((List RAT)×Unit)×(((List (Int×RAT×CELL))×Unit)×Unit))
def qaF (g:qco->Option qcn):qco->Option qcn
 | ((v_5,v_7,v_11,_),((b48_0,b48_1,b48_2,b48_3,b48_4,b48_5,b48_6,b48_7,_),(b64_0,b64_1,b64_2,_),(b80_0,b80_1,b80_2,_),(b832_0,_),_))=>bif (decide (v_11>=0)) then (bif (!b48_4) then (bif decide (0<=v_11)&&decide (v_11<(b832_0.length:Int)) then (b832_0[v_11.toNat]?).bind fun x4=>(qch (iadd .i64 v_5 1) (isub .i64 v_5 v_11)).bind fun r5=>(qaE x4.2.2.2 r5).bind fun r6=>(qaE r6 ((b64_0,b64_1),b64_2)).bind fun r7=>bif decide (0<=v_11)&&decide (v_11<(v_7.length:Int)) then (v_7[v_11.toNat]?).bind fun _=>g ((v_5,(v_7.set v_11.toNat r7),(isub .i64 v_11 1),()),((b48_0,b48_1,b48_2,b48_3,b48_4,b48_5,b48_6,b48_7,()),(b64_0,b64_1,b64_2,()),(b80_0,b80_1,b80_2,()),(b832_0,()),())) else none else none) else ((qch (iadd .i64 v_5 1) (iadd .i64 v_11 1)).bind fun r9=>(qaE ((b80_0,b80_1),b80_2) r9).bind fun r10=>bif decide (0<=v_11)&&decide (v_11<(v_7.length:Int)) then (v_7[v_11.toNat]?).bind fun _=>bif decide (0<=v_11)&&decide (v_11<(b832_0.length:Int)) then (b832_0[v_11.toNat]?).bind fun x12=>bif decide (0<=v_11)&&decide (v_11<((v_7.set v_11.toNat r10).length:Int)) then ((v_7.set v_11.toNat r10)[v_11.toNat]?).bind fun x13=>(qaE x13 ((b48_1,b48_2),b48_3)).bind fun r14=>(qch (isub .i64 v_5 v_11) (iadd .i64 v_5 1)).bind fun r15=>(qaE r14 r15).bind fun r16=>(qjo x12.2.2.2 r16).bind fun r17=>g ((v_5,(v_7.set v_11.toNat r10),(isub .i64 v_11 1),()),((b48_0,b48_1,b48_2,b48_3,b48_4,b48_5,b48_6,b48_7,()),(b64_0,b64_1,b64_2,()),(r17.1.1,r17.1.2,r17.2,()),(b832_0,()),())) else none else none else none)) else (some ((v_7,()),((b832_0,()),())))
def qbk (a_0:Int) (b_1:List (Int×RAT×CELL)):Option ((List RAT)×(List (Int×RAT×CELL))) :=
 bif decide (0<=a_0)&&decide (a_0<(b_1.length:Int)) then (b_1[a_0.toNat]?).bind fun x1=>bif decide ((isub .i64 (b_1.length:Int) 1)=(isub .i64 (b_1.length:Int) 1))&&decide (0<=(isub .i64 (b_1.length:Int) 1))&&decide (((56:Nat):Int)*(isub .i64 (b_1.length:Int) 1)<=281474976710656)&&decide ((isub .i64 (b_1.length:Int) 1)<=9223372036854775807) then (qhv x1.2.1).bind fun r2=>bif decide (0<=(isub .i64 (b_1.length:Int) 1))&&decide ((isub .i64 (b_1.length:Int) 1)<(b_1.length:Int)) then (b_1[(isub .i64 (b_1.length:Int) 1).toNat]?).bind fun x3=>(lp qaF K0 (((isub .i64 (b_1.length:Int) 1),(List.replicate (isub .i64 (b_1.length:Int) 1).toNat (((false,[]),[]):RAT)),(isub .i64 (isub .i64 (b_1.length:Int) 1) 1),()),((x1.1,x1.2.1.1.1,x1.2.1.1.2,x1.2.1.2,x1.2.2.1,x1.2.2.2.1.1,x1.2.2.2.1.2,x1.2.2.2.2,()),(r2.1.1.1,r2.1.1.2,r2.1.2,()),(x3.2.2.2.1.1,x3.2.2.2.1.2,x3.2.2.2.2,()),(b_1,()),()))).bind fun t18=>some (t18.1.1,t18.2.1.1) else none else none else none
abbrev w14:Wir:=⟨[.b,.x],[[.x]],1,none,[],[],0⟩
def c14:Ctr:=⟨[((.int .i64),.imm),((.sl (.pair (.int .i64) (.pair tRAT qal))),.own)],[((.sl tRAT),true),((.sl (.pair (.int .i64) (.pair tRAT qal))),true)],(List RAT)×(List (Int×RAT×CELL)),fun x=>qbk x.1 x.2.1,fun r=>((),(r.1,r.2,())),some w14⟩
def qbD (at_0:Int) (b_1:List (Int×RAT×CELL)):Option (RAT×Int×(List (Int×RAT×CELL))) :=
 bif (decide ((b_1.length:Int)=0)) then (some (((false,[]),[]),18,b_1)) else (bif (decide (at_0<1)) then (some (((false,[]),[]),8,b_1)) else (bif (decide (at_0>=(b_1.length:Int))) then (some (((false,[]),[]),8,b_1)) else ((qbk at_0 b_1).bind fun r1=>(qjn r1.1).bind fun r2=>some (r2,0,r1.2))))
abbrev w4:Wir:=⟨[.b,.x],[[.x]],2,none,[],[],0⟩
def c4:Ctr:=⟨[((.int .i64),.imm),((.sl (.pair (.int .i64) (.pair tRAT qal))),.own)],[(tRAT,false),((.int .i64),false),((.sl (.pair (.int .i64) (.pair tRAT qal))),true)],RAT×Int×(List (Int×RAT×CELL)),fun x=>qbD x.1 x.2.1,fun r=>((),(r.1,r.2.1,r.2.2,())),some w4⟩
def qbq (at_0:Int):Option (RAT×Int) :=
 some (((false,[]),[]),18)
abbrev w4vN:Wir:=⟨[.x],[],2,none,[.n ,.x],[],0⟩
def c4vN:Ctr:=⟨[((.int .i64),.imm)],[(tRAT,false),((.int .i64),false)],RAT×Int,fun x=>qbq x.1,fun r=>((),(r.1,r.2,())),some w4vN⟩
def qci (b_0:List (Int×RAT×CELL)):Option (Int×(List (Int×RAT×CELL))) :=
 bif (decide ((b_0.length:Int)=0)) then (some (0,b_0)) else (some ((isub .i64 (b_0.length:Int) 1),b_0))
abbrev w5:Wir:=⟨[.b],[[.x]],1,none,[],[],0⟩
def c5:Ctr:=⟨[((.sl (.pair (.int .i64) (.pair tRAT qal))),.own)],[((.int .i64),false),((.sl (.pair (.int .i64) (.pair tRAT qal))),true)],Int×(List (Int×RAT×CELL)),fun x=>qci x.1,fun r=>((),(r.1,r.2,())),some w5⟩
def qbr :Option Int :=
 some 0
abbrev w5vN:Wir:=⟨[],[],1,none,[.n ],[],0⟩
def c5vN:Ctr:=⟨[],[((.int .i64),false)],Int,fun x=>qbr ,fun r=>((),(r,())),some w5vN⟩
abbrev qaI:SG:=⟨[(0,.p 232 0 0),(1,.v (.int .i64)),(13,.v (.int .i64)),(14,.v (.int .i64))],[(232,[.o (.pair (.int .i64) (.pair tRAT qal)) 1232])],[(12,(232,0))],[]⟩
abbrev qa2:List (Ex×SG):=[(.exit 0,⟨[(0,.p 232 0 0)],[(232,[.o (.pair (.int .i64) (.pair tRAT qal)) 1232])],[],[]⟩),(.ret,⟨[(0,.p 232 0 0),(4,.v (.int .i64))],[(232,[.o (.pair (.int .i64) (.pair tRAT qal)) 1232])],[],[]⟩)]
abbrev qdg:=((Int×Int×Int×Unit)×(((List (Int×RAT×CELL))×Unit)×Unit))
abbrev qdf:=((Unit×(((List (Int×RAT×CELL))×Unit)×Unit)) ⊕ ((Int×Unit)×(((List (Int×RAT×CELL))×Unit)×Unit)))
def qam (g:qdg->Option qdf):qdg->Option qdf
 | ((feature_1,v_13,v_14,_),((b232_0,_),_))=>bif (decide (v_14<v_13)) then (bif decide (0<=v_14)&&decide (v_14<(b232_0.length:Int)) then (b232_0[v_14.toNat]?).bind fun x1=>bif (decide (v_14>0)) then (bif (decide (x1.1=feature_1)) then (some (.inr ((v_14,()),((b232_0,()),())))) else (g ((feature_1,v_13,(iadd .i64 v_14 1),()),((b232_0,()),())))) else (g ((feature_1,v_13,(iadd .i64 v_14 1),()),((b232_0,()),()))) else none) else (some (.inl ((()),((b232_0,()),()))))
def qaU (feature_0:Int) (b_1:List (Int×RAT×CELL)):Option (Int×(List (Int×RAT×CELL))) :=
 (lp qam K0 ((feature_0,(b_1.length:Int),0,()),((b_1,()),()))).bind fun t2=>(match t2 with | .inl t3=>some (0,t3.2.1.1) | .inr t4=>some (t4.1.1,t4.2.1.1))
abbrev w6:Wir:=⟨[.b,.x],[[.x]],1,none,[],[],0⟩
def c6:Ctr:=⟨[((.int .i64),.imm),((.sl (.pair (.int .i64) (.pair tRAT qal))),.own)],[((.int .i64),false),((.sl (.pair (.int .i64) (.pair tRAT qal))),true)],Int×(List (Int×RAT×CELL)),fun x=>qaU x.1 x.2.1,fun r=>((),(r.1,r.2,())),some w6⟩
def qbl (feature_0:Int):Option Int :=
 some 0
abbrev w6vN:Wir:=⟨[.x],[],1,none,[.n ,.x],[],0⟩
def c6vN:Ctr:=⟨[((.int .i64),.imm)],[((.int .i64),false)],Int,fun x=>qbl x.1,fun r=>((),(r,())),some w6vN⟩
def qbm :Option Unit :=
 some ()
abbrev w7vN:Wir:=⟨[],[],0,none,[.n ],[.n ],0⟩
def c7vN:Ctr:=⟨[],[],Unit,fun x=>qbm ,fun _=>((),()),some w7vN⟩
def qgI (a_0:RAT):Option Int :=
 (qa0 a_0).bind fun r1=>(qgF r1.1).bind fun r2=>some r2
def c15:Ctr:=⟨[(tRAT,.imm)],[((.int .i64),false)],Int,fun x=>qgI x.1,fun r=>((),(r,())),none⟩
abbrev qas:SG:=⟨[(0,.p 904 0 0),(3,.v .bool),(6,.p 48 0 0),(9,.v (.int .i64)),(10,.v (.int .i64))],[(48,[.v .bool,.v (.sl (.int .u64)),.v (.sl (.int .u64))]),(904,[.o (.pair (.int .i64) (.pair tRAT qal)) 1904])],[],[]⟩
abbrev qaK:List (Ex×SG):=[(.exit 1,⟨[(0,.p 904 0 0)],[(904,[.o (.pair (.int .i64) (.pair tRAT qal)) 1904])],[],[]⟩)]
abbrev qcu:=((Bool×Int×Int×Unit)×((Bool×(List Int)×(List Int)×Unit)×((List (Int×RAT×CELL))×Unit)×Unit))
abbrev qct:=(Unit×(((List (Int×RAT×CELL))×Unit)×Unit))
def qaJ (g:qcu->Option qct):qcu->Option qct
 | ((v_3,v_9,v_10,_),((b48_0,b48_1,b48_2,_),(b904_0,_),_))=>bif (decide (v_10>=0)) then (bif decide (0<=v_10)&&decide (v_10<(b904_0.length:Int)) then (b904_0[v_10.toNat]?).bind fun x5=>bif v_3 then (bif decide (0<=(iadd .i64 v_10 1))&&decide ((iadd .i64 v_10 1)<(b904_0.length:Int)) then (b904_0[(iadd .i64 v_10 1).toNat]?).bind fun x6=>(qch (iadd .i64 v_10 1) (iadd .i64 v_9 1)).bind fun r7=>(qaE x5.2.2.2 r7).bind fun r8=>(qdc x6.2.2.2 r8).bind fun r9=>bif decide (0<=(iadd .i64 v_10 1))&&decide ((iadd .i64 v_10 1)<(b904_0.length:Int)) then (b904_0[(iadd .i64 v_10 1).toNat]?).bind fun x10=>(qaE ((b48_0,b48_1),b48_2) x5.2.2.2).bind fun r11=>(qch (isub .i64 v_9 v_10) (iadd .i64 v_9 1)).bind fun r12=>(qaE r11 r12).bind fun r13=>bif decide (0<=v_10)&&decide (v_10<((b904_0.set ((iadd .i64 v_10 1).toNat) (x10.1,(x10.2.1,(x10.2.2.1,r9)))).length:Int)) then ((b904_0.set ((iadd .i64 v_10 1).toNat) (x10.1,(x10.2.1,(x10.2.2.1,r9))))[v_10.toNat]?).bind fun x14=>g ((v_3,v_9,(isub .i64 v_10 1),()),((b48_0,b48_1,b48_2,()),(((b904_0.set ((iadd .i64 v_10 1).toNat) (x10.1,(x10.2.1,(x10.2.2.1,r9)))).set v_10.toNat (x14.1,(x14.2.1,(x14.2.2.1,r13)))),()),())) else none else none else none) else ((qaE ((b48_0,b48_1),b48_2) x5.2.2.2).bind fun r15=>(qch (isub .i64 v_9 v_10) (iadd .i64 v_9 1)).bind fun r16=>(qaE r15 r16).bind fun r17=>bif decide (0<=v_10)&&decide (v_10<(b904_0.length:Int)) then (b904_0[v_10.toNat]?).bind fun x18=>g ((v_3,v_9,(isub .i64 v_10 1),()),((b48_0,b48_1,b48_2,()),((b904_0.set v_10.toNat (x18.1,(x18.2.1,(x18.2.2.1,r17)))),()),())) else none) else none) else (some ((()),((b904_0,()),())))
def qay (a_0:Int) (a_1:RAT) (a_2:Bool) (b_3:List (Int×RAT×CELL)):Option (Int×(List (Int×RAT×CELL))) :=
 bif (decide ((b_3.length:Int)=0)) then (some (18,b_3)) else (bif (decide (a_0<0)) then (some (1,b_3)) else ((qaU a_0 b_3).bind fun r1=>bif (decide (r1.1>0)) then (some (1,r1.2)) else ((qgI a_1).bind fun r2=>bif (decide (r2<=0)) then (some (8,r1.2)) else ((qa0 a_1).bind fun r3=>(qd8 ).bind fun r4=>bif Nat.ble ((r1.2.length+1)*128) 140737488355328&&!false then (lp qaJ K0 ((a_2,(r1.2.length:Int),(isub .i64 (r1.2.length:Int) 1),()),((a_1.1.1,a_1.1.2,a_1.2,()),((r1.2++([(a_0,(r3,(a_2,r4)))]:List (Int×RAT×CELL))),()),()))).bind fun t19=>some (0,t19.2.1.1) else none))))
abbrev w8:Wir:=⟨[.b,.x,.x,.x],[[.x]],1,none,[],[],0⟩
def c8:Ctr:=⟨[((.int .i64),.imm),(tRAT,.imm),(.bool,.imm),((.sl (.pair (.int .i64) (.pair tRAT qal))),.own)],[((.int .i64),false),((.sl (.pair (.int .i64) (.pair tRAT qal))),true)],Int×(List (Int×RAT×CELL)),fun x=>qay x.1 x.2.1 x.2.2.1 x.2.2.2.1,fun r=>((),(r.1,r.2,())),some w8⟩
def qbb (a_0:Int) (a_1:RAT) (a_2:Bool):Option Int :=
 some 18
abbrev w8vN:Wir:=⟨[.x,.x,.x],[],1,none,[.n ,.x,.x,.x],[],0⟩
def c8vN:Ctr:=⟨[((.int .i64),.imm),(tRAT,.imm),(.bool,.imm)],[((.int .i64),false)],Int,fun x=>qbb x.1 x.2.1 x.2.2.1,fun r=>((),(r,())),some w8vN⟩
abbrev qaw:SG:=⟨[(0,.p 528 0 0),(5,.o tRAT 47),(6,.o (.pair (.int .i64) (.pair tRAT qal)) 55),(49,.v (.int .i64)),(50,.v (.int .i64))],[(528,[.o (.pair (.int .i64) (.pair tRAT qal)) 1528])],[],[]⟩
abbrev qaT:List (Ex×SG):=[(.exit 0,⟨[(0,.p 528 0 0),(6,.o (.pair (.int .i64) (.pair tRAT qal)) 55)],[(528,[.o (.pair (.int .i64) (.pair tRAT qal)) 1528])],[],[]⟩)]
abbrev qcK:=(((List RAT)×(List (Int×RAT×CELL))×Int×Int×Unit)×(((List (Int×RAT×CELL))×Unit)×Unit))
abbrev qcJ:=(((List (Int×RAT×CELL))×Unit)×(((List (Int×RAT×CELL))×Unit)×Unit))
def qaS (g:qcK->Option qcJ):qcK->Option qcJ
 | ((v_5,v_6,v_49,v_50,_),((b528_0,_),_))=>bif (decide (v_50<v_49)) then (bif decide (0<=v_50)&&decide (v_50<(v_5.length:Int)) then (v_5[v_50.toNat]?).bind fun x2=>bif decide (0<=v_50)&&decide (v_50<(v_6.length:Int)) then (v_6[v_50.toNat]?).bind fun x3=>g ((v_5,(v_6.set v_50.toNat (x3.1,(x3.2.1,(x3.2.2.1,x2)))),v_49,(iadd .i64 v_50 1),()),((b528_0,()),())) else none else none) else (some ((v_6,()),((b528_0,()),())))
def qaX (a_0:Int) (b_1:List (Int×RAT×CELL)):Option (Int×(List (Int×RAT×CELL))) :=
 bif (decide ((b_1.length:Int)=0)) then (some (18,b_1)) else (bif (decide (a_0<1)) then (some (8,b_1)) else (bif (decide (a_0>=(b_1.length:Int))) then (some (8,b_1)) else ((qbk a_0 b_1).bind fun r1=>bif decide ((0:Int)<=a_0)&&decide ((a_0:Int)<=a_0)&&decide ((a_0:Int)<=(r1.2.length:Int)) then bif Nat.ble ((([]:List (Int×RAT×CELL)).length+(r1.2.take ((a_0-0).toNat)).length)*128) 140737488355328&&!false then bif decide (0<=(iadd .i64 a_0 1))&&decide (((iadd .i64 a_0 1):Int)<=(r1.2.length:Int)) then bif Nat.ble (((([]:List (Int×RAT×CELL))++(r1.2.take ((a_0-0).toNat))).length+(r1.2.drop ((iadd .i64 a_0 1).toNat)).length)*128) 140737488355328&&!false then (lp qaS K0 ((r1.1,((([]:List (Int×RAT×CELL))++(r1.2.take ((a_0-0).toNat)))++(r1.2.drop ((iadd .i64 a_0 1).toNat))),(((([]:List (Int×RAT×CELL))++(r1.2.take ((a_0-0).toNat)))++(r1.2.drop ((iadd .i64 a_0 1).toNat))).length:Int),0,()),((r1.2,()),()))).bind fun t4=>some (0,t4.1.1) else none else none else none else none)))
abbrev w9:Wir:=⟨[.b,.x],[[.x]],1,none,[],[],0⟩
def c9:Ctr:=⟨[((.int .i64),.imm),((.sl (.pair (.int .i64) (.pair tRAT qal))),.own)],[((.int .i64),false),((.sl (.pair (.int .i64) (.pair tRAT qal))),true)],Int×(List (Int×RAT×CELL)),fun x=>qaX x.1 x.2.1,fun r=>((),(r.1,r.2,())),some w9⟩
def qba (a_0:Int):Option Int :=
 some 18
abbrev w9vN:Wir:=⟨[.x],[],1,none,[.n ,.x],[],0⟩
def c9vN:Ctr:=⟨[((.int .i64),.imm)],[((.int .i64),false)],Int,fun x=>qba x.1,fun r=>((),(r,())),some w9vN⟩
abbrev qar:SG:=⟨[(0,.p 192 0 0),(3,.o tRAT 31),(12,.v (.int .i64)),(13,.v (.int .i64))],[(192,[.o (.pair (.int .i64) (.pair tRAT qal)) 1192])],[(11,(192,0))],[]⟩
abbrev qaH:List (Ex×SG):=[(.exit 0,⟨[(0,.p 192 0 0),(3,.o tRAT 31)],[(192,[.o (.pair (.int .i64) (.pair tRAT qal)) 1192])],[],[]⟩)]
abbrev qcq:=(((List RAT)×Int×Int×Unit)×(((List (Int×RAT×CELL))×Unit)×Unit))
abbrev qcp:=(((List RAT)×Unit)×(((List (Int×RAT×CELL))×Unit)×Unit))
def qah (g:qcq->Option qcp):qcq->Option qcp
 | ((out_3,v_12,v_13,_),((b192_0,_),_))=>bif (decide (v_13<v_12)) then (bif decide (0<=v_13)&&decide (v_13<(b192_0.length:Int)) then (b192_0[v_13.toNat]?).bind fun x1=>bif Nat.ble ((out_3.length+1)*56) 140737488355328&&!false then g (((out_3++([x1.2.2.2]:List RAT)),v_12,(iadd .i64 v_13 1),()),((b192_0,()),())) else none else none) else (some ((out_3,()),((b192_0,()),())))
def qa1 (b_0:List (Int×RAT×CELL)):Option ((List RAT)×(List (Int×RAT×CELL))) :=
 (lp qah K0 (([],(b_0.length:Int),0,()),((b_0,()),()))).bind fun t2=>some (t2.1.1,t2.2.1.1)
abbrev w10:Wir:=⟨[.b],[[.x]],1,none,[],[],0⟩
def c10:Ctr:=⟨[((.sl (.pair (.int .i64) (.pair tRAT qal))),.own)],[((.sl tRAT),true),((.sl (.pair (.int .i64) (.pair tRAT qal))),true)],(List RAT)×(List (Int×RAT×CELL)),fun x=>qa1 x.1,fun r=>((),(r.1,r.2,())),some w10⟩
def qa4 :Option (List RAT) :=
 some ([])
abbrev qp6:Wir:=⟨[],[],1,none,[.n ],[],0⟩
def qoZ:Ctr:=⟨[],[((.sl tRAT),true)],(List RAT),fun x=>qa4 ,fun r=>((),(r,())),some qp6⟩
abbrev qaA:SG:=⟨[(0,.p 256 0 0),(3,.o qfW 31),(12,.v (.int .i64)),(13,.v (.int .i64))],[(256,[.o (.pair (.int .i64) (.pair tRAT qal)) 1256])],[(11,(256,0))],[]⟩
abbrev qaY:List (Ex×SG):=[(.exit 0,⟨[(0,.p 256 0 0),(3,.o qfW 31)],[(256,[.o (.pair (.int .i64) (.pair tRAT qal)) 1256])],[],[]⟩)]
abbrev qcX:=(((List PART)×Int×Int×Unit)×(((List (Int×RAT×CELL))×Unit)×Unit))
abbrev qcW:=(((List PART)×Unit)×(((List (Int×RAT×CELL))×Unit)×Unit))
def qak (g:qcX->Option qcW):qcX->Option qcW
 | ((out_3,v_12,v_13,_),((b256_0,_),_))=>bif (decide (v_13<v_12)) then (bif decide (0<=v_13)&&decide (v_13<(b256_0.length:Int)) then (b256_0[v_13.toNat]?).bind fun x1=>bif (decide (v_13>0)) then (bif Nat.ble ((out_3.length+1)*72) 140737488355328&&!false then g (((out_3++([(x1.1,(x1.2.1,x1.2.2.1))]:List PART)),v_12,(iadd .i64 v_13 1),()),((b256_0,()),())) else none) else (g ((out_3,v_12,(iadd .i64 v_13 1),()),((b256_0,()),()))) else none) else (some ((out_3,()),((b256_0,()),())))
def qaC (b_0:List (Int×RAT×CELL)):Option ((List PART)×(List (Int×RAT×CELL))) :=
 (lp qak K0 (([],(b_0.length:Int),0,()),((b_0,()),()))).bind fun t2=>some (t2.1.1,t2.2.1.1)
abbrev w11:Wir:=⟨[.b],[[.x]],1,none,[],[],0⟩
def c11:Ctr:=⟨[((.sl (.pair (.int .i64) (.pair tRAT qal))),.own)],[((.sl qfW),true),((.sl (.pair (.int .i64) (.pair tRAT qal))),true)],(List PART)×(List (Int×RAT×CELL)),fun x=>qaC x.1,fun r=>((),(r.1,r.2,())),some w11⟩
def qbf :Option (List PART) :=
 some ([])
abbrev qp5:Wir:=⟨[],[],1,none,[.n ],[],0⟩
def qoY:Ctr:=⟨[],[((.sl qfW),true)],(List PART),fun x=>qbf ,fun r=>((),(r,())),some qp5⟩
def qhs (n_0:Int):Option RAT :=
 (qhh n_0).bind fun r1=>(qhE 1).bind fun r2=>some (r1,r2)
def c21:Ctr:=⟨[((.int .i64),.imm)],[(tRAT,false)],RAT,fun x=>qhs x.1,fun r=>((),(r,())),none⟩
def qdb :Option RAT :=
 (qhs 1).bind fun r1=>some r1
def c22:Ctr:=⟨[],[(tRAT,false)],RAT,fun x=>qdb ,fun r=>((),(r,())),none⟩
abbrev qck:SG:=⟨[(22,.v (.sl (.sl qbg))),(23,.v (.int .i64)),(24,.v (.int .i64)),(36,.v (.sl qbg)),(37,.v (.int .i64)),(38,.v (.int .i64))],[],[],[]⟩
abbrev qdm:List (Ex×SG):=[(.exit 2,⟨[(22,.v (.sl (.sl qbg))),(23,.v (.int .i64)),(24,.v (.int .i64))],[],[],[]⟩),(.ret,⟨[(2,.v .bool)],[],[],[]⟩)]
abbrev qgq:=(((List (List NODE))×Int×Int×(List NODE)×Int×Int×Unit)×Unit)
abbrev qgp:=((((List (List NODE))×Int×Int×Unit)×Unit) ⊕ ((Bool×Unit)×Unit))
def qdk (g:qgq->Option qgp):qgq->Option qgp
 | ((v_22,v_23,v_24,v_36,v_37,v_38,_),_)=>bif (decide (v_38<v_37)) then (bif decide (0<=v_38) then (v_36[v_38.toNat]?).bind fun x2=>bif (decide (x2.2.1<0)) then (some (.inr ((false,()),()))) else (bif (decide (x2.2.1>64)) then (some (.inr ((false,()),()))) else (bif (decide (x2.2.2.2.1<0)) then (some (.inr ((false,()),()))) else (bif (decide (x2.2.2.2.1>255)) then (some (.inr ((false,()),()))) else (bif (decide (x2.2.2.2.2.1<0)) then (some (.inr ((false,()),()))) else (bif (decide (x2.2.2.2.2.1>255)) then (some (.inr ((false,()),()))) else (g ((v_22,v_23,v_24,v_36,v_37,(iadd .i64 v_38 1),()),()))))))) else none) else (some (.inl ((v_22,v_23,v_24,()),())))
abbrev qcl:SG:=⟨[(22,.v (.sl (.sl qbg))),(23,.v (.int .i64)),(24,.v (.int .i64))],[],[],[]⟩
abbrev qdn:List (Ex×SG):=[(.exit 0,⟨[],[],[],[]⟩),(.ret,⟨[(2,.v .bool)],[],[],[]⟩)]
def qdl (g:(((List (List NODE))×Int×Int×Unit)×Unit)->Option ((Unit×Unit) ⊕ ((Bool×Unit)×Unit))):(((List (List NODE))×Int×Int×Unit)×Unit)->Option ((Unit×Unit) ⊕ ((Bool×Unit)×Unit))
 | ((v_22,v_23,v_24,_),_)=>bif (decide (v_24<v_23)) then (bif decide (0<=v_24) then (v_22[v_24.toNat]?).bind fun x1=>bif (decide ((x1.length:Int)<1)) then (some (.inr ((false,()),()))) else (bif (decide ((x1.length:Int)>255)) then (some (.inr ((false,()),()))) else ((lp qdk K0 ((v_22,v_23,v_24,x1,(x1.length:Int),0,()),())).bind fun t3=>(match t3 with | .inl t4=>g ((t4.1.1,t4.1.2.1,(iadd .i64 t4.1.2.2.1 1),()),()) | .inr t5=>some (.inr ((t5.1.1,()),()))))) else none) else (some (.inl ((()),())))
def qh8 (a_0:qhP):Option Bool :=
 bif (decide (a_0.1<0)) then (some false) else (bif (decide (a_0.1>64)) then (some false) else (bif (decide ((a_0.2.length:Int)>64)) then (some false) else ((lp qdl K0 ((a_0.2,(a_0.2.length:Int),0,()),())).bind fun t6=>(match t6 with | .inl t7=>some true | .inr t8=>some t8.1.1))))
def c79:Ctr:=⟨[(qio,.imm)],[(.bool,false)],Bool,fun x=>qh8 x.1,fun r=>((),(r,())),none⟩
abbrev qbv:SG:=⟨[(0,.v (.sl qbg)),(1,.v (.int .i64)),(8,.v (.sl qbg)),(9,.v (.int .i64)),(10,.v (.int .i64))],[],[],[]⟩
abbrev qb1:List (Ex×SG):=[(.exit 0,⟨[],[],[],[]⟩),(.ret,⟨[(4,.v (.int .i64)),(5,.v (.int .i64))],[],[],[]⟩)]
abbrev qeP:=(((List NODE)×Int×(List NODE)×Int×Int×Unit)×Unit)
abbrev qeO:=((Unit×Unit) ⊕ ((Int×Int×Unit)×Unit))
def qb0 (g:qeP->Option qeO):qeP->Option qeO
 | ((t_0,features_1,v_8,v_9,v_10,_),_)=>bif (decide (v_10<v_9)) then (bif decide (0<=v_10) then (v_8[v_10.toNat]?).bind fun x1=>bif x1.1 then (g ((t_0,features_1,v_8,v_9,(iadd .i64 v_10 1),()),())) else (bif (decide (x1.2.1<0)) then (some (.inr ((v_10,8,()),()))) else (bif (decide (x1.2.1>=features_1)) then (some (.inr ((v_10,8,()),()))) else (bif (decide (x1.2.2.2.1<1)) then (some (.inr ((v_10,8,()),()))) else (bif (decide (x1.2.2.2.1>=(t_0.length:Int))) then (some (.inr ((v_10,8,()),()))) else (bif (decide (x1.2.2.2.2.1<1)) then (some (.inr ((v_10,8,()),()))) else (bif (decide (x1.2.2.2.2.1>=(t_0.length:Int))) then (some (.inr ((v_10,8,()),()))) else (g ((t_0,features_1,v_8,v_9,(iadd .i64 v_10 1),()),())))))))) else none) else (some (.inl ((()),())))
def qf3 (t_0:List NODE) (features_1:Int):Option (Int×Int) :=
 (lp qb0 K0 ((t_0,features_1,t_0,(t_0.length:Int),0,()),())).bind fun t2=>(match t2 with | .inl t3=>some (0,0) | .inr t4=>some (t4.1.1,t4.1.2.1))
def c80:Ctr:=⟨[((.sl qbg),.imm),((.int .i64),.imm)],[((.int .i64),false),((.int .i64),false)],Int×Int,fun x=>qf3 x.1 x.2.1,fun r=>((),(r.1,r.2,())),none⟩
abbrev qbP:SG:=⟨[(0,.v (.sl qbg)),(4,.o (.int .i64) 39),(18,.v (.sl qbg)),(19,.v (.int .i64)),(20,.v (.int .i64))],[],[],[]⟩
abbrev qcy:List (Ex×SG):=[(.exit 0,⟨[(0,.v (.sl qbg)),(4,.o (.int .i64) 39)],[],[],[]⟩)]
abbrev qfP:=(((List NODE)×(List Int)×(List NODE)×Int×Int×Unit)×Unit)
abbrev qfO:=(((List NODE)×(List Int)×Unit)×Unit)
def qcx (g:qfP->Option qfO):qfP->Option qfO
 | ((v_0,v_4,v_18,v_19,v_20,_),_)=>bif (decide (v_20<v_19)) then (bif decide (0<=v_20) then (v_18[v_20.toNat]?).bind fun x1=>bif (!x1.1) then (bif decide (0<=x1.2.2.2.1)&&decide (x1.2.2.2.1<(v_4.length:Int)) then (v_4[x1.2.2.2.1.toNat]?).bind fun x2=>bif decide (0<=x1.2.2.2.1)&&decide (x1.2.2.2.1<(v_4.length:Int)) then (v_4[x1.2.2.2.1.toNat]?).bind fun _=>bif decide (0<=x1.2.2.2.2.1)&&decide (x1.2.2.2.2.1<((v_4.set x1.2.2.2.1.toNat (iadd .i64 x2 1)).length:Int)) then ((v_4.set x1.2.2.2.1.toNat (iadd .i64 x2 1))[x1.2.2.2.2.1.toNat]?).bind fun x4=>bif decide (0<=x1.2.2.2.2.1)&&decide (x1.2.2.2.2.1<((v_4.set x1.2.2.2.1.toNat (iadd .i64 x2 1)).length:Int)) then ((v_4.set x1.2.2.2.1.toNat (iadd .i64 x2 1))[x1.2.2.2.2.1.toNat]?).bind fun _=>g ((v_0,((v_4.set x1.2.2.2.1.toNat (iadd .i64 x2 1)).set x1.2.2.2.2.1.toNat (iadd .i64 x4 1)),v_18,v_19,(iadd .i64 v_20 1),()),()) else none else none else none else none) else (g ((v_0,v_4,v_18,v_19,(iadd .i64 v_20 1),()),())) else none) else (some ((v_0,v_4,()),()))
abbrev qbu:SG:=⟨[(0,.v (.sl qbg)),(42,.o (.int .i64) 343),(43,.v (.int .i64)),(44,.v (.int .i64))],[],[],[]⟩
abbrev qbZ:List (Ex×SG):=[(.exit 2,⟨[(0,.v (.sl qbg))],[],[],[]⟩),(.ret,⟨[(2,.v (.int .i64)),(3,.v (.int .i64))],[],[],[]⟩)]
def qbW (g:(((List NODE)×(List Int)×Int×Int×Unit)×Unit)->Option ((((List NODE)×Unit)×Unit) ⊕ ((Int×Int×Unit)×Unit))):(((List NODE)×(List Int)×Int×Int×Unit)×Unit)->Option ((((List NODE)×Unit)×Unit) ⊕ ((Int×Int×Unit)×Unit))
 | ((v_0,v_42,v_43,v_44,_),_)=>bif (decide (v_44<v_43)) then (bif decide (0<=v_44)&&decide (v_44<(v_42.length:Int)) then (v_42[v_44.toNat]?).bind fun x7=>bif (decide (v_44>0)) then (bif (!decide (x7=1)) then (some (.inr ((v_44,11,()),()))) else (g ((v_0,v_42,v_43,(iadd .i64 v_44 1),()),()))) else (g ((v_0,v_42,v_43,(iadd .i64 v_44 1),()),())) else none) else (some (.inl ((v_0,()),())))
abbrev qbt:SG:=⟨[(0,.v (.sl qbg)),(9,.o .bool 79),(10,.o (.int .i64) 87)],[],[],[]⟩
abbrev qbY:List (Ex×SG):=[(.exit 4,⟨[(9,.o .bool 79)],[],[],[]⟩)]
def qbV (g:(((List NODE)×(List Bool)×(List Int)×Unit)×Unit)->Option (((List Bool)×Unit)×Unit)):(((List NODE)×(List Bool)×(List Int)×Unit)×Unit)->Option (((List Bool)×Unit)×Unit)
 | ((v_0,v_9,v_10,_),_)=>bif (decide ((v_10.length:Int)>0)) then (bif decide (0<=(isub .i64 (v_10.length:Int) 1))&&decide ((isub .i64 (v_10.length:Int) 1)<(v_10.length:Int)) then (v_10[(isub .i64 (v_10.length:Int) 1).toNat]?).bind fun x11=>bif decide ((0:Int)<=(isub .i64 (v_10.length:Int) 1))&&decide (((isub .i64 (v_10.length:Int) 1):Int)<=(isub .i64 (v_10.length:Int) 1))&&decide (((isub .i64 (v_10.length:Int) 1):Int)<=(v_10.length:Int)) then bif decide (0<=x11)&&decide (x11<(v_9.length:Int)) then (v_9[x11.toNat]?).bind fun _=>bif decide (0<=x11) then (v_0[x11.toNat]?).bind fun x13=>bif (!x13.1) then (bif Nat.ble (((v_10.take (((isub .i64 (v_10.length:Int) 1)-0).toNat)).length+2)*8) 140737488355328&&!false then g ((v_0,(v_9.set x11.toNat true),((v_10.take (((isub .i64 (v_10.length:Int) 1)-0).toNat))++([x13.2.2.2.1,x13.2.2.2.2.1]:List Int)),()),()) else none) else (g ((v_0,(v_9.set x11.toNat true),(v_10.take (((isub .i64 (v_10.length:Int) 1)-0).toNat)),()),())) else none else none else none else none) else (some ((v_9,()),()))
abbrev qbs:SG:=⟨[(92,.o .bool 743),(93,.v (.int .i64)),(94,.v (.int .i64))],[],[],[]⟩
abbrev qbX:List (Ex×SG):=[(.exit 6,⟨[],[],[],[]⟩),(.ret,⟨[(2,.v (.int .i64)),(3,.v (.int .i64))],[],[],[]⟩)]
def qbU (g:(((List Bool)×Int×Int×Unit)×Unit)->Option ((Unit×Unit) ⊕ ((Int×Int×Unit)×Unit))):(((List Bool)×Int×Int×Unit)×Unit)->Option ((Unit×Unit) ⊕ ((Int×Int×Unit)×Unit))
 | ((v_92,v_93,v_94,_),_)=>bif (decide (v_94<v_93)) then (bif decide (0<=v_94)&&decide (v_94<(v_92.length:Int)) then (v_92[v_94.toNat]?).bind fun x15=>bif (!x15) then (some (.inr ((v_94,11,()),()))) else (g ((v_92,v_93,(iadd .i64 v_94 1),()),())) else none) else (some (.inl ((()),())))
def qg3 (a_0:List NODE):Option (Int×Int) :=
 bif decide ((a_0.length:Int)=(a_0.length:Int))&&decide (0<=(a_0.length:Int))&&decide (((8:Nat):Int)*(a_0.length:Int)<=281474976710656)&&decide ((a_0.length:Int)<=9223372036854775807) then (lp qcx K0 ((a_0,(List.replicate (a_0.length:Int).toNat (0:Int)),a_0,(a_0.length:Int),0,()),())).bind fun t6=>(lp qbW K0 ((t6.1.1,t6.1.2.1,(t6.1.2.1.length:Int),0,()),())).bind fun t8=>(match t8 with | .inl t9=>bif decide ((t9.1.1.length:Int)=(t9.1.1.length:Int))&&decide (0<=(t9.1.1.length:Int))&&decide (((1:Nat):Int)*(t9.1.1.length:Int)<=281474976710656)&&decide ((t9.1.1.length:Int)<=9223372036854775807) then (lp qbV K0 ((t9.1.1,(List.replicate (t9.1.1.length:Int).toNat (false:Bool)),([0]:List Int),()),())).bind fun t14=>(lp qbU K0 ((t14.1.1,(t14.1.1.length:Int),0,()),())).bind fun t16=>(match t16 with | .inl t17=>some (0,0) | .inr t18=>some (t18.1.1,t18.1.2.1)) else none | .inr t10=>some (t10.1.1,t10.1.2.1)) else none
def c81:Ctr:=⟨[((.sl qbg),.imm)],[((.int .i64),false),((.int .i64),false)],Int×Int,fun x=>qg3 x.1,fun r=>((),(r.1,r.2,())),none⟩
abbrev qbw:SG:=⟨[(6,.v (.sl qbg)),(7,.v (.int .i64)),(8,.v (.int .i64))],[],[],[]⟩
abbrev qb3:List (Ex×SG):=[(.exit 0,⟨[],[],[],[]⟩),(.ret,⟨[(2,.v (.int .i64)),(3,.v (.int .i64))],[],[],[]⟩)]
def qb2 (g:(((List NODE)×Int×Int×Unit)×Unit)->Option ((Unit×Unit) ⊕ ((Int×Int×Unit)×Unit))):(((List NODE)×Int×Int×Unit)×Unit)->Option ((Unit×Unit) ⊕ ((Int×Int×Unit)×Unit))
 | ((v_6,v_7,v_8,_),_)=>bif (decide (v_8<v_7)) then (bif decide (0<=v_8) then (v_6[v_8.toNat]?).bind fun x1=>(qgI x1.2.2.2.2.2.2.2).bind fun r2=>bif (decide (r2<=0)) then (some (.inr ((v_8,12,()),()))) else (g ((v_6,v_7,(iadd .i64 v_8 1),()),())) else none) else (some (.inl ((()),())))
def qf4 (t_0:List NODE):Option (Int×Int) :=
 (lp qb2 K0 ((t_0,(t_0.length:Int),0,()),())).bind fun t3=>(match t3 with | .inl t4=>some (0,0) | .inr t5=>some (t5.1.1,t5.1.2.1))
def c82:Ctr:=⟨[((.sl qbg),.imm)],[((.int .i64),false),((.int .i64),false)],Int×Int,fun x=>qf4 x.1,fun r=>((),(r.1,r.2,())),none⟩
def qi0 (a_0:WH) (b_1:WH):Option Int :=
 (qaZ a_0).bind fun r1=>(qaZ b_1).bind fun r2=>bif (!(r1.1 == r2.1)) then (bif r1.1 then (some (-1)) else (bif (!(r1.1 == r2.1)) then (some 1) else (bif r1.1 then ((qha r2.2 r1.2).bind fun r3=>some r3) else ((qha r1.2 r2.2).bind fun r4=>some r4)))) else (bif (!(r1.1 == r2.1)) then (some 1) else (bif r1.1 then ((qha r2.2 r1.2).bind fun r5=>some r5) else ((qha r1.2 r2.2).bind fun r6=>some r6)))
def c53:Ctr:=⟨[(tWH,.imm),(tWH,.imm)],[((.int .i64),false)],Int,fun x=>qi0 x.1 x.2.1,fun r=>((),(r,())),none⟩
def qhx (a_0:RAT) (b_1:RAT):Option Int :=
 (qa0 a_0).bind fun r1=>(qa0 b_1).bind fun r2=>(qek r2).bind fun r3=>(qeg r1.1 r3).bind fun r4=>(qek r1).bind fun r5=>(qeg r2.1 r5).bind fun r6=>(qi0 r4 r6).bind fun r7=>some r7
def c40:Ctr:=⟨[(tRAT,.imm),(tRAT,.imm)],[((.int .i64),false)],Int,fun x=>qhx x.1 x.2.1,fun r=>((),(r,())),none⟩
def qgJ (a_0:RAT) (b_1:RAT):Option Bool :=
 (qhx a_0 b_1).bind fun r1=>some (decide (r1=0))
def c24:Ctr:=⟨[(tRAT,.imm),(tRAT,.imm)],[(.bool,false)],Bool,fun x=>qgJ x.1 x.2.1,fun r=>((),(r,())),none⟩
abbrev qcf:SG:=⟨[(0,.v (.sl qbg)),(6,.v (.sl qbg)),(7,.v (.int .i64)),(8,.v (.int .i64))],[],[],[]⟩
abbrev qc7:List (Ex×SG):=[(.exit 0,⟨[],[],[],[]⟩),(.ret,⟨[(2,.v (.int .i64)),(3,.v (.int .i64))],[],[],[]⟩)]
def qc6 (g:(((List NODE)×(List NODE)×Int×Int×Unit)×Unit)->Option ((Unit×Unit) ⊕ ((Int×Int×Unit)×Unit))):(((List NODE)×(List NODE)×Int×Int×Unit)×Unit)->Option ((Unit×Unit) ⊕ ((Int×Int×Unit)×Unit))
 | ((t_0,v_6,v_7,v_8,_),_)=>bif (decide (v_8<v_7)) then (bif decide (0<=v_8) then (v_6[v_8.toNat]?).bind fun x1=>bif (!x1.1) then (bif decide (0<=x1.2.2.2.1) then (t_0[x1.2.2.2.1.toNat]?).bind fun x2=>bif decide (0<=x1.2.2.2.2.1) then (t_0[x1.2.2.2.2.1.toNat]?).bind fun x3=>(qdc x2.2.2.2.2.2.2.2 x3.2.2.2.2.2.2.2).bind fun r4=>(qgJ x1.2.2.2.2.2.2.2 r4).bind fun r5=>bif (!r5) then (some (.inr ((v_8,13,()),()))) else (g ((t_0,v_6,v_7,(iadd .i64 v_8 1),()),())) else none else none) else (g ((t_0,v_6,v_7,(iadd .i64 v_8 1),()),())) else none) else (some (.inl ((()),())))
def qhT (t_0:List NODE):Option (Int×Int) :=
 (lp qc6 K0 ((t_0,t_0,(t_0.length:Int),0,()),())).bind fun t6=>(match t6 with | .inl t7=>some (0,0) | .inr t8=>some (t8.1.1,t8.1.2.1))
def c83:Ctr:=⟨[((.sl qbg),.imm)],[((.int .i64),false),((.int .i64),false)],Int×Int,fun x=>qhT x.1,fun r=>((),(r.1,r.2,())),none⟩
def qcQ (e_0:Int) (tree_1:Int) (node_2:Int):Option (Int×Int×Int×Int) :=
 some (e_0,(0,(tree_1,node_2)))
def c84:Ctr:=⟨[((.int .i64),.imm),((.int .i64),.imm),((.int .i64),.imm)],[((.pair (.int .i64) (.pair (.int .i64) (.pair (.int .i64) (.int .i64)))),false)],(Int×Int×Int×Int),fun x=>qcQ x.1 x.2.1 x.2.2.1,fun r=>((),(r,())),none⟩
abbrev qbQ:SG:=⟨[(1,.p 8 0 0),(2,.p 16 0 0),(3,.v (.int .i64)),(12,.v (.int .i64)),(16,.v (.sl (.sl qbg))),(17,.v (.int .i64)),(18,.v (.int .i64))],[(8,[.v (.int .i64),.v (.sl (.sl qbg))]),(16,[.v (.int .i64),.v (.int .i64),.v (.int .i64),.v (.int .i64)])],[],[]⟩
abbrev qcB:List (Ex×SG):=[(.exit 2,⟨[(1,.p 8 0 0),(2,.p 16 0 0),(12,.v (.int .i64))],[(8,[.v (.int .i64),.v (.sl (.sl qbg))]),(16,[.v (.int .i64),.v (.int .i64),.v (.int .i64),.v (.int .i64)])],[],[]⟩),(.ret,⟨[(2,.p 16 0 0)],[(16,[.v (.int .i64),.v (.int .i64),.v (.int .i64),.v (.int .i64)])],[],[]⟩)]
abbrev qfR:=((Int×Int×(List (List NODE))×Int×Int×Unit)×((Int×(List (List NODE))×Unit)×(Int×Int×Int×Int×Unit)×Unit))
abbrev qfQ:=(((Int×Unit)×((Int×(List (List NODE))×Unit)×(Int×Int×Int×Int×Unit)×Unit)) ⊕ (Unit×((Int×Int×Int×Int×Unit)×Unit)))
def qcz (g:qfR->Option qfQ):qfR->Option qfQ
 | ((rule_3,v_12,v_16,v_17,v_18,_),((b8_0,b8_1,_),(b16_0,b16_1,b16_2,b16_3,_),_))=>bif (decide (v_18<v_17)) then (bif decide (0<=v_18) then (v_16[v_18.toNat]?).bind fun x2=>bif (decide (rule_3=0)) then ((qf3 x2 b8_0).bind fun r3=>bif (!decide (r3.2=0)) then ((qcQ r3.2 v_18 r3.1).bind fun r4=>some (.inr ((()),((r4.1,r4.2.1,r4.2.2.1,r4.2.2.2,()),())))) else (g ((rule_3,v_12,v_16,v_17,(iadd .i64 v_18 1),()),((b8_0,b8_1,()),(b16_0,b16_1,b16_2,b16_3,()),())))) else (bif (decide (rule_3=1)) then ((qg3 x2).bind fun r5=>bif (!decide (r5.2=0)) then ((qcQ r5.2 v_18 r5.1).bind fun r6=>some (.inr ((()),((r6.1,r6.2.1,r6.2.2.1,r6.2.2.2,()),())))) else (g ((rule_3,v_12,v_16,v_17,(iadd .i64 v_18 1),()),((b8_0,b8_1,()),(b16_0,b16_1,b16_2,b16_3,()),())))) else (bif (decide (rule_3=2)) then ((qf4 x2).bind fun r7=>bif (!decide (r7.2=0)) then ((qcQ r7.2 v_18 r7.1).bind fun r8=>some (.inr ((()),((r8.1,r8.2.1,r8.2.2.1,r8.2.2.2,()),())))) else (g ((rule_3,v_12,v_16,v_17,(iadd .i64 v_18 1),()),((b8_0,b8_1,()),(b16_0,b16_1,b16_2,b16_3,()),())))) else (bif (decide (rule_3=3)) then ((qhT x2).bind fun r9=>bif (!decide (r9.2=0)) then ((qcQ r9.2 v_18 r9.1).bind fun r10=>some (.inr ((()),((r10.1,r10.2.1,r10.2.2.1,r10.2.2.2,()),())))) else (g ((rule_3,v_12,v_16,v_17,(iadd .i64 v_18 1),()),((b8_0,b8_1,()),(b16_0,b16_1,b16_2,b16_3,()),())))) else (bif (!decide ((0:Int)=0)) then ((qcQ 0 v_18 0).bind fun r11=>some (.inr ((()),((r11.1,r11.2.1,r11.2.2.1,r11.2.2.2,()),())))) else (g ((rule_3,v_12,v_16,v_17,(iadd .i64 v_18 1),()),((b8_0,b8_1,()),(b16_0,b16_1,b16_2,b16_3,()),()))))))) else none) else (some (.inl ((v_12,()),((b8_0,b8_1,()),(b16_0,b16_1,b16_2,b16_3,()),()))))
abbrev qbR:SG:=⟨[(1,.p 8 0 0),(2,.p 16 0 0),(12,.v (.int .i64))],[(8,[.v (.int .i64),.v (.sl (.sl qbg))]),(16,[.v (.int .i64),.v (.int .i64),.v (.int .i64),.v (.int .i64)])],[],[]⟩
abbrev qcC:List (Ex×SG):=[(.exit 0,⟨[(2,.p 16 0 0)],[(16,[.v (.int .i64),.v (.int .i64),.v (.int .i64),.v (.int .i64)])],[],[]⟩),(.ret,⟨[(2,.p 16 0 0)],[(16,[.v (.int .i64),.v (.int .i64),.v (.int .i64),.v (.int .i64)])],[],[]⟩)]
abbrev qfT:=((Int×Unit)×((Int×(List (List NODE))×Unit)×(Int×Int×Int×Int×Unit)×Unit))
abbrev qfS:=((Unit×((Int×Int×Int×Int×Unit)×Unit)) ⊕ (Unit×((Int×Int×Int×Int×Unit)×Unit)))
def qcA (g:qfT->Option qfS):qfT->Option qfS
 | ((v_12,_),((b8_0,b8_1,_),(b16_0,b16_1,b16_2,b16_3,_),_))=>bif (decide (v_12<4)) then ((lp qcz K0 ((v_12,v_12,b8_1,(b8_1.length:Int),0,()),((b8_0,b8_1,()),(b16_0,b16_1,b16_2,b16_3,()),()))).bind fun t12=>(match t12 with | .inl t13=>g (((iadd .i64 t13.1.1 1),()),((t13.2.1.1,t13.2.1.2.1,()),(t13.2.2.1.1,t13.2.2.1.2.1,t13.2.2.1.2.2.1,t13.2.2.1.2.2.2.1,()),())) | .inr t14=>some (.inr ((()),((t14.2.1.1,t14.2.1.2.1,t14.2.1.2.2.1,t14.2.1.2.2.2.1,()),()))))) else (some (.inl ((()),((b16_0,b16_1,b16_2,b16_3,()),()))))
def qg4 (m_0:qhP):Option (Int×Int×Int×Int) :=
 (qh8 m_0).bind fun r1=>bif (!r1) then (some (1,(0,(0,0)))) else ((lp qcA K0 ((0,()),((m_0.1,m_0.2,()),(0,0,0,0,()),()))).bind fun t15=>(match t15 with | .inl t16=>some (0,(0,(0,0))) | .inr t17=>some (t17.2.1.1,(t17.2.1.2.1,(t17.2.1.2.2.1,t17.2.1.2.2.2.1)))))
def c73:Ctr:=⟨[(qio,.imm)],[((.pair (.int .i64) (.pair (.int .i64) (.pair (.int .i64) (.int .i64)))),false)],(Int×Int×Int×Int),fun x=>qg4 x.1,fun r=>((),(r,())),none⟩
def qkF (m_0:qhP):Option Bool :=
 (qg4 m_0).bind fun r1=>some (decide (r1.1=0)&&(decide (r1.2.1=0)&&(decide (r1.2.2.1=0)&&(decide (r1.2.2.2=0)&&true))))
def c64:Ctr:=⟨[(qio,.imm)],[(.bool,false)],Bool,fun x=>qkF x.1,fun r=>((),(r,())),none⟩
def qhW (m_0:qhP) (row_1:List CELL):Option Int :=
 (qkF m_0).bind fun r1=>bif (!r1) then (some 1) else (bif (!decide ((row_1.length:Int)=m_0.1)) then (some 14) else (some 0))
def c50:Ctr:=⟨[(qio,.imm),((.sl qal),.imm)],[((.int .i64),false)],Int,fun x=>qhW x.1 x.2.1,fun r=>((),(r,())),none⟩
def qhY (m_0:qhP) (row_1:List CELL):Option Int :=
 (qhW m_0 row_1).bind fun r1=>some r1
def c38:Ctr:=⟨[(qio,.imm),((.sl qal),.imm)],[((.int .i64),false)],Int,fun x=>qhY x.1 x.2.1,fun r=>((),(r,())),none⟩
abbrev qbc:SG:=⟨[(3,.o tRAT 31),(4,.v (.int .i64)),(5,.v (.int .i64))],[],[],[]⟩
abbrev qbz:List (Ex×SG):=[(.exit 0,⟨[(3,.o tRAT 31)],[],[],[]⟩)]
def qby (g:(((List RAT)×Int×Int×Unit)×Unit)->Option (((List RAT)×Unit)×Unit)):(((List RAT)×Int×Int×Unit)×Unit)->Option (((List RAT)×Unit)×Unit)
 | ((out_3,v_4,v_5,_),_)=>bif (decide (v_5<v_4)) then ((qd8 ).bind fun r1=>bif Nat.ble ((out_3.length+1)*56) 140737488355328&&!false then g (((out_3++([r1]:List RAT)),v_4,(iadd .i64 v_5 1),()),()) else none) else (some ((out_3,()),()))
def qeH (n_0:Int):Option (List RAT) :=
 (lp qby K0 (([],n_0,0,()),())).bind fun t2=>some t2.1.1
def c51:Ctr:=⟨[((.int .i64),.imm)],[((.sl tRAT),true)],(List RAT),fun x=>qeH x.1,fun r=>((),(r,())),none⟩
def qgd :Option (List (Int×RAT×CELL)) :=
 (qdb ).bind fun r1=>(qdb ).bind fun r2=>some ([((-1),(r1,(true,r2)))]:List (Int×RAT×CELL))
abbrev w65:Wir:=⟨[],[],0,some 1,[],[],0⟩
def c65:Ctr:=⟨[],[((.sl (.pair (.int .i64) (.pair tRAT qal))),true)],(List (Int×RAT×CELL)),fun x=>qgd ,fun r=>((),(r,())),some w65⟩
def qcS (b_0:Int) (b_1:Bool) (b_2:List Int) (b_3:List Int) (b_4:Int) (b_5:Bool) (b_6:List Int) (b_7:List Int) (b_8:Bool) (b_9:List (Int×RAT×CELL)):Option (Int×Bool×(List Int)×(List Int)×Int×Bool×(List Int)×(List Int)×Bool×(List (Int×RAT×CELL))) :=
 bif (decide (b_4<0)) then (some (b_0,b_1,b_2,b_3,b_4,b_5,b_6,b_7,b_8,b_9)) else ((qaU b_4 b_9).bind fun r1=>bif (decide (r1.1>0)) then ((qaC r1.2).bind fun r2=>bif decide (0<=(isub .i64 r1.1 1))&&decide ((isub .i64 r1.1 1)<(r2.1.length:Int)) then (r2.1[(isub .i64 r1.1 1).toNat]?).bind fun x3=>(qaE ((b_5,b_6),b_7) x3.2.1).bind fun r4=>bif b_8 then ((qaX r1.1 r2.2).bind fun r5=>(qay b_4 r4 x3.2.2 r5.2).bind fun r6=>some (b_0,b_1,b_2,b_3,b_4,b_5,b_6,b_7,b_8,r6.2)) else ((qaX r1.1 r2.2).bind fun r7=>(qay b_4 r4 false r7.2).bind fun r8=>some (b_0,b_1,b_2,b_3,b_4,b_5,b_6,b_7,b_8,r8.2)) else none) else ((qay b_4 ((b_5,b_6),b_7) b_8 r1.2).bind fun r9=>some (b_0,b_1,b_2,b_3,b_4,b_5,b_6,b_7,b_8,r9.2)))
abbrev w66:Wir:=⟨[.b],[[.x,.b,.x,.x,.x,.x,.x,.x,.x,.x],[.x]],0,none,[],[],0⟩
def c66:Ctr:=⟨[((.int .i64),.imm),(.bool,.imm),((.sl (.int .u64)),.imm),((.sl (.int .u64)),.imm),((.int .i64),.imm),(.bool,.imm),((.sl (.int .u64)),.imm),((.sl (.int .u64)),.imm),(.bool,.imm),((.sl (.pair (.int .i64) (.pair tRAT qal))),.own)],[((.int .i64),false),(.bool,false),((.sl (.int .u64)),false),((.sl (.int .u64)),false),((.int .i64),false),(.bool,false),((.sl (.int .u64)),false),((.sl (.int .u64)),false),(.bool,false),((.sl (.pair (.int .i64) (.pair tRAT qal))),true)],Int×Bool×(List Int)×(List Int)×Int×Bool×(List Int)×(List Int)×Bool×(List (Int×RAT×CELL)),fun x=>qcS x.1 x.2.1 x.2.2.1 x.2.2.2.1 x.2.2.2.2.1 x.2.2.2.2.2.1 x.2.2.2.2.2.2.1 x.2.2.2.2.2.2.2.1 x.2.2.2.2.2.2.2.2.1 x.2.2.2.2.2.2.2.2.2.1,fun r=>((),(r.1,r.2.1,r.2.2.1,r.2.2.2.1,r.2.2.2.2.1,r.2.2.2.2.2.1,r.2.2.2.2.2.2.1,r.2.2.2.2.2.2.2.1,r.2.2.2.2.2.2.2.2.1,r.2.2.2.2.2.2.2.2.2,())),some w66⟩
abbrev qav:SG:=⟨[(0,.p 552 0 0),(3,.p 24 0 0),(4,.p 32 0 0),(13,.p 552 0 0),(24,.o qfW 199),(25,.v (.int .i64)),(26,.v (.int .i64))],[(24,[.v (.int .i64),.p 553 0 0,.v .bool,.v (.sl (.int .u64)),.v (.sl (.int .u64)),.v (.int .i64),.v .bool,.v (.sl (.int .u64)),.v (.sl (.int .u64)),.v .bool]),(32,[.v .bool,.v (.sl (.int .u64)),.v (.sl (.int .u64))]),(552,[.v (.sl qbg),.v (.sl qal),.v (.int .i64),.v .bool,.f tRAT 104,.h]),(553,[.o (.pair (.int .i64) (.pair tRAT qal)) 1572])],[],[]⟩
abbrev qaR:List (Ex×SG):=[(.exit 0,⟨[(0,.p 552 0 0),(13,.p 552 0 0)],[(552,[.v (.sl qbg),.v (.sl qal),.v (.int .i64),.v .bool,.f tRAT 104,.h]),(553,[.o (.pair (.int .i64) (.pair tRAT qal)) 1572])],[],[]⟩)]
abbrev qcI:=(((List PART)×Int×Int×Unit)×((Int×Bool×(List Int)×(List Int)×Int×Bool×(List Int)×(List Int)×Bool×Unit)×(Bool×(List Int)×(List Int)×Unit)×((List NODE)×(List CELL)×Int×Bool×(List RAT)×Unit)×((List (Int×RAT×CELL))×Unit)×Unit))
abbrev qcH:=(Unit×(((List NODE)×(List CELL)×Int×Bool×(List RAT)×Unit)×((List (Int×RAT×CELL))×Unit)×Unit))
def qaQ (g:qcI->Option qcH):qcI->Option qcH
 | ((v_24,v_25,v_26,_),((b24_0,b24_2,b24_3,b24_4,b24_5,b24_6,b24_7,b24_8,b24_9,_),(b32_0,b32_1,b32_2,_),(b552_0,b552_1,b552_2,b552_3,b552_4,_),(b553_0,_),_))=>bif (decide (v_26<v_25)) then (bif decide (0<=v_26)&&decide (v_26<(v_24.length:Int)) then (v_24[v_26.toNat]?).bind fun x4=>(qbD (iadd .i64 v_26 1) b553_0).bind fun r5=>(qht x4.2.1).bind fun r6=>bif x4.2.2 then ((qdb ).bind fun r7=>(qdc r7 r6).bind fun r8=>bif decide (0<=x4.1)&&decide (x4.1<(b552_4.length:Int)) then (b552_4[x4.1.toNat]?).bind fun x9=>(qaE r5.1 r8).bind fun r10=>(qaE r10 ((b32_0,b32_1),b32_2)).bind fun r11=>(qdc x9 r11).bind fun r12=>bif decide (0<=x4.1)&&decide (x4.1<(b552_4.length:Int)) then (b552_4[x4.1.toNat]?).bind fun _=>g ((v_24,v_25,(iadd .i64 v_26 1),()),((b24_0,b24_2,b24_3,b24_4,b24_5,b24_6,b24_7,b24_8,b24_9,()),(b32_0,b32_1,b32_2,()),(b552_0,b552_1,b552_2,b552_3,(b552_4.set x4.1.toNat r12),()),(r5.2.2,()),())) else none else none) else (bif decide (0<=x4.1)&&decide (x4.1<(b552_4.length:Int)) then (b552_4[x4.1.toNat]?).bind fun x14=>(qaE r5.1 r6).bind fun r15=>(qaE r15 ((b32_0,b32_1),b32_2)).bind fun r16=>(qdc x14 r16).bind fun r17=>bif decide (0<=x4.1)&&decide (x4.1<(b552_4.length:Int)) then (b552_4[x4.1.toNat]?).bind fun _=>g ((v_24,v_25,(iadd .i64 v_26 1),()),((b24_0,b24_2,b24_3,b24_4,b24_5,b24_6,b24_7,b24_8,b24_9,()),(b32_0,b32_1,b32_2,()),(b552_0,b552_1,b552_2,b552_3,(b552_4.set x4.1.toNat r17),()),(r5.2.2,()),())) else none else none) else none) else (some ((()),((b552_0,b552_1,b552_2,b552_3,b552_4,()),(b553_0,()),())))
def qcw (a_0:Int) (a_1:Bool) (a_2:List Int) (a_3:List Int) (a_4:Int) (a_5:Bool) (a_6:List Int) (a_7:List Int) (a_8:Bool) (b_9:List NODE) (b_10:List CELL) (b_11:Int) (b_12:Bool) (b_13:List RAT) (b_14:List (Int×RAT×CELL)):Option ((List RAT)×(List NODE)×(List CELL)×Int×Bool×(List (Int×RAT×CELL))) :=
 bif decide (0<=a_0) then (b_9[a_0.toNat]?).bind fun x1=>(qaE ((a_1,a_2),a_3) x1.2.2.2.2.2.2.1).bind fun r2=>(qaC b_14).bind fun r3=>(lp qaQ K0 ((r3.1,(r3.1.length:Int),0,()),((a_0,a_1,a_2,a_3,a_4,a_5,a_6,a_7,a_8,()),(r2.1.1,r2.1.2,r2.2,()),(b_9,b_10,b_11,b_12,b_13,()),(r3.2,()),()))).bind fun t19=>(bif Nat.beq t19.2.1.2.2.2.2.1.length b_13.length then some (t19.2.1.2.2.2.2.1,()) else none).bind fun l20=>some (l20.1,t19.2.1.1,t19.2.1.2.1,t19.2.1.2.2.1,t19.2.1.2.2.2.1,t19.2.2.1.1) else none
abbrev w67:Wir:=⟨[.b,.x,.b,.x,.x,.x,.x,.x,.x,.x,.x],[[.x,.x,.x,.x,.l,.h],[.x]],0,none,[.x,.g 10],[],0⟩
def c67:Ctr:=⟨[((.int .i64),.imm),(.bool,.imm),((.sl (.int .u64)),.imm),((.sl (.int .u64)),.imm),((.int .i64),.imm),(.bool,.imm),((.sl (.int .u64)),.imm),((.sl (.int .u64)),.imm),(.bool,.imm),((.sl qbg),.imm),((.sl qal),.imm),((.int .i64),.imm),(.bool,.imm),((.sl tRAT),.lent),((.sl (.pair (.int .i64) (.pair tRAT qal))),.own)],[((.sl qbg),false),((.sl qal),false),((.int .i64),false),(.bool,false),((.sl (.pair (.int .i64) (.pair tRAT qal))),true)],(List RAT)×(List NODE)×(List CELL)×Int×Bool×(List (Int×RAT×CELL)),fun x=>qcw x.1 x.2.1 x.2.2.1 x.2.2.2.1 x.2.2.2.2.1 x.2.2.2.2.2.1 x.2.2.2.2.2.2.1 x.2.2.2.2.2.2.2.1 x.2.2.2.2.2.2.2.2.1 x.2.2.2.2.2.2.2.2.2.1 x.2.2.2.2.2.2.2.2.2.2.1 x.2.2.2.2.2.2.2.2.2.2.2.1 x.2.2.2.2.2.2.2.2.2.2.2.2.1 x.2.2.2.2.2.2.2.2.2.2.2.2.2.1 x.2.2.2.2.2.2.2.2.2.2.2.2.2.2.1,fun r=>((r.1,()),(r.2.1,r.2.2.1,r.2.2.2.1,r.2.2.2.2.1,r.2.2.2.2.2,())),some w67⟩
def qdh (b_0:List (Int×RAT×CELL)):Option ((List (Int×RAT×CELL))×(List (Int×RAT×CELL))) :=
 bif Nat.ble ((([]:List (Int×RAT×CELL)).length+b_0.length)*128) 140737488355328&&!false then some (b_0,(([]:List (Int×RAT×CELL))++b_0)) else none
abbrev w7:Wir:=⟨[.b],[[.x]],0,some 1,[],[],0⟩
def c7:Ctr:=⟨[((.sl (.pair (.int .i64) (.pair tRAT qal))),.own)],[((.sl (.pair (.int .i64) (.pair tRAT qal))),true),((.sl (.pair (.int .i64) (.pair tRAT qal))),true)],(List (Int×RAT×CELL))×(List (Int×RAT×CELL)),fun x=>qdh x.1,fun r=>((),(r.1,r.2,())),some w7⟩
def qjq (a_0:RAT) (b_1:RAT):Option (RAT×Int) :=
 (qhv b_1).bind fun r1=>bif (!decide (r1.2=0)) then (some (((false,[]),[]),r1.2)) else ((qaE a_0 r1.1).bind fun r2=>some (r2,0))
def c74:Ctr:=⟨[(tRAT,.imm),(tRAT,.imm)],[(tRAT,false),((.int .i64),false)],RAT×Int,fun x=>qjq x.1 x.2.1,fun r=>((),(r.1,r.2,())),none⟩
def qhV (n_0:NODE) (c_1:CELL):Option Bool :=
 bif c_1.1 then (some n_0.2.2.2.2.2.1) else ((qhx c_1.2 n_0.2.2.1).bind fun r1=>some (decide (r1<0)))
def c85:Ctr:=⟨[(qbg,.imm),(qal,.imm)],[(.bool,false)],Bool,fun x=>qhV x.1 x.2.1,fun r=>((),(r,())),none⟩
def qhX (n_0:NODE) (c_1:CELL):Option Bool :=
 bif (!n_0.1) then ((qhV n_0 c_1).bind fun r1=>some r1) else (some false)
def c75:Ctr:=⟨[(qbg,.imm),(qal,.imm)],[(.bool,false)],Bool,fun x=>qhX x.1 x.2.1,fun r=>((),(r,())),none⟩
def qbj (a_0:Int) (a_1:Bool) (a_2:List Int) (a_3:List Int) (a_4:Int) (a_5:Bool) (a_6:List Int) (a_7:List Int) (a_8:Bool) (a_9:Int) (a_10:Bool) (b_11:List NODE) (b_12:List CELL) (b_13:Int) (b_14:Bool) (b_15:List RAT) (b_16:List (Int×RAT×CELL)):Option ((List RAT)×Int×Bool×(List Int)×(List Int)×Int×Bool×(List Int)×(List Int)×Bool×Bool×(List NODE)×(List CELL)×Int×Bool×(List (Int×RAT×CELL))×(List (Int×RAT×CELL))) :=
 bif decide (0<=a_0) then (b_11[a_0.toNat]?).bind fun x1=>bif decide (0<=a_9) then (b_11[a_9.toNat]?).bind fun x2=>(qjq x2.2.2.2.2.2.2.2 x1.2.2.2.2.2.2.2).bind fun r3=>bif decide (0<=x1.2.1) then (b_12[x1.2.1.toNat]?).bind fun x4=>(qhX x1 x4).bind fun r5=>(qdh b_16).bind fun r6=>bif (!decide (x1.2.1=b_13)) then ((bif Nat.beq b_15.length b_15.length then some (b_15,()) else none).bind fun l7=>some (l7.1,a_9,a_1,a_2,a_3,x1.2.1,r3.1.1.1,r3.1.1.2,r3.1.2,(r5 == a_10),true,b_11,b_12,b_13,b_14,r6.1,r6.2)) else (bif b_14 then ((bif Nat.beq b_15.length b_15.length then some (b_15,()) else none).bind fun l8=>some (l8.1,a_9,a_1,a_2,a_3,(-1),r3.1.1.1,r3.1.1.2,r3.1.2,(r5 == a_10),(r5 == a_10),b_11,b_12,b_13,b_14,r6.1,r6.2)) else ((qaE ((a_1,a_2),a_3) r3.1).bind fun r9=>(bif Nat.beq b_15.length b_15.length then some (b_15,()) else none).bind fun l10=>some (l10.1,a_9,r9.1.1,r9.1.2,r9.2,(-1),r3.1.1.1,r3.1.1.2,r3.1.2,(r5 == a_10),true,b_11,b_12,b_13,b_14,r6.1,r6.2))) else none else none else none
abbrev w68:Wir:=⟨[.b,.x,.b,.x,.x,.x,.x,.x,.x,.x,.x,.x,.x],[[.x,.x,.x,.x,.l,.h],[.x]],10,some 1,[.x,.g 10,.x,.x],[.g 10,.x],1⟩
def c68:Ctr:=⟨[((.int .i64),.imm),(.bool,.imm),((.sl (.int .u64)),.imm),((.sl (.int .u64)),.imm),((.int .i64),.imm),(.bool,.imm),((.sl (.int .u64)),.imm),((.sl (.int .u64)),.imm),(.bool,.imm),((.int .i64),.imm),(.bool,.imm),((.sl qbg),.imm),((.sl qal),.imm),((.int .i64),.imm),(.bool,.imm),((.sl tRAT),.lent),((.sl (.pair (.int .i64) (.pair tRAT qal))),.own)],[((.int .i64),false),(.bool,false),((.sl (.int .u64)),false),((.sl (.int .u64)),false),((.int .i64),false),(.bool,false),((.sl (.int .u64)),false),((.sl (.int .u64)),false),(.bool,false),(.bool,false),((.sl qbg),false),((.sl qal),false),((.int .i64),false),(.bool,false),((.sl (.pair (.int .i64) (.pair tRAT qal))),true),((.sl (.pair (.int .i64) (.pair tRAT qal))),true)],(List RAT)×Int×Bool×(List Int)×(List Int)×Int×Bool×(List Int)×(List Int)×Bool×Bool×(List NODE)×(List CELL)×Int×Bool×(List (Int×RAT×CELL))×(List (Int×RAT×CELL)),fun x=>qbj x.1 x.2.1 x.2.2.1 x.2.2.2.1 x.2.2.2.2.1 x.2.2.2.2.2.1 x.2.2.2.2.2.2.1 x.2.2.2.2.2.2.2.1 x.2.2.2.2.2.2.2.2.1 x.2.2.2.2.2.2.2.2.2.1 x.2.2.2.2.2.2.2.2.2.2.1 x.2.2.2.2.2.2.2.2.2.2.2.1 x.2.2.2.2.2.2.2.2.2.2.2.2.1 x.2.2.2.2.2.2.2.2.2.2.2.2.2.1 x.2.2.2.2.2.2.2.2.2.2.2.2.2.2.1 x.2.2.2.2.2.2.2.2.2.2.2.2.2.2.2.1 x.2.2.2.2.2.2.2.2.2.2.2.2.2.2.2.2.1,fun r=>((r.1,()),(r.2.1,r.2.2.1,r.2.2.2.1,r.2.2.2.2.1,r.2.2.2.2.2.1,r.2.2.2.2.2.2.1,r.2.2.2.2.2.2.2.1,r.2.2.2.2.2.2.2.2.1,r.2.2.2.2.2.2.2.2.2.1,r.2.2.2.2.2.2.2.2.2.2.1,r.2.2.2.2.2.2.2.2.2.2.2.1,r.2.2.2.2.2.2.2.2.2.2.2.2.1,r.2.2.2.2.2.2.2.2.2.2.2.2.2.1,r.2.2.2.2.2.2.2.2.2.2.2.2.2.2.1,r.2.2.2.2.2.2.2.2.2.2.2.2.2.2.2.1,r.2.2.2.2.2.2.2.2.2.2.2.2.2.2.2.2,())),some w68⟩
abbrev qat:SG:=⟨[(0,.p 728 0 0),(2,.p 16 0 0),(3,.p 24 0 0),(62,.v (.pair .bool (.pair .bool .unit))),(63,.v (.int .i64))],[(16,[.v (.int .i64),.p 268 0 0,.v .bool,.v (.sl (.int .u64)),.v (.sl (.int .u64)),.v (.int .i64),.v .bool,.v (.sl (.int .u64)),.v (.sl (.int .u64)),.v .bool]),(24,[.v .bool,.v (.int .i64),.v .bool,.v (.sl (.int .u64)),.v (.sl (.int .u64)),.v (.int .i64),.v (.int .i64),.v .bool,.v .bool,.v (.sl (.int .u64)),.v (.sl (.int .u64)),.v .bool,.v (.sl (.int .u64)),.v (.sl (.int .u64))]),(268,[.o (.pair (.int .i64) (.pair tRAT qal)) 269]),(728,[.v (.sl qbg),.v (.sl qal),.v (.int .i64),.v .bool,.f tRAT 32,.o (.pair (.int .i64) (.pair (.op (.pair (.os (.pair (.int .i64) (.pair tRAT qal))) .unit)) (.pair tRAT qfW))) 1733])],[],[]⟩
abbrev qaO:List (Ex×SG):=[(.exit 2,⟨[(0,.p 728 0 0)],[(728,[.v (.sl qbg),.v (.sl qal),.v (.int .i64),.v .bool,.f tRAT 32,.o (.pair (.int .i64) (.pair (.op (.pair (.os (.pair (.int .i64) (.pair tRAT qal))) .unit)) (.pair tRAT qfW))) 1733])],[],[]⟩)]
abbrev qcE:=(((Bool×Bool×Unit)×Int×Unit)×((Int×Bool×(List Int)×(List Int)×Int×Bool×(List Int)×(List Int)×Bool×Unit)×(Bool×Int×Bool×(List Int)×(List Int)×Int×Int×Bool×Bool×(List Int)×(List Int)×Bool×(List Int)×(List Int)×Unit)×((List (Int×RAT×CELL))×Unit)×((List NODE)×(List CELL)×Int×Bool×(List RAT)×(List (Int×(Option ((Option (List (Int×RAT×CELL)))×Unit))×RAT×PART))×Unit)×Unit))
abbrev qcD:=(Unit×(((List NODE)×(List CELL)×Int×Bool×(List RAT)×(List (Int×(Option ((Option (List (Int×RAT×CELL)))×Unit))×RAT×PART))×Unit)×Unit))
def qaM (g:qcE->Option qcD):qcE->Option qcD
 | ((v_62,v_63,_),((b16_0,b16_2,b16_3,b16_4,b16_5,b16_6,b16_7,b16_8,b16_9,_),(b24_0,b24_1,b24_2,b24_3,b24_4,b24_5,b24_6,b24_7,b24_8,b24_9,b24_10,b24_11,b24_12,b24_13,_),(b268_0,_),(b728_0,b728_1,b728_2,b728_3,b728_4,b728_5,_),_))=>bif (decide (v_63<2)) then (bif decide (0<=v_63) then (([v_62.1,v_62.2.1]:List Bool)[v_63.toNat]?).bind fun x9=>bif x9 then ((qbj b16_0 b16_2 b16_3 b16_4 b16_5 b16_6 b16_7 b16_8 b16_9 b24_5 x9 b728_0 b728_1 b728_2 b728_3 b728_4 b268_0).bind fun r10=>bif r10.2.2.2.2.2.2.2.2.2.2.1 then (bif Nat.ble ((b728_5.length+([(r10.2.1,((some ((some r10.2.2.2.2.2.2.2.2.2.2.2.2.2.2.2.2),())),(((r10.2.2.1,r10.2.2.2.1),r10.2.2.2.2.1),(r10.2.2.2.2.2.1,(((r10.2.2.2.2.2.2.1,r10.2.2.2.2.2.2.2.1),r10.2.2.2.2.2.2.2.2.1),r10.2.2.2.2.2.2.2.2.2.1)))))]).length)*144) 140737488355328&&!false then g (((v_62.1,(v_62.2.1,())),(iadd .i64 v_63 1),()),((b16_0,b16_2,b16_3,b16_4,b16_5,b16_6,b16_7,b16_8,b16_9,()),(b24_0,b24_1,b24_2,b24_3,b24_4,b24_5,b24_6,b24_7,b24_8,b24_9,b24_10,b24_11,b24_12,b24_13,()),(r10.2.2.2.2.2.2.2.2.2.2.2.2.2.2.2.1,()),(r10.2.2.2.2.2.2.2.2.2.2.2.1,r10.2.2.2.2.2.2.2.2.2.2.2.2.1,r10.2.2.2.2.2.2.2.2.2.2.2.2.2.1,r10.2.2.2.2.2.2.2.2.2.2.2.2.2.2.1,(over b728_4 0 r10.1),(b728_5++[(r10.2.1,((some ((some r10.2.2.2.2.2.2.2.2.2.2.2.2.2.2.2.2),())),(((r10.2.2.1,r10.2.2.2.1),r10.2.2.2.2.1),(r10.2.2.2.2.2.1,(((r10.2.2.2.2.2.2.1,r10.2.2.2.2.2.2.2.1),r10.2.2.2.2.2.2.2.2.1),r10.2.2.2.2.2.2.2.2.2.1)))))]),()),())) else none) else (g (((v_62.1,(v_62.2.1,())),(iadd .i64 v_63 1),()),((b16_0,b16_2,b16_3,b16_4,b16_5,b16_6,b16_7,b16_8,b16_9,()),(b24_0,b24_1,b24_2,b24_3,b24_4,b24_5,b24_6,b24_7,b24_8,b24_9,b24_10,b24_11,b24_12,b24_13,()),(r10.2.2.2.2.2.2.2.2.2.2.2.2.2.2.2.1,()),(r10.2.2.2.2.2.2.2.2.2.2.2.1,r10.2.2.2.2.2.2.2.2.2.2.2.2.1,r10.2.2.2.2.2.2.2.2.2.2.2.2.2.1,r10.2.2.2.2.2.2.2.2.2.2.2.2.2.2.1,(over b728_4 0 r10.1),b728_5,()),())))) else ((qbj b16_0 b16_2 b16_3 b16_4 b16_5 b16_6 b16_7 b16_8 b16_9 b24_6 x9 b728_0 b728_1 b728_2 b728_3 b728_4 b268_0).bind fun r11=>bif r11.2.2.2.2.2.2.2.2.2.2.1 then (bif Nat.ble ((b728_5.length+([(r11.2.1,((some ((some r11.2.2.2.2.2.2.2.2.2.2.2.2.2.2.2.2),())),(((r11.2.2.1,r11.2.2.2.1),r11.2.2.2.2.1),(r11.2.2.2.2.2.1,(((r11.2.2.2.2.2.2.1,r11.2.2.2.2.2.2.2.1),r11.2.2.2.2.2.2.2.2.1),r11.2.2.2.2.2.2.2.2.2.1)))))]).length)*144) 140737488355328&&!false then g (((v_62.1,(v_62.2.1,())),(iadd .i64 v_63 1),()),((b16_0,b16_2,b16_3,b16_4,b16_5,b16_6,b16_7,b16_8,b16_9,()),(b24_0,b24_1,b24_2,b24_3,b24_4,b24_5,b24_6,b24_7,b24_8,b24_9,b24_10,b24_11,b24_12,b24_13,()),(r11.2.2.2.2.2.2.2.2.2.2.2.2.2.2.2.1,()),(r11.2.2.2.2.2.2.2.2.2.2.2.1,r11.2.2.2.2.2.2.2.2.2.2.2.2.1,r11.2.2.2.2.2.2.2.2.2.2.2.2.2.1,r11.2.2.2.2.2.2.2.2.2.2.2.2.2.2.1,(over b728_4 0 r11.1),(b728_5++[(r11.2.1,((some ((some r11.2.2.2.2.2.2.2.2.2.2.2.2.2.2.2.2),())),(((r11.2.2.1,r11.2.2.2.1),r11.2.2.2.2.1),(r11.2.2.2.2.2.1,(((r11.2.2.2.2.2.2.1,r11.2.2.2.2.2.2.2.1),r11.2.2.2.2.2.2.2.2.1),r11.2.2.2.2.2.2.2.2.2.1)))))]),()),())) else none) else (g (((v_62.1,(v_62.2.1,())),(iadd .i64 v_63 1),()),((b16_0,b16_2,b16_3,b16_4,b16_5,b16_6,b16_7,b16_8,b16_9,()),(b24_0,b24_1,b24_2,b24_3,b24_4,b24_5,b24_6,b24_7,b24_8,b24_9,b24_10,b24_11,b24_12,b24_13,()),(r11.2.2.2.2.2.2.2.2.2.2.2.2.2.2.2.1,()),(r11.2.2.2.2.2.2.2.2.2.2.2.1,r11.2.2.2.2.2.2.2.2.2.2.2.2.1,r11.2.2.2.2.2.2.2.2.2.2.2.2.2.1,r11.2.2.2.2.2.2.2.2.2.2.2.2.2.2.1,(over b728_4 0 r11.1),b728_5,()),())))) else none) else (some ((()),((b728_0,b728_1,b728_2,b728_3,b728_4,b728_5,()),())))
abbrev qau:SG:=⟨[(0,.p 728 0 0)],[(728,[.v (.sl qbg),.v (.sl qal),.v (.int .i64),.v .bool,.f tRAT 32,.o (.pair (.int .i64) (.pair (.op (.pair (.os (.pair (.int .i64) (.pair tRAT qal))) .unit)) (.pair tRAT qfW))) 1733])],[],[]⟩
abbrev qaP:List (Ex×SG):=[(.exit 0,⟨[(0,.p 728 0 0)],[(728,[.v (.sl qbg),.v (.sl qal),.v (.int .i64),.v .bool,.f tRAT 32,.o (.pair (.int .i64) (.pair (.op (.pair (.os (.pair (.int .i64) (.pair tRAT qal))) .unit)) (.pair tRAT qfW))) 1733])],[],[]⟩)]
abbrev qcG:=(Unit×(((List NODE)×(List CELL)×Int×Bool×(List RAT)×(List (Int×(Option ((Option (List (Int×RAT×CELL)))×Unit))×RAT×PART))×Unit)×Unit))
abbrev qcF:=(Unit×(((List NODE)×(List CELL)×Int×Bool×(List RAT)×(List (Int×(Option ((Option (List (Int×RAT×CELL)))×Unit))×RAT×PART))×Unit)×Unit))
def qaN (g:qcG->Option qcF):qcG->Option qcF
 | (_,((b728_0,b728_1,b728_2,b728_3,b728_4,b728_5,_),_))=>bif (decide ((b728_5.length:Int)>0)) then (bif decide (0<=(isub .i64 (b728_5.length:Int) 1))&&decide ((isub .i64 (b728_5.length:Int) 1)<(b728_5.length:Int)) then (b728_5[(isub .i64 (b728_5.length:Int) 1).toNat]?).bind fun x3=>(x3.2.1).bind fun x4=>(x4.1).bind fun x5=>bif decide ((0:Int)<=(isub .i64 ((b728_5.set ((isub .i64 (b728_5.length:Int) 1).toNat) (x3.1,(none,x3.2.2))).length:Int) 1))&&decide (((isub .i64 ((b728_5.set ((isub .i64 (b728_5.length:Int) 1).toNat) (x3.1,(none,x3.2.2))).length:Int) 1):Int)<=(isub .i64 ((b728_5.set ((isub .i64 (b728_5.length:Int) 1).toNat) (x3.1,(none,x3.2.2))).length:Int) 1))&&decide (((isub .i64 ((b728_5.set ((isub .i64 (b728_5.length:Int) 1).toNat) (x3.1,(none,x3.2.2))).length:Int) 1):Int)<=((b728_5.set ((isub .i64 (b728_5.length:Int) 1).toNat) (x3.1,(none,x3.2.2))).length:Int)) then (qcS x3.1 x3.2.2.1.1.1 x3.2.2.1.1.2 x3.2.2.1.2 x3.2.2.2.1 x3.2.2.2.2.1.1.1 x3.2.2.2.2.1.1.2 x3.2.2.2.2.1.2 x3.2.2.2.2.2 x5).bind fun r6=>bif decide (0<=r6.1) then (b728_0[r6.1.toNat]?).bind fun x7=>bif x7.1 then ((qcw r6.1 r6.2.1 r6.2.2.1 r6.2.2.2.1 r6.2.2.2.2.1 r6.2.2.2.2.2.1 r6.2.2.2.2.2.2.1 r6.2.2.2.2.2.2.2.1 r6.2.2.2.2.2.2.2.2.1 b728_0 b728_1 b728_2 b728_3 b728_4 r6.2.2.2.2.2.2.2.2.2).bind fun r8=>g ((()),((r8.2.1,r8.2.2.1,r8.2.2.2.1,r8.2.2.2.2.1,(over b728_4 0 r8.1),((b728_5.set ((isub .i64 (b728_5.length:Int) 1).toNat) (x3.1,(none,x3.2.2))).take (((isub .i64 ((b728_5.set ((isub .i64 (b728_5.length:Int) 1).toNat) (x3.1,(none,x3.2.2))).length:Int) 1)-0).toNat)),()),()))) else ((lp qaM K0 (((false,(true,())),0,()),((r6.1,r6.2.1,r6.2.2.1,r6.2.2.2.1,r6.2.2.2.2.1,r6.2.2.2.2.2.1,r6.2.2.2.2.2.2.1,r6.2.2.2.2.2.2.2.1,r6.2.2.2.2.2.2.2.2.1,()),(x7.1,x7.2.1,x7.2.2.1.1.1,x7.2.2.1.1.2,x7.2.2.1.2,x7.2.2.2.1,x7.2.2.2.2.1,x7.2.2.2.2.2.1,x7.2.2.2.2.2.2.1.1.1,x7.2.2.2.2.2.2.1.1.2,x7.2.2.2.2.2.2.1.2,x7.2.2.2.2.2.2.2.1.1,x7.2.2.2.2.2.2.2.1.2,x7.2.2.2.2.2.2.2.2,()),(r6.2.2.2.2.2.2.2.2.2,()),(b728_0,b728_1,b728_2,b728_3,b728_4,((b728_5.set ((isub .i64 (b728_5.length:Int) 1).toNat) (x3.1,(none,x3.2.2))).take (((isub .i64 ((b728_5.set ((isub .i64 (b728_5.length:Int) 1).toNat) (x3.1,(none,x3.2.2))).length:Int) 1)-0).toNat)),()),()))).bind fun t12=>g ((()),((t12.2.1.1,t12.2.1.2.1,t12.2.1.2.2.1,t12.2.1.2.2.2.1,t12.2.1.2.2.2.2.1,t12.2.1.2.2.2.2.2.1,()),()))) else none else none else none) else (some ((()),((b728_0,b728_1,b728_2,b728_3,b728_4,b728_5,()),())))
def qcv (b_0:List NODE) (b_1:List CELL) (b_2:Int) (b_3:Bool) (b_4:List RAT) (b_5:List (Int×(Option ((Option (List (Int×RAT×CELL)))×Unit))×RAT×PART)):Option ((List RAT)×(List NODE)×(List CELL)×Int×Bool×(List (Int×(Option ((Option (List (Int×RAT×CELL)))×Unit))×RAT×PART))) :=
 (qgd ).bind fun r1=>(qdb ).bind fun r2=>(lp qaN K0 ((()),((b_0,b_1,b_2,b_3,b_4,[(0,((some ((some r1),())),(r2,((-1),(((false,[]),[]),false)))))],()),()))).bind fun t13=>(bif Nat.beq t13.2.1.2.2.2.2.1.length b_4.length then some (t13.2.1.2.2.2.2.1,()) else none).bind fun l14=>some (l14.1,t13.2.1.1,t13.2.1.2.1,t13.2.1.2.2.1,t13.2.1.2.2.2.1,t13.2.1.2.2.2.2.2.1)
abbrev w52:Wir:=⟨[.b],[[.x,.x,.x,.x,.l,.x]],0,none,[],[],0⟩
def c52:Ctr:=⟨[((.sl qbg),.imm),((.sl qal),.imm),((.int .i64),.imm),(.bool,.imm),((.sl tRAT),.lent),((.sl (.pair (.int .i64) (.pair (.op (.pair (.os (.pair (.int .i64) (.pair tRAT qal))) .unit)) (.pair tRAT qfW)))),.imm)],[((.sl qbg),false),((.sl qal),false),((.int .i64),false),(.bool,false),((.sl (.pair (.int .i64) (.pair (.op (.pair (.os (.pair (.int .i64) (.pair tRAT qal))) .unit)) (.pair tRAT qfW)))),false)],(List RAT)×(List NODE)×(List CELL)×Int×Bool×(List (Int×(Option ((Option (List (Int×RAT×CELL)))×Unit))×RAT×PART)),fun x=>qcv x.1 x.2.1 x.2.2.1 x.2.2.2.1 x.2.2.2.2.1 x.2.2.2.2.2.1,fun r=>((r.1,()),(r.2.1,r.2.2.1,r.2.2.2.1,r.2.2.2.2.1,r.2.2.2.2.2,())),some w52⟩
abbrev qbA:SG:=⟨[(1,.v (.sl qal)),(2,.v (.int .i64)),(3,.v .bool),(9,.o tRAT 79),(17,.v (.sl (.sl qbg))),(18,.v (.int .i64)),(19,.v (.int .i64))],[],[],[]⟩
abbrev qb6:List (Ex×SG):=[(.exit 0,⟨[(9,.o tRAT 79)],[],[],[]⟩)]
abbrev qeY:=(((List CELL)×Int×Bool×(List RAT)×(List (List NODE))×Int×Int×Unit)×Unit)
abbrev qeX:=(((List RAT)×Unit)×Unit)
def qb5 (g:qeY->Option qeX):qeY->Option qeX
 | ((row_1,fixed_2,on_3,out_9,v_17,v_18,v_19,_),_)=>bif (decide (v_19<v_18)) then (bif decide (0<=v_19) then (v_17[v_19.toNat]?).bind fun x2=>(qcv x2 row_1 fixed_2 on_3 out_9 ([])).bind fun r3=>g ((row_1,fixed_2,on_3,(over out_9 0 r3.1),v_17,v_18,(iadd .i64 v_19 1),()),()) else none) else (some ((out_9,()),()))
def qf7 (m_0:qhP) (row_1:List CELL) (fixed_2:Int) (on_3:Bool):Option (List RAT) :=
 (qeH m_0.1).bind fun r1=>(lp qb5 K0 ((row_1,fixed_2,on_3,r1,m_0.2,(m_0.2.length:Int),0,()),())).bind fun t4=>some t4.1.1
def c39:Ctr:=⟨[(qio,.imm),((.sl qal),.imm),((.int .i64),.imm),(.bool,.imm)],[((.sl tRAT),true)],(List RAT),fun x=>qf7 x.1 x.2.1 x.2.2.1 x.2.2.2.1,fun r=>((),(r,())),none⟩
def qem (m_0:qhP) (row_1:List CELL):Option ((List RAT)×Int) :=
 (qhY m_0 row_1).bind fun r1=>bif (!decide (r1=0)) then (some ([],r1)) else ((qf7 m_0 row_1 (-1) false).bind fun r2=>some (r2,0))
def c23:Ctr:=⟨[(qio,.imm),((.sl qal),.imm)],[((.sl tRAT),true),((.int .i64),false)],(List RAT)×Int,fun x=>qem x.1 x.2.1,fun r=>((),(r.1,r.2,())),none⟩
def qa5 :Option Bool :=
 (qhs 4).bind fun r1=>(qdb ).bind fun r2=>(qdb ).bind fun r3=>(qhs 3).bind fun r4=>(qdb ).bind fun r5=>(qem (1,([([(false,(0,(((false,[]),[]),(1,(2,(false,(((false,[]),[]),r1))))))),(true,(0,(((false,[]),[]),(0,(0,(false,(((false,[]),[]),r2))))))),(true,(0,(((false,[]),[]),(0,(0,(false,(r3,r4)))))))]:List NODE)]:List (List NODE))) ([(false,r5)]:List CELL)).bind fun r6=>bif (decide (r6.2=0)) then (bif (decide ((r6.1.length:Int)=1)) then (bif decide ((0:Int)<(r6.1.length:Int)) then (r6.1[0]?).bind fun x7=>(qch 1 4).bind fun r8=>(qgJ x7 r8).bind fun r9=>some r9 else none) else (some false)) else (some false)
def c12:Ctr:=⟨[],[(.bool,false)],Bool,fun x=>qa5 ,fun r=>((),(r,())),none⟩
def qaV (a_0:Int) (a_1:RAT):Option Bool :=
 (qbq a_0).bind fun r1=>(qbD a_0 ([])).bind fun r2=>(qbr ).bind fun r3=>(qci r2.2.2).bind fun r4=>(qbl a_0).bind fun r5=>(qaU a_0 r4.2).bind fun r6=>bif (decide ((iadd .i64 (iadd .i64 (iadd .i64 r3 r4.1) r5) r6.1)=0)) then ((qbm ).bind fun r7=>(qbb a_0 a_1 true).bind fun r8=>bif (decide (r8=18)) then ((qay a_0 a_1 true r6.2).bind fun r9=>bif (decide (r9.1=18)) then ((qba a_0).bind fun r10=>bif (decide (r10=18)) then ((qaX a_0 r9.2).bind fun r11=>bif (decide (r11.1=18)) then (bif (decide (r1.2=18)) then (bif (decide (r2.2.1=18)) then ((qa4 ).bind fun r12=>(qa1 r11.2).bind fun r13=>(qbf ).bind fun r14=>(qaC r13.2).bind fun r15=>bif (decide ((iadd .i64 (iadd .i64 (iadd .i64 (r12.length:Int) (r13.1.length:Int)) (r14.length:Int)) (r15.1.length:Int))=0)) then ((qa5 ).bind fun r16=>some r16) else (some false)) else (some false)) else (some false)) else (some false)) else (some false)) else (some false)) else (some false)) else (some false)
def c3:Ctr:=⟨[((.int .i64),.imm),(tRAT,.imm)],[(.bool,false)],Bool,fun x=>qaV x.1 x.2.1,fun r=>((),(r,())),none⟩
end Go.Proofs.YtmabkjhobhbfdaaDoor.X
